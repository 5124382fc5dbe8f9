/- The walks and the plain laws, part 5: MdlK, MdlL, MdlM, MdlFr, MdlSee, MdlN, MdlShow, MdlO, RB, TreeF, ChkH, RC, RetU, RetD, RD, RE. Conditions: those that each theorem names. -/
import Derived.Test.YtegkejcglfgpmaaGreatDoorPp4
section
namespace Go.Proofs.YtegkejcglfgpmaaGreatDoor
open Go Go.Lane Go.Sha
noncomputable def b61:Code:=Tryz.f61.body.getD .skip
theorem do_w(h:Heap)(mb mp:Nat)(M:Md)(m:Mod h mb mp M)(kd n:Int)(s:ByteArray)(l:List UInt8)(oa:Option Addr)(oc:Nat)(ka:Option Addr)(kn kc:Nat)(hr:Row h (.slice oa l.length oc) l.length 1 (l.map bv))(hsz:s.size ≤9223372036854775807)(kt:Ktab h)(hE:M.E.length ≤1099511627)(W:An)(hW:(step M kd n s l).2 =W):Sat Tryz.prog 17 #[.pointer (some ⟨mb,0,none⟩),.agg #[.int .i64 kd,.string s,.slice oa l.length oc,.int .i64 n,.slice ka kn kc]] h fun v h'=>∃qa qc ia ic pa pc,v=anv W (.slice qa W.b.length qc) (.slice ia W.i.length ic) (.slice pa W.p.length pc)∧RowE h' (.slice qa W.b.length qc) W.b.length 1 (W.b.map bv)∧RowE h' (.slice ia W.i.length ic) W.i.length 1 (W.i.map Value.string)∧RowE h' (.slice pa W.p.length pc) W.p.length 32 (hcs W.p)∧All32 W.p ∧Mod h' mb mp (step M kd n s l).1 ∧MG mb mp h h':=by
 subst hW
 exact(do_sat h mb mp M m kd n s l oa oc ka kn kc hr hsz kt hE).mono fun v h' ⟨⟨qa,qc,ia,ic,pa,pc,e,r1,r2,r3,r4⟩,g⟩=>⟨qa,qc,ia,ic,pa,pc,e,r1,r2,r3,r4,g⟩
set_option maxHeartbeats 1000000 in
theorem fits_sat(h:Heap)(jb mb mp:Nat)(M:Md)(m:Mod h mb mp M)(cv:Value)(o1 o2 o4:Bool)(hj:h[jb]? =some (.cells #[cv,.bool o1,.bool o2,.bool false,.bool o4] 77))(kd n:Int)(s:ByteArray)(l:List UInt8)(oa:Option Addr)(oc:Nat)(ka:Option Addr)(kn kc:Nat)(hr:RowE h (.slice oa l.length oc) l.length 1 (l.map bv))(hsz:s.size ≤9223372036854775807)(X:An)(xqa:Option Addr)(xqc:Nat)(xia:Option Addr)(xic:Nat)(xpa:Option Addr)(xpc:Nat)(xq:RowE h (.slice xqa X.b.length xqc) X.b.length 1 (X.b.map bv))(xi:RowE h (.slice xia X.i.length xic) X.i.length 1 (X.i.map Value.string))(xp:RowE h (.slice xpa X.p.length xpc) X.p.length 32 (hcs X.p))(x32:All32 X.p)(k11:kd≠11)(k15:kd≠15)(kt:Ktab h)(hE:M.E.length ≤1099511627):Sat Tryz.prog 61 #[.pointer (some ⟨jb,0,none⟩),.pointer (some ⟨mb,0,none⟩),.agg #[.int .i64 kd,.string s,.slice oa l.length oc,.int .i64 n,.slice ka kn kc],.agg (asc X.c (.slice xqa X.b.length xqc) X.sx X.se X.sh X.sg (.slice xia X.i.length xic) X.n X.y X.k (.slice xpa X.p.length xpc)).toArray] h fun v h'=>v= .int .i64 (fitF kd n s l X M).2 ∧Mod h' mb mp (fitF kd n s l X M).1 ∧MG mb mp h h':=by
 have hbj:=blk_lt hj
 obtain⟨hjm,hjp⟩:=m.ne2 hj (by decide)
 have e0:=Ext.refl h
 have h0s:=kt.lt
 have sep:Sep h.size h.size []:=Sep.nil _ _
 refine sat_in Tryz.func61 59 fun a hF=> ?_
 refine qS hF ?_
 refine tN 0 (pV h.size) #[.int .i64 kd,.string s,.slice oa l.length oc,.int .i64 n,.slice ka kn kc] 35 fun h1 g2 m3=> ?_
 have lt4:=blk_lt m3
 have zs5:=e0.size
 replace sep:=sep.nw e0.size m3
 refine tN 1 (pV h1.size) ((asc X.c (.slice xqa X.b.length xqc) X.sx X.se X.sh X.sg (.slice xia X.i.length xic) X.n X.y X.k (.slice xpa X.p.length xpc)).toArray) 47 fun h6 g7 m8=> ?_
 have lt9:=blk_lt m8
 replace e0:=e0.ext g2
 have zs10:=e0.size
 replace sep:=sep.nw e0.size m8
 refine sT [(6,pV h.size),(7,pV h1.size)] fun a hF=> ?_
 refine qS hF ?_
 replace m3:=m3.x g7
 refine tR 1 m3 ?_
 obtain⟨W,hW⟩:∃W,(step M kd n s l).2 =W:=⟨_,rfl⟩
 replace e0:=e0.ext g7
 have mE:=m.ext e0;have hwb:=step_bnd m kd n s l;rw[hW] at hwb
 replace kt:=(kt.ext g2).ext g7
 replace hr:=(hr.ext g2).ext g7
 refine tG 2 (do_w _ mb mp M mE kd n s l oa oc ka kn kc hr.1 hsz kt hE W hW) ?_
 rintro _ h11 ⟨qa,qc,ia,ic,pa,pc,rfl,r1,r2,r3,r4,hmod,gm⟩
 have gk:MG mb mp h h11:=(MG.ofExt e0).trans gm
 have hbk:=m.kb
 replace hj:=(hj.x g2).x g7
 replace hj:=gm.blk hj (by omega) (by omega)
 replace m3:=gm.blk m3 (by omega) (by omega)
 replace m8:=gm.blk m8 (by omega) (by omega)
 replace xq:=(xq.ext g2).ext g7
 replace xq:=xq.mgM gm mE
 replace xi:=(xi.ext g2).ext g7
 replace xi:=xi.mgM gm mE
 replace xp:=(xp.ext g2).ext g7
 replace xp:=xp.mgM gm mE
 replace sep:=sep.up gm.1
 refine tN 3 (pV h11.size) ((asc (0:Int) (.slice none 0 0) rb0 (0:Int) false false (.slice none 0 0) (0:Int) rb0 (0:Int) (.slice none 0 0)).toArray) 47 fun h12 g13 m14=> ?_
 have lt15:=blk_lt m14
 have zs16:=gk.1
 replace sep:=sep.nw gk.1 m14
 refine tV0 4 (asc W.c (.slice qa W.b.length qc) W.sx W.se W.sh W.sg (.slice ia W.i.length ic) W.n W.y W.k (.slice pa W.p.length pc)) m14 fun h17 g18 zq=> ?_
 replace xq:=xq.ext g13
 replace xq:=xq.put1 g18 m14 (by decide)
 replace xi:=xi.ext g13
 replace xi:=xi.put1 g18 m14 (by decide)
 replace xp:=xp.ext g13
 replace xp:=xp.put1 g18 m14 (by decide)
 replace r1:=r1.ext g13
 replace r1:=r1.put1 g18 m14 (by decide)
 replace r2:=r2.ext g13
 replace r2:=r2.put1 g18 m14 (by decide)
 replace r3:=r3.ext g13
 replace r3:=r3.put1 g18 m14 (by decide)
 replace hmod:=hmod.ext g13
 replace hmod:=hmod.put1 g18 m14 (by decide) (by omega)
 replace hj:=hj.x g13
 replace hj:=hj.y g18
 replace m14:=zq
 refine sT [(9,pV h11.size)] fun a hF=> ?_
 refine qP [(10,.int .i64 0)] hF fun a hF=> ?_
 refine cS ?_
 refine qS hF ?_
 replace m3:=(m3.x g13).y g18 (sep.bp 2 0)
 refine tO 1 0 m3 ?_
 refine sT [(15,.int .i64 kd)] fun a hF=> ?_
 refine cB 0 ?_
 refine qS hF ?_
 refine eF 0 kd 11 ?_
 refine sT [(16,.bool false)] fun a hF=> ?_
 refine cF 16 hF ?_
 refine qS hF ?_
 refine eF 0 kd 15 ?_
 refine sT [(18,.bool false)] fun a hF=> ?_
 refine cF 18 hF ?_
 refine qP [(23,.bool (decide (kd=(2:Int))))] hF fun a hF=> ?_
 refine cJ 23 hF (fun hc19=> ?_) fun hc19=> ?_
 ·skip
  refine qS hF ?_
  refine tO 3 3 hj ?_
  refine sT [(39,.bool false)] fun a hF=> ?_
  refine cF 39 hF ?_
  refine cN ?_
  refine bK ?_
  refine tK ?_
  refine cS ?_
  refine qP [(52,.bool false)] hF fun a hF=> ?_
  refine cF 52 hF ?_
  refine cN ?_
  refine tK ?_
  refine qS hF ?_
  refine tR 0 m14 ?_
  replace m8:=(m8.x g13).y g18 (sep.bp 1 0)
  refine tR 1 m8 ?_
  refine tG 2 (rule_v _ W X _ _ _ _ _ _ r1 r2 r3 _ _ _ _ _ _ xq xi xp r4 x32 (by omega) (by omega)) ?_
  rintro _ h21 ⟨rfl,g20⟩
  refine sT [(8,.int .i64 (ruleA W X))] fun a hF=> ?_
  refine cR ?_
  refine rT 8 (.int .i64 (ruleA W X)) hF ?_
  replace gk:=((gk.ext g13).ofO g18 (fun x e=>by cases e;omega)).ext g20
  replace hmod:=hmod.ext g20
  exact⟨by unfold fitF;rw[hW],hmod,gk⟩
 ·skip
  refine cN ?_
  refine bK ?_
  refine tK ?_
  refine cS ?_
  refine qP [(52,.bool false)] hF fun a hF=> ?_
  refine cF 52 hF ?_
  refine cN ?_
  refine tK ?_
  refine qS hF ?_
  refine tR 0 m14 ?_
  replace m8:=(m8.x g13).y g18 (sep.bp 1 0)
  refine tR 1 m8 ?_
  refine tG 2 (rule_v _ W X _ _ _ _ _ _ r1 r2 r3 _ _ _ _ _ _ xq xi xp r4 x32 (by omega) (by omega)) ?_
  rintro _ h23 ⟨rfl,g22⟩
  refine sT [(8,.int .i64 (ruleA W X))] fun a hF=> ?_
  refine cR ?_
  refine rT 8 (.int .i64 (ruleA W X)) hF ?_
  replace gk:=((gk.ext g13).ofO g18 (fun x e=>by cases e;omega)).ext g22
  replace hmod:=hmod.ext g22
  exact⟨by unfold fitF;rw[hW],hmod,gk⟩
noncomputable def b59:Code:=Tryz.f59.body.getD .skip
set_option maxHeartbeats 1000000 in
theorem hold_sat(h:Heap)(jb:Nat)(bs:List (Nat×Nat))(Ms:List Md)(o1 o2 o4:Bool)(ca:Option Addr)(cc:Nat)(ja:JA h jb bs ⟨Ms,o1,o2,false,o4⟩ ca cc)(kd n:Int)(s:ByteArray)(l:List UInt8)(oa:Option Addr)(oc:Nat)(ka:Option Addr)(kn kc:Nat)(hr:RowE h (.slice oa l.length oc) l.length 1 (l.map bv))(hsz:s.size ≤9223372036854775807)(X:An)(xqa:Option Addr)(xqc:Nat)(xia:Option Addr)(xic:Nat)(xpa:Option Addr)(xpc:Nat)(xq:RowE h (.slice xqa X.b.length xqc) X.b.length 1 (X.b.map bv))(xi:RowE h (.slice xia X.i.length xic) X.i.length 1 (X.i.map Value.string))(xp:RowE h (.slice xpa X.p.length xpc) X.p.length 32 (hcs X.p))(x32:All32 X.p)(k11:kd≠11)(k15:kd≠15)(kt:Ktab h)(hE:∀M∈Ms,M.E.length ≤1099511627)(hn:bs.length ≤1099511627):Sat Tryz.prog 59 #[.pointer (some ⟨jb,0,none⟩),.agg #[.int .i64 kd,.string s,.slice oa l.length oc,.int .i64 n,.slice ka kn kc],.agg (asc X.c (.slice xqa X.b.length xqc) X.sx X.se X.sh X.sg (.slice xia X.i.length xic) X.n X.y X.k (.slice xpa X.p.length xpc)).toArray,.func (.func 61) #[.pointer (some ⟨jb,0,none⟩)] #[]] h fun v h'=>v= .int .i64 (holdJ ⟨Ms,o1,o2,false,o4⟩ (fitF kd n s l X)).2 ∧∃bs' ca cc,JA h' jb bs' (holdJ ⟨Ms,o1,o2,false,o4⟩ (fitF kd n s l X)).1 ca cc∧(∀x∈bs',x∈bs)∧Gr (JF jb bs) h h':=by
 obtain⟨hj,row,cs0⟩:=ja
 have hj0:=hj
 have hbj:=blk_lt hj
 have hjb:=cs0.nej hj (by decide)
 have hnr:=cs0.nonrow hj (by decide) (by decide)
 have e0:=Ext.refl h
 have h0s:=kt.lt
 have sep:Sep h.size h.size []:=Sep.nil _ _
 refine sat_in Tryz.func59 47 fun a hF=> ?_
 refine qS hF ?_
 refine tN 0 (pV h.size) #[.int .i64 kd,.string s,.slice oa l.length oc,.int .i64 n,.slice ka kn kc] 35 fun h1 g2 m3=> ?_
 have lt4:=blk_lt m3
 have zs5:=e0.size
 replace sep:=sep.nw e0.size m3
 refine tN 1 (pV h1.size) ((asc X.c (.slice xqa X.b.length xqc) X.sx X.se X.sh X.sg (.slice xia X.i.length xic) X.n X.y X.k (.slice xpa X.p.length xpc)).toArray) 47 fun h6 g7 m8=> ?_
 have lt9:=blk_lt m8
 replace e0:=e0.ext g2
 have zs10:=e0.size
 replace sep:=sep.nw e0.size m8
 refine sT [(5,pV h.size),(6,pV h1.size)] fun a hF=> ?_
 refine qP [(9,.slice none 0 0)] hF fun a hF=> ?_
 refine qP [(10,.int .i64 0)] hF fun a hF=> ?_
 refine cS ?_
 refine qS hF ?_
 replace hj:=(hj.x g2).x g7
 refine tO 3 0 hj ?_
 refine sT [(17,.slice ca bs.length cc),(18,nV bs.length),(19,.int .i64 0)] fun a hF=> ?_
 refine cB 0 ?_
 have own_f:Own h6 (.slice none 0 0) 55 0 1 ((fitB (fitF kd n s l X) bs Ms 0).map mpt):=Own.nil _ _ _
 replace e0:=e0.ext g7
 have hlo:=e0.size
 replace sep:=sep.none hlo;clear hlo
 have gj:Gr (JF jb bs) h h6:=(Gr.start _ _).ext e0
 have cs:CA h6 bs Ms:=cs0.ext e0
 replace kt:=(kt.ext g2).ext g7
 replace m3:=m3.x g7
 refine cL (fun m a h'=>∃k:Nat,∃ad:Option Addr,∃cap:Nat,m=bs.length - k∧(Ktab h')∧(h'[jb]? =some (.cells #[.slice ca bs.length cc,.bool o1,.bool o2,.bool false,.bool o4] 77))∧(h'[h.size]? =some (.cells #[.int .i64 kd,.string s,.slice oa l.length oc,.int .i64 n,.slice ka kn kc] 35))∧(h'[h1.size]? =some (.cells (asc X.c (.slice xqa X.b.length xqc) X.sx X.se X.sh X.sg (.slice xia X.i.length xic) X.n X.y X.k (.slice xpa X.p.length xpc)).toArray 47))∧(k≤bs.length)∧(Gr (JF jb bs) h h')∧(CA h' bs ((Ms.take k).map (fun M=>((fitF kd n s l X) M).1)++Ms.drop k))∧(Own h' (.slice ad ((fitB (fitF kd n s l X) bs Ms k).length) cap) 55 ((fitB (fitF kd n s l X) bs Ms k).length) 1 ((fitB (fitF kd n s l X) bs Ms k).map mpt))∧(Sep h.size h'.size [ad.map (·.block),some (h1.size),some (h.size)])∧(Fr a 47 [(0,.pointer (some ⟨jb,0,none⟩)),(3,.func (.func 61) #[.pointer (some ⟨jb,0,none⟩)] #[]),(5,.pointer (some ⟨h.size,0,none⟩)),(6,.pointer (some ⟨h1.size,0,none⟩)),(9,.slice ad ((fitB (fitF kd n s l X) bs Ms k).length) cap),(10,.int .i64 (fstJ (fitF kd n s l X) Ms k)),(17,.slice ca bs.length cc),(18,.int .i64 ((bs.length :Nat):Int)),(19,.int .i64 ((k:Nat):Int))])) (bs.length - 0) ⟨0,none,0,rfl,kt,hj,m3,m8,(by omega),gj,cs,own_f,sep,hF.to⟩ ?_
 clear hF a
 clear kt
 clear hj
 clear m3
 clear m8
 clear gj
 clear cs
 clear own_f
 clear sep
 rintro m a h11 ⟨k,ad,cap,rfl,kt,hj,m3,m8,hk,gj,cs,own_f,sep,hF⟩
 refine qP [(20,.bool (decide (((k:Nat):Int)<((bs.length :Nat):Int))))] hF fun a hF=> ?_
 refine cS ?_
 refine cJ 20 hF (fun hc12=> ?_) fun hc12=> ?_
 ·skip
  have hkn:k<bs.length :=by omega
  obtain⟨x,hx⟩:∃x,bs[k]? =some x:=⟨_,List.getElem?_eq_getElem hkn⟩
  obtain⟨M,hM⟩:∃M,Ms[k]? =some M:=⟨_,List.getElem?_eq_getElem (by rw[←cs0.len];exact hkn)⟩
  have hxm:=List.mem_of_getElem? hx
  have m0:=cs0.at_ k x M hx hM
  have mk:=cs.at_ k x M hx (cur_at (fun M=>((fitF kd n s l X) M).1) hM)
  have hmk:=m0.kb;have hmk1:=m0.k1
  obtain⟨hjm,hjp⟩:=m0.ne2 hj0 (by decide)
  have hEM:=hE M (List.mem_of_getElem? hM)
  have hFn:=hF
  obtain⟨aa,rfl,hcap_aa⟩:=row.1.someA (by omega)
  have hF:=hFn;clear hFn
  refine cN ?_
  refine tK ?_
  refine cS ?_
  refine cB 1 ?_
  refine qS hF ?_
  refine tI 1 aa bs.length 1 k k ?_
  refine tC 2 (pV x.1) (Calm.load (T:=55) (p:=(Addr.add aa k)) (by kernel_rfl) (Loads.one (k:=1) (by kernel_rfl) ((row.fr gj fun i e=>(hnr i e).2).1.cells k (mpt x) (by rw[List.getElem?_map,hx];rfl)))) ?_
  refine sT [(11,nV k),(12,pV x.1)] fun a hF=> ?_
  refine qS hF ?_
  refine tR 2 m3 ?_
  refine tR 3 m8 ?_
  refine tF 4 (Does.call (f:=61) (args:= #[.pointer (some ⟨jb,0,none⟩),.pointer (some ⟨x.1,0,none⟩),.agg #[.int .i64 kd,.string s,.slice oa l.length oc,.int .i64 n,.slice ka kn kc],.agg (asc X.c (.slice xqa X.b.length xqc) X.sx X.se X.sh X.sg (.slice xia X.i.length xic) X.n X.y X.k (.slice xpa X.p.length xpc)).toArray]) (by kernel_rfl) (fits_sat _ jb x.1 x.2 M mk _ o1 o2 o4 hj kd n s l oa oc ka kn kc (hr.fr gj fun i e=>(hnr i e).1) hsz X xqa xqc xia xic xpa xpc (xq.fr gj fun i e=>(hnr i e).1) (xi.fr gj fun i e=>(hnr i e).1) (xp.fr gj fun i e=>(hnr i e).1) x32 k11 k15 kt hEM)) ?_
  rintro _ h13 ⟨rfl,hmod,gm⟩
  replace cs:=cs.set hx (cur_at (fun M=>((fitF kd n s l X) M).1) hM) gm hmod
  rw[cur_set (fun M=>((fitF kd n s l X) M).1) hM] at cs
  replace gj:=gj.thenF gm (by rintro i (e|e);exact .inl (.inr ⟨x,hxm,.inl e⟩);exact .inl (.inr ⟨x,hxm,.inr e⟩))
  replace kt:=kt.gr gm (by rintro(e|e)<;>omega)
  replace hj:=gm.blk hj (by omega) (by omega)
  replace m3:=gm.blk m3 (by omega) (by omega)
  replace m8:=gm.blk m8 (by omega) (by omega)
  replace own_f:=Gr.own gm own_f (by rw[blkOf_slice];intro k e;have:=sep.low 0 rfl k e;rintro(e2|e2)<;>omega)
  replace sep:=sep.up gm.1
  refine sT [(13,.int .i64 (((fitF kd n s l X) M).2))] fun a hF=> ?_
  refine cS ?_
  refine qP [(30,.bool (decide ((((fitF kd n s l X) M).2)=(0:Int))))] hF fun a hF=> ?_
  refine cJ 30 hF (fun hc14=> ?_) fun hc14=> ?_
  ·skip
   have hfz:=fitB_yes (f:=(fitF kd n s l X)) hx hM hc14
   have hfl:=fitB_le (f:=(fitF kd n s l X)) (bs:=bs) (Ms:=Ms) (i:=k)
   refine rS hF ?_
   refine tN 2 (.slice (some ⟨h13.size,0,none⟩) 1 1) #[pV x.1] 55 fun h15 g16 m17=> ?_
   have lt18:=blk_lt m17
   have zs19:=gj.1
   replace sep:=sep.nw gj.1 m17
   replace own_f:=own_f.ext g16
   refine tP 3 ((fitB (fitF kd n s l X) bs Ms k).length +1) 8 ((fitB (fitF kd n s l X) bs Ms k).map mpt++[mpt x]) own_f (Row.blk (n:=1) (sz:=1) (l:=[mpt x]) m17 rfl) (List.all_eq_true.1 (by rfl)) (fun ad20 cap21 h22 ownx g23 hb24=> ?_)
   replace gj:=gj.ext g16
   replace cs:=cs.ext g16
   replace cs:=cs.ownO g23 own_f (blkOf_slice ..) (by decide) (by decide)
   replace hj:=hj.x g16
   replace hj:=hj.y g23 (fun e=>by have:=sep.low 1 rfl _ e.symm;omega)
   have s25:=sep
   replace sep:=sep.sa g23 1 hb24 ownx gj.1;clear hb24
   replace own_f:=ownx;clear ownx
   have hfl2:(fitB (fitF kd n s l X) bs Ms k).length +1=(fitB (fitF kd n s l X) bs Ms (k+1)).length :=by rw[hfz,List.length_append];rfl
   rw[hfl2,show(fitB (fitF kd n s l X) bs Ms k).map mpt++[mpt x]=(fitB (fitF kd n s l X) bs Ms (k+1)).map mpt by rw[hfz,List.map_append];rfl] at own_f
   refine sE [(9,.slice ad20 ((fitB (fitF kd n s l X) bs Ms k).length +1) cap21)] fun a hF=> ?_
   have hcan:((fitB (fitF kd n s l X) bs Ms k).length +1:Nat)=(fitB (fitF kd n s l X) bs Ms (k+1)).length :=by first|exact hfl2| (simp;done)| (simp;omega)
   rw[hcan] at hF;clear hcan
   refine tK ?_
   refine qP [(36,.bool (decide (((k:Nat):Int)=(0:Int))))] hF fun a hF=> ?_
   refine cJ 36 hF (fun hc26=> ?_) fun hc26=> ?_
   ·skip
    have hk0:k=0:=by omega
    have hfst:=fst_zero (f:=(fitF kd n s l X)) hk0 hM
    refine rP [(10,.int .i64 (((fitF kd n s l X) M).2))] hF fun a hF=> ?_
    rw[←hfst] at hF
    refine bK ?_
    refine tK ?_
    refine rS hF ?_
    refine tA 0 k 1 ?_
    refine sE [(19,nV (k+1))] fun a hF=> ?_
    clear m17 lt18 zs19
    replace kt:=(kt.ext g16).grew g23 (s25.zero 1 rfl h0s)
    replace m3:=(m3.x g16).y g23 (s25.bp 3 1)
    replace m8:=(m8.x g16).y g23 (s25.bp 2 1)
    replace gj:=gj.thenO g23 (fun i e=> .inr (by have:=s25.low 1 rfl i e;omega))
    replace sep:=sep.sub (l':=[ad20.map (·.block),some (h1.size),some (h.size)]) (.cons _ (.cons_cons _ (.cons_cons _ (.cons_cons _ (.slnil)))))
    show ∃m',m'<_∧_
    refine⟨_,?_,(k+1),ad20,cap21,rfl,kt,hj,m3,m8,(by omega),gj,cs,own_f,sep,hF.to⟩
    omega
   ·skip
    rw[←fst_more (fitF kd n s l X) Ms (k:=k) (by omega)] at hF
    refine cN ?_
    refine bK ?_
    refine tK ?_
    refine rS hF ?_
    refine tA 0 k 1 ?_
    refine sE [(19,nV (k+1))] fun a hF=> ?_
    clear m17 lt18 zs19
    replace kt:=(kt.ext g16).grew g23 (s25.zero 1 rfl h0s)
    replace m3:=(m3.x g16).y g23 (s25.bp 3 1)
    replace m8:=(m8.x g16).y g23 (s25.bp 2 1)
    replace gj:=gj.thenO g23 (fun i e=> .inr (by have:=s25.low 1 rfl i e;omega))
    replace sep:=sep.sub (l':=[ad20.map (·.block),some (h1.size),some (h.size)]) (.cons _ (.cons_cons _ (.cons_cons _ (.cons_cons _ (.slnil)))))
    show ∃m',m'<_∧_
    refine⟨_,?_,(k+1),ad20,cap21,rfl,kt,hj,m3,m8,(by omega),gj,cs,own_f,sep,hF.to⟩
    omega
  ·skip
   have hfz:=fitB_no (f:=(fitF kd n s l X)) hx hM hc14
   rw[←hfz] at own_f hF
   refine cN ?_
   refine tK ?_
   refine qP [(36,.bool (decide (((k:Nat):Int)=(0:Int))))] hF fun a hF=> ?_
   refine cJ 36 hF (fun hc27=> ?_) fun hc27=> ?_
   ·skip
    have hk0:k=0:=by omega
    have hfst:=fst_zero (f:=(fitF kd n s l X)) hk0 hM
    refine rP [(10,.int .i64 (((fitF kd n s l X) M).2))] hF fun a hF=> ?_
    rw[←hfst] at hF
    refine bK ?_
    refine tK ?_
    refine rS hF ?_
    refine tA 0 k 1 ?_
    refine sE [(19,nV (k+1))] fun a hF=> ?_
    replace sep:=sep.sub (l':=[ad.map (·.block),some (h1.size),some (h.size)]) (.cons_cons _ (.cons_cons _ (.cons_cons _ (.slnil))))
    show ∃m',m'<_∧_
    refine⟨_,?_,(k+1),ad,cap,rfl,kt,hj,m3,m8,(by omega),gj,cs,own_f,sep,hF.to⟩
    omega
   ·skip
    rw[←fst_more (fitF kd n s l X) Ms (k:=k) (by omega)] at hF
    refine cN ?_
    refine bK ?_
    refine tK ?_
    refine rS hF ?_
    refine tA 0 k 1 ?_
    refine sE [(19,nV (k+1))] fun a hF=> ?_
    replace sep:=sep.sub (l':=[ad.map (·.block),some (h1.size),some (h.size)]) (.cons_cons _ (.cons_cons _ (.cons_cons _ (.slnil))))
    show ∃m',m'<_∧_
    refine⟨_,?_,(k+1),ad,cap,rfl,kt,hj,m3,m8,(by omega),gj,cs,own_f,sep,hF.to⟩
    omega
 ·skip
  refine cX 0 (xT (xT (xB ?_)))
  refine tK ?_
  refine cS ?_
  refine qP [(41,.bool (decide ((((fitB (fitF kd n s l X) bs Ms k).length :Nat):Int)=(0:Int))))] hF fun a hF=> ?_
  refine cJ 41 hF (fun hc28=> ?_) fun hc28=> ?_
  ·skip
   have hke:k=bs.length :=by omega
   rw[cur_end _ _ (hke.trans cs0.len)] at cs
   have hfn:=fit_nil (f:=(fitF kd n s l X)) (bs:=bs) (Ms:=Ms) cs0.len (by rw[←hke];omega)
   refine qP [(8,.int .i64 (fstJ (fitF kd n s l X) Ms k))] hF fun a hF=> ?_
   refine cR (yT ?_)
   refine rT 8 (.int .i64 (fstJ (fitF kd n s l X) Ms k)) hF ?_
   rw[hold_no (f:=(fitF kd n s l X)) hfn];exact⟨by rw[fst_end (hke.trans cs0.len)],bs,ca,cc,⟨hj,row.fr gj fun i e=>(hnr i e).2,cs⟩,fun x hx=>hx,gj⟩
  ·skip
   have hke:k=bs.length :=by omega
   rw[cur_end _ _ (hke.trans cs0.len)] at cs
   have hfn:=fit_ne (f:=(fitF kd n s l X)) (bs:=bs) (Ms:=Ms) cs0.len (by rw[←hke];omega)
   refine cN ?_
   refine tK ?_
   refine qS hF ?_
   refine tW 4 0 ([.slice ad ((fitB (fitF kd n s l X) bs Ms k).length) cap]) ([.slice ca bs.length cc,.bool o1,.bool o2,.bool false,.bool o4]) ([.slice ad ((fitB (fitF kd n s l X) bs Ms k).length) cap,.bool o1,.bool o2,.bool false,.bool o4]) hj (fun h29 gz hjz=> ?_)
   refine sT [] fun a hF=> ?_
   refine qP [(8,.int .i64 0)] hF fun a hF=> ?_
   refine cR ?_
   refine rT 8 (.int .i64 0) hF ?_
   have hnj:∀i,i=jb→NonRow _ i:=fun i e=>e▸NonRow.cells hj (by decide)
   have hnp:∀i,i=jb→NonP _ i:=fun i e cs fr e2=>by rw[e,hj] at e2;cases e2
   rw[hold_yes (f:=(fitF kd n s l X)) hfn];exact⟨rfl,fitB (fitF kd n s l X) bs Ms k,_,_,⟨hjz,(RowP.of own_f).fr gz.toGr hnp,(hke▸cs.fit cs0.len).fr gz.toGr hnj fun x hx=>by have:=hjb x (fitB_sub x hx);exact⟨fun e=>this.1 e.symm,fun e=>this.2 e.symm⟩⟩,fitB_sub,gj.thenO gz (fun i e=>by cases e;exact .inl (.inl rfl))⟩
end Go.Proofs.YtegkejcglfgpmaaGreatDoor
end
section
namespace Go.Proofs.YtegkejcglfgpmaaGreatDoor
open Go Go.Lane Go.Sha
theorem same_neM(h:Heap)(mb mp nb np:Nat)(M N:Md)(m:Mod h mb mp M)(n:Mod h nb np N)(hne:M.E.length ≠N.E.length):Sat Tryz.prog 25 #[.pointer (some ⟨mb,0,none⟩),.pointer (some ⟨nb,0,none⟩)] h fun v h'=>v= .bool false∧Ext h h':=by
 obtain⟨L,ck,ea,ec,es,m⟩:=m
 obtain⟨L2,ck2,ea2,ec2,es2,n⟩:=n
 exact same_ne h mb mp M L ck ea ec es m nb np N L2 ck2 ea2 ec2 es2 n hne
noncomputable def b138:Code:=Tryz.f138.body.getD .skip
theorem index_no(h:Heap)(bs:List (Nat×Nat))(Ns:List Md)(va:Option Addr)(vc:Nat)(hr:Row h (.slice va bs.length vc) bs.length 1 (bs.map mpt))(cs:CA h bs Ns)(mb mp:Nat)(M:Md)(m:Mod h mb mp M)(hne:∀N∈Ns,M.E.length ≠N.E.length)(hn:bs.length ≤1099511627):Sat Tryz.prog 138 #[.slice va bs.length vc,.func (.func 25) #[.pointer (some ⟨mb,0,none⟩)] #[]] h fun v h'=>v= .int .i64 (-1)∧Ext h h':=by
 have e0:=Ext.refl h
 have sep:Sep h.size h.size []:=Sep.nil _ _
 refine sat_in Tryz.func138 19 fun a hF=> ?_
 refine qP [] hF fun a hF=> ?_
 refine cS ?_
 refine qP [(7,nV bs.length),(8,.int .i64 0)] hF fun a hF=> ?_
 refine cB 0 ?_
 refine cL (fun m a h'=>∃k:Nat,m=bs.length - k∧(Ext h h')∧(k≤bs.length)∧(Fr a 19 [(0,.slice va bs.length vc),(1,.func (.func 25) #[.pointer (some ⟨mb,0,none⟩)] #[]),(7,.int .i64 ((bs.length :Nat):Int)),(8,.int .i64 ((k:Nat):Int))])) (bs.length - 0) ⟨0,rfl,e0,(by omega),hF.to⟩ ?_
 clear hF a
 clear e0
 rintro m a h1 ⟨k,rfl,e0,hk,hF⟩
 refine qP [(9,.bool (decide (((k:Nat):Int)<((bs.length :Nat):Int))))] hF fun a hF=> ?_
 refine cS ?_
 refine cJ 9 hF (fun hc2=> ?_) fun hc2=> ?_
 ·skip
  have hkn:k<bs.length :=by omega
  obtain⟨x,hx⟩:∃x,bs[k]? =some x:=⟨_,List.getElem?_eq_getElem hkn⟩
  obtain⟨N,hN⟩:∃N,Ns[k]? =some N:=⟨_,List.getElem?_eq_getElem (by rw[←cs.len];exact hkn)⟩
  have hFn:=hF
  obtain⟨aa,rfl,hcap_aa⟩:=hr.someA (by omega)
  have hF:=hFn;clear hFn
  refine cN ?_
  refine tK ?_
  refine cS ?_
  refine cB 1 ?_
  refine qP [(5,nV k)] hF fun a hF=> ?_
  refine qS hF ?_
  refine tI 3 aa bs.length 1 k k ?_
  refine tC 4 (pV x.1) (Calm.load (T:=55) (p:=(Addr.add aa k)) (by kernel_rfl) (Loads.one (k:=1) (by kernel_rfl) ((hr.ext e0).cells k (mpt x) (by rw[List.getElem?_map,hx];rfl)))) ?_
  refine tF 5 (Does.call (f:=25) (args:= #[.pointer (some ⟨mb,0,none⟩),.pointer (some ⟨x.1,0,none⟩)]) (by kernel_rfl) (same_neM _ mb mp x.1 x.2 M N (m.ext e0) ((cs.at_ k x N hx hN).ext e0) (hne N (List.mem_of_getElem? hN)))) ?_
  rintro _ h3 ⟨rfl,g⟩
  replace e0:=e0.ext g
  clear g
  refine sT [(16,.bool false)] fun a hF=> ?_
  refine cF 16 hF ?_
  refine cN ?_
  refine bK ?_
  refine tK ?_
  refine rS hF ?_
  refine tA 0 k 1 ?_
  refine sE [(8,nV (k+1))] fun a hF=> ?_
  show ∃m',m'<_∧_
  refine⟨_,?_,(k+1),rfl,e0,(by omega),hF.to⟩
  omega
 ·skip
  refine cX 0 (xT (xT (xB ?_)))
  refine tK ?_
  refine qP [(4,.int .i64 (-1))] hF fun a hF=> ?_
  refine cR ?_
  refine rT 4 (.int .i64 (-1)) hF ?_
  exact⟨rfl,e0⟩
noncomputable def b120:Code:=Tryz.f120.body.getD .skip
theorem contains_no(h:Heap)(bs:List (Nat×Nat))(Ns:List Md)(va:Option Addr)(vc:Nat)(hr:Row h (.slice va bs.length vc) bs.length 1 (bs.map mpt))(cs:CA h bs Ns)(mb mp:Nat)(M:Md)(m:Mod h mb mp M)(hne:∀N∈Ns,M.E.length ≠N.E.length)(hn:bs.length ≤1099511627):Sat Tryz.prog 120 #[.slice va bs.length vc,.func (.func 25) #[.pointer (some ⟨mb,0,none⟩)] #[]] h fun v h'=>v= .bool false∧Ext h h':=by
 have e0:=Ext.refl h
 have sep:Sep h.size h.size []:=Sep.nil _ _
 refine sat_in Tryz.func120 9 fun a hF=> ?_
 refine qP [] hF fun a hF=> ?_
 refine qS hF ?_
 refine tG 2 (index_no _ bs Ns va vc (hr.ext e0) (cs.ext e0) mb mp M (m.ext e0) hne hn) ?_
 rintro _ h2 ⟨rfl,g1⟩
 refine sT [(4,.bool false)] fun a hF=> ?_
 refine cR ?_
 refine rT 4 (.bool false) hF ?_
 replace e0:=e0.ext g1
 exact⟨rfl,e0⟩
noncomputable def b96:Code:=Tryz.f96.body.getD .skip
theorem add_new(h:Heap)(bs:List (Nat×Nat))(Ns:List Md)(va:Option Addr)(vc:Nat)(own:Own h (.slice va bs.length vc) 55 bs.length 1 (bs.map mpt))(cs:CA h bs Ns)(mb mp:Nat)(M:Md)(m:Mod h mb mp M)(hne:∀N∈Ns,M.E.length ≠N.E.length)(hn:bs.length ≤1099511627):Sat Tryz.prog 96 #[.slice va bs.length vc,.pointer (some ⟨mb,0,none⟩)] h fun v h'=>∃ad cap,v= .slice ad (bs.length +1) cap∧Own h' (.slice ad (bs.length +1) cap) 55 (bs.length +1) 1 ((bs++[(mb,mp)]).map mpt)∧Grew (va.map (fun(x:Addr)=>x.block)) h h'∧(ad.map (fun(x:Addr)=>x.block)=va.map (fun(x:Addr)=>x.block)∨∃k,ad.map (fun(x:Addr)=>x.block)=some k∧h.size ≤k):=by
 have e0:=Ext.refl h
 have sep:Sep h.size h.size []:=Sep.nil _ _
 refine sat_in Tryz.func96 14 fun a hF=> ?_
 refine qP [] hF fun a hF=> ?_
 refine cS ?_
 refine qS hF ?_
 refine tG 3 (contains_no _ bs Ns va vc (own.row.ext e0) (cs.ext e0) mb mp M (m.ext e0) hne hn) ?_
 rintro _ h2 ⟨rfl,g1⟩
 refine sT [(8,.bool false)] fun a hF=> ?_
 refine cF 8 hF ?_
 refine cN ?_
 refine tK ?_
 refine qS hF ?_
 refine tN 2 (.slice (some ⟨h2.size,0,none⟩) 1 1) #[pV mb] 55 fun h3 g4 m5=> ?_
 have lt6:=blk_lt m5
 replace e0:=e0.ext g1
 have zs7:=e0.size
 replace sep:=(sep.up g1.size).nw e0.size m5
 replace e0:=e0.ext g4
 refine tF 3 (Does.append2 (t:=75) (E:=55) (sz:=1) (by_:=8) (n:=bs.length) (m:=1) (v:= .slice va bs.length vc) (x:= .slice (some ⟨h2.size,0,none⟩) 1 1) (xs:=bs.map mpt) (ys:=[mpt (mb,mp)]) (by kernel_rfl) (by kernel_rfl) (own.ext e0) (Row.blk (n:=1) (sz:=1) (l:=[mpt (mb,mp)]) m5 rfl) (List.all_eq_true.1 (by rfl)) (by unfold maxLen;omega) (by omega)) ?_
 rintro _ h10 ⟨ad8,cap9,rfl,ownx,gz,hbz⟩
 rw[blkOf_slice] at gz hbz
 have hse:=e0.size
 refine sT [(4,.slice ad8 (bs.length +1) cap9)] fun a hF=> ?_
 refine cR ?_
 refine rT 4 (.slice ad8 (bs.length +1) cap9) hF ?_
 exact⟨_,_,rfl,by rw[List.map_append];exact ownx,(e0.but _).trans gz,hbz.imp id fun e=>⟨_,e,hse⟩⟩
noncomputable def b58:Code:=Tryz.f58.body.getD .skip
theorem clone_M(h:Heap)(mb mp:Nat)(M:Md)(m:Mod h mb mp M)(hE:M.E.length ≤1099511627):Sat Tryz.prog 23 #[.pointer (some ⟨mb,0,none⟩)] h fun v h'=>∃c q,v= .pointer (some ⟨c,0,none⟩)∧Mod h' c q M∧h.size ≤c∧h.size ≤q∧Ext h h':=by
 obtain⟨L,ck,ea,ec,es,m⟩:=m
 exact clone_a h mb mp M L ck ea ec es m (fun _ e=>e.elim) hE
set_option maxHeartbeats 1000000 in
theorem part_one(h:Heap)(jb:Nat)(x:Nat×Nat)(M:Md)(o1 o2 o3 o4:Bool)(aa:Addr)(cc:Nat)(ja:JA h jb [x] ⟨[M],o1,o2,o3,o4⟩ (some aa) cc)(kd n:Int)(s:ByteArray)(l:List UInt8)(oa:Option Addr)(oc:Nat)(ka:Option Addr)(kn kc:Nat)(hr:RowE h (.slice oa l.length oc) l.length 1 (l.map bv))(hsz:s.size ≤9223372036854775807)(kt:Ktab h)(hE:M.E.length ≤1099511627)(hc:(step M kd n s l).2.c =0)(hne:(step M kd n s l).1.E.length ≠M.E.length):Sat Tryz.prog 58 #[.pointer (some ⟨jb,0,none⟩),.agg #[.int .i64 kd,.string s,.slice oa l.length oc,.int .i64 n,.slice ka kn kc]] h fun _ h'=>∃y ca cc,JA h' jb [(x.1,x.2),y] ⟨[M,(step M kd n s l).1],o1,o2,o3,false⟩ ca cc∧h.size ≤y.1 ∧h.size ≤y.2 ∧Gr (fun k=>k=jb) h h':=by
 obtain⟨hj,row,cs0⟩:=ja
 have m:=cs0.get1
 have hj0:=hj
 have hbj:=blk_lt hj
 have gj:=Gr.start (fun k=>k=jb) h
 have e0:=Ext.refl h
 have sep:Sep h.size h.size []:=Sep.nil _ _
 refine sat_in Tryz.func58 41 fun a hF=> ?_
 refine qS hF ?_
 refine tN 0 (pV h.size) #[.int .i64 kd,.string s,.slice oa l.length oc,.int .i64 n,.slice ka kn kc] 35 fun h1 g2 m3=> ?_
 have lt4:=blk_lt m3
 have zs5:=e0.size
 have zs6:=gj.1
 replace sep:=sep.nw e0.size m3
 refine sT [(3,pV h.size)] fun a hF=> ?_
 refine qP [(4,.slice none 0 0)] hF fun a hF=> ?_
 refine cS ?_
 refine qS hF ?_
 replace hj:=hj.x g2
 refine tO 3 0 hj ?_
 refine sT [(11,.slice (some aa) 1 cc),(12,.int .i64 1),(13,.int .i64 0)] fun a hF=> ?_
 refine cB 0 ?_
 refine cU 2 ?_
 refine Cround.step ?_
 refine qP [(14,.bool true)] hF fun a hF=> ?_
 refine cS ?_
 refine cT 14 hF ?_
 refine cN ?_
 refine tK ?_
 refine cS ?_
 refine cB 1 ?_
 refine qS hF ?_
 refine tI 0 aa 1 1 0 0 ?_
 replace e0:=e0.ext g2
 refine tC 1 (pV x.1) (Calm.load (T:=55) (p:=aa) (by kernel_rfl) (Loads.one (k:=1) (by kernel_rfl) ((row.1.ext e0).cells 0 (mpt x) rfl))) ?_
 refine sT [(6,pV x.1)] fun a hF=> ?_
 refine qS hF ?_
 have own_l:Own h1 (.slice none 0 0) 55 0 1 (([]:List (Nat×Nat)).map mpt):=Own.nil _ _ _
 have hlo:=e0.size
 replace sep:=sep.none hlo;clear hlo
 have mx:=m.ext e0
 have hmk:=m.kb;have hmk1:=m.k1
 obtain⟨hjm,hjp⟩:=m.ne2 hj0 (by decide)
 refine tG 2 (add_new _ [] [] none 0 own_l (CA.nil _) x.1 x.2 M mx (by simp) (by decide)) ?_
 rintro _ h9 ⟨ad7,cap8,rfl,ownx,g,hbz⟩
 have hlo:=e0.size
 have sepo:=sep
 replace gj:=gj.ext g2
 replace e0:=e0.grew g (sep.low 0 rfl)
 replace gj:=gj.thenO g (fun i e=> .inr (sep.low 0 rfl i e))
 replace mx:=mx.ownG g own_l (blkOf_slice ..) (by decide) (by decide)
 replace hj:=hj.y g (fun e=>by have:=sep.low 0 rfl _ e.symm;omega)
 replace m3:=m3.y g (sep.bp 1 0)
 replace sep:=sep.up g.size
 replace sep:Sep h.size h9.size [ad7.map (·.block),some (h.size)]:=sepo.set g.size hlo 0 (y:=ad7.map (fun(x:Addr)=>x.block)) rfl (hbz.imp id .inr) (fun k e=>ownx.lt (by rw[blkOf_slice];exact e))
 clear own_l;have own_l:Own h9 (.slice ad7 1 cap8) 55 1 1 ([(x.1,x.2)].map mpt):=ownx;clear ownx g hbz hlo sepo
 refine sT [(4,.slice ad7 1 cap8)] fun a hF=> ?_
 refine qS hF ?_
 refine tG 1 (clone_M _ x.1 x.2 M mx hE) ?_
 rintro _ h10 ⟨c,q,rfl,my,hc1,hq1,g⟩
 have hse:=e0.size;replace hc1:=Nat.le_trans hse hc1;replace hq1:=Nat.le_trans hse hq1;clear hse
 replace e0:=e0.ext g
 replace gj:=gj.ext g
 replace own_l:=own_l.ext g
 replace mx:=mx.ext g
 replace hj:=hj.x g
 replace m3:=m3.x g
 replace sep:=sep.up g.size
 clear g
 refine sT [(7,pV c)] fun a hF=> ?_
 refine qS hF ?_
 refine tR 1 m3 ?_
 have my_own:=my.nown own_l (by decide)
 obtain⟨W,hW⟩:∃W,(step M kd n s l).2 =W:=⟨_,rfl⟩
 have hWc:W.c =0:=by rw[←hW];exact hc
 have hmyk:=my.kb
 refine tG 2 (do_w _ c q M my kd n s l oa oc ka kn kc (hr.1.ext e0) hsz (kt.ext e0) hE W hW) ?_
 rintro _ h11 ⟨qa,qc,ia,ic,pa,pc,rfl,_,_,_,_,my2,gm⟩
 replace e0:Ext h h11:=Gr.toExt e0 gm (by rintro k (e|e)<;>omega)
 replace gj:=gj.thenF gm (by rintro k (e|e)<;>exact .inr (by omega))
 replace mx:=mx.other my gm (by omega) (by omega)
 clear my;have my:=my2;clear my2
 replace hj:=gm.blk hj (by omega) (by omega)
 clear m3
 replace own_l:=Gr.own gm own_l (by rw[blkOf_slice];exact my_own)
 replace sep:=sep.up gm.1
 refine eT 4 W.c 0 ?_
 refine sT [(26,.bool true)] fun a hF=> ?_
 refine cT 26 hF ?_
 refine rS hF ?_
 refine tG 2 (add_new _ [(x.1,x.2)] [M] _ _ own_l (CA.one mx) c q (step M kd n s l).1 my (fun N hN=>by rw[List.mem_singleton.1 hN];exact hne) (by simp)) ?_
 rintro _ h14 ⟨ad12,cap13,rfl,ownx,g,hbz⟩
 have hlo:=e0.size
 have sepo:=sep
 replace e0:=e0.grew g (sep.low 0 rfl)
 replace gj:=gj.thenO g (fun i e=> .inr (sep.low 0 rfl i e))
 replace mx:=mx.ownG g own_l (blkOf_slice ..) (by decide) (by decide)
 replace my:=my.ownG g own_l (blkOf_slice ..) (by decide) (by decide)
 replace hj:=hj.y g (fun e=>by have:=sep.low 0 rfl _ e.symm;omega)
 replace sep:=sep.up g.size
 replace sep:Sep h.size h14.size [ad12.map (·.block),some (h.size)]:=sepo.set g.size hlo 0 (y:=ad12.map (fun(x:Addr)=>x.block)) rfl (hbz.imp id .inr) (fun k e=>ownx.lt (by rw[blkOf_slice];exact e))
 clear own_l;have own_l:Own h14 (.slice ad12 2 cap13) 55 2 1 ([(x.1,x.2),(c,q)].map mpt):=ownx;clear ownx g hbz hlo sepo
 refine sE [(4,.slice ad12 2 cap13)] fun a hF=> ?_
 refine bK ?_
 refine tK ?_
 refine rP [(13,.int .i64 1)] hF fun a hF=> ?_
 refine tK (Cround.step ?_)
 refine qP [(14,.bool false)] hF fun a hF=> ?_
 refine cS ?_
 refine cF 14 hF ?_
 refine cX 0 (xT (xT (xB ?_)))
 refine tK ?_
 refine qS hF ?_
 refine tV 4 0 [.slice ad12 2 cap13] [.slice ad12 2 cap13,.bool o1,.bool o2,.bool o3,.bool o4] hj fun h15 g16 zq=> ?_
 clear e0
 replace gj:=gj.thenO g16 (fun i e=>by cases e;exact .inl rfl)
 replace own_l:=own_l.kept g16 (by rw[blkOf_slice];right;intro e;have:=sep.low 0 rfl _ e;omega)
 replace mx:=mx.put1 g16 hj (by decide) (by omega)
 replace my:=my.put1 g16 hj (by decide) (by omega)
 replace sep:=sep.up g16.size
 replace hj:=zq
 refine sT [] fun a hF=> ?_
 refine rS hF ?_
 refine tV 6 4 [.bool false] [.slice ad12 2 cap13,.bool o1,.bool o2,.bool o3,.bool false] hj fun h17 g18 zq=> ?_
 replace gj:=gj.thenO g18 (fun i e=>by cases e;exact .inl rfl)
 replace own_l:=own_l.kept g18 (by rw[blkOf_slice];right;intro e;have:=sep.low 0 rfl _ e;omega)
 replace mx:=mx.put1 g18 hj (by decide) (by omega)
 replace my:=my.put1 g18 hj (by decide) (by omega)
 replace sep:=sep.up g18.size
 replace hj:=zq
 refine sE [] fun a hF=> ?_
 refine n0 hF ?_
 exact⟨(c,q),_,_,⟨hj,RowP.of own_l,CA.two mx my (by show x.1 ≠c;omega) (by show x.2 ≠q;omega)⟩,hc1,hq1,gj⟩
end Go.Proofs.YtegkejcglfgpmaaGreatDoor
end
section
namespace Go.Proofs.YtegkejcglfgpmaaGreatDoor
open Go Go.Lane Go.Sha
noncomputable def b57:Code:=Tryz.f57.body.getD .skip
theorem event_fuse(h:Heap)(jb:Nat)(bs:List (Nat×Nat))(Ms:List Md)(ca:Option Addr)(cc:Nat)(o2:Bool)(o3:Bool)(o4:Bool)(ja:JA h jb bs ⟨Ms,false,o2,o3,o4⟩ ca cc)(kd n:Int)(s:ByteArray)(l:List UInt8)(oa:Option Addr)(oc:Nat)(ka:Option Addr)(kn kc:Nat)(X:An)(xb xi xp:Value)(hk:kd=12):Sat Tryz.prog 57 #[.pointer (some ⟨jb,0,none⟩),.agg #[.int .i64 kd,.string s,.slice oa l.length oc,.int .i64 n,.slice ka kn kc],.agg (asc X.c (xb) X.sx X.se X.sh X.sg (xi) X.n X.y X.k (xp)).toArray] h fun v h'=>v=anv an0 (.slice none 0 0) (.slice none 0 0) (.slice none 0 0)∧JA h' jb bs ⟨Ms,false,decide (0≤n),o3,o4⟩ ca cc∧Gr (fun k=>k=jb) h h':=by
 have hj:=ja.hj
 have hj0:=ja.hj
 have hbj:=blk_lt hj
 have gj:=Gr.start (fun k=>k=jb) h
 have e0:=Ext.refl h
 have sep:Sep h.size h.size []:=Sep.nil _ _
 refine sat_in Tryz.func57 79 fun a hF=> ?_
 refine qS hF ?_
 refine tN 0 (pV h.size) #[.int .i64 kd,.string s,.slice oa l.length oc,.int .i64 n,.slice ka kn kc] 35 fun h1 g2 m3=> ?_
 have lt4:=blk_lt m3
 have zs5:=e0.size
 have zs6:=gj.1
 replace sep:=sep.nw gj.1 m3
 refine tN 1 (pV h1.size) ((asc X.c (xb) X.sx X.se X.sh X.sg (xi) X.n X.y X.k (xp)).toArray) 47 fun h7 g8 m9=> ?_
 have lt10:=blk_lt m9
 replace e0:=e0.ext g2
 have zs11:=e0.size
 replace gj:=gj.ext g2
 have zs12:=gj.1
 replace sep:=sep.nw gj.1 m9
 refine tN 2 (pV h7.size) ((asc (0:Int) (.slice none 0 0) rb0 (0:Int) false false (.slice none 0 0) (0:Int) rb0 (0:Int) (.slice none 0 0)).toArray) 47 fun h13 g14 m15=> ?_
 have lt16:=blk_lt m15
 replace e0:=e0.ext g8
 have zs17:=e0.size
 replace gj:=gj.ext g8
 have zs18:=gj.1
 replace sep:=sep.nw gj.1 m15
 refine sT [(4,pV h.size),(5,pV h1.size),(6,pV h7.size)] fun a hF=> ?_
 refine cS ?_
 refine qS hF ?_
 replace m3:=(m3.x g8).x g14
 refine tO 1 0 m3 ?_
 refine sT [(10,.int .i64 kd)] fun a hF=> ?_
 refine cB 0 ?_
 refine qS hF ?_
 refine eT 0 kd 12 ?_
 refine sT [(12,.bool true)] fun a hF=> ?_
 refine cT 12 hF ?_
 refine qS hF ?_
 replace hj:=((hj.x g2).x g8).x g14
 refine tO 3 1 hj ?_
 refine sT [(18,.bool true)] fun a hF=> ?_
 refine cT 18 hF ?_
 refine rS hF ?_
 refine tO 2 3 m3 ?_
 refine tV 6 2 [.bool (decide ((0:Int)≤n))] [.slice ca bs.length cc,.bool false,.bool (decide ((0:Int)≤n)),.bool o3,.bool o4] hj fun h19 g20 zq=> ?_
 replace e0:=e0.ext g14
 replace gj:=gj.ext g14
 replace m9:=m9.x g14
 clear e0
 replace gj:=gj.thenO g20 (fun i e=>by cases e;exact .inl rfl)
 replace m3:=m3.y g20
 replace m9:=m9.y g20
 replace m15:=m15.y g20
 replace sep:=sep.up g20.size
 replace hj:=zq
 refine sE [] fun a hF=> ?_
 refine bK ?_
 refine tK ?_
 refine qS hF ?_
 refine tR 0 m15 ?_
 refine tV0 1 (asc (0:Int) (.slice none 0 0) rb0 (0:Int) false false (.slice none 0 0) (0:Int) rb0 (0:Int) (.slice none 0 0)) m15 fun h21 g22 zq=> ?_
 replace hj:=hj.y g22
 replace m15:=zq
 refine sT [] fun a hF=> ?_
 refine cR ?_
 refine rB m15 hF ?_
 replace gj:=gj.thenO g22 (fun i e=> .inr (sep.low 0 rfl i e))
 exact⟨rfl,ja.turn gj hj rfl,gj⟩
theorem event_boot(h:Heap)(jb:Nat)(bs:List (Nat×Nat))(Ms:List Md)(ca:Option Addr)(cc:Nat)(o1:Bool)(o2:Bool)(o3:Bool)(o4:Bool)(ja:JA h jb bs ⟨Ms,o1,o2,o3,o4⟩ ca cc)(kd n:Int)(s:ByteArray)(l:List UInt8)(oa:Option Addr)(oc:Nat)(ka:Option Addr)(kn kc:Nat)(X:An)(xb xi xp:Value)(hk:kd=13):Sat Tryz.prog 57 #[.pointer (some ⟨jb,0,none⟩),.agg #[.int .i64 kd,.string s,.slice oa l.length oc,.int .i64 n,.slice ka kn kc],.agg (asc X.c (xb) X.sx X.se X.sh X.sg (xi) X.n X.y X.k (xp)).toArray] h fun v h'=>v=anv an0 (.slice none 0 0) (.slice none 0 0) (.slice none 0 0)∧JA h' jb bs ⟨Ms,false,false,o3,o4⟩ ca cc∧Gr (fun k=>k=jb) h h':=by
 have hj:=ja.hj
 have hj0:=ja.hj
 have hbj:=blk_lt hj
 have gj:=Gr.start (fun k=>k=jb) h
 have e0:=Ext.refl h
 have sep:Sep h.size h.size []:=Sep.nil _ _
 refine sat_in Tryz.func57 79 fun a hF=> ?_
 refine qS hF ?_
 refine tN 0 (pV h.size) #[.int .i64 kd,.string s,.slice oa l.length oc,.int .i64 n,.slice ka kn kc] 35 fun h1 g2 m3=> ?_
 have lt4:=blk_lt m3
 have zs5:=e0.size
 have zs6:=gj.1
 replace sep:=sep.nw gj.1 m3
 refine tN 1 (pV h1.size) ((asc X.c (xb) X.sx X.se X.sh X.sg (xi) X.n X.y X.k (xp)).toArray) 47 fun h7 g8 m9=> ?_
 have lt10:=blk_lt m9
 replace e0:=e0.ext g2
 have zs11:=e0.size
 replace gj:=gj.ext g2
 have zs12:=gj.1
 replace sep:=sep.nw gj.1 m9
 refine tN 2 (pV h7.size) ((asc (0:Int) (.slice none 0 0) rb0 (0:Int) false false (.slice none 0 0) (0:Int) rb0 (0:Int) (.slice none 0 0)).toArray) 47 fun h13 g14 m15=> ?_
 have lt16:=blk_lt m15
 replace e0:=e0.ext g8
 have zs17:=e0.size
 replace gj:=gj.ext g8
 have zs18:=gj.1
 replace sep:=sep.nw gj.1 m15
 refine sT [(4,pV h.size),(5,pV h1.size),(6,pV h7.size)] fun a hF=> ?_
 refine cS ?_
 refine qS hF ?_
 replace m3:=(m3.x g8).x g14
 refine tO 1 0 m3 ?_
 refine sT [(10,.int .i64 kd)] fun a hF=> ?_
 refine cB 0 ?_
 refine qS hF ?_
 refine eF 0 kd 12 ?_
 refine sT [(12,.bool false)] fun a hF=> ?_
 refine cF 12 hF ?_
 refine qS hF ?_
 refine eF 0 kd 10 ?_
 refine sT [(25,.bool false)] fun a hF=> ?_
 refine cF 25 hF ?_
 refine qS hF ?_
 refine eF 0 kd 14 ?_
 refine sT [(40,.bool false)] fun a hF=> ?_
 refine cF 40 hF ?_
 refine qS hF ?_
 refine eT 0 kd 13 ?_
 refine sT [(70,.bool true)] fun a hF=> ?_
 refine cT 70 hF ?_
 refine rS hF ?_
 replace hj:=((hj.x g2).x g8).x g14
 refine tV 4 1 [.bool false] [.slice ca bs.length cc,.bool false,.bool o2,.bool o3,.bool o4] hj fun h19 g20 zq=> ?_
 replace e0:=e0.ext g14
 replace gj:=gj.ext g14
 replace m9:=m9.x g14
 clear e0
 replace gj:=gj.thenO g20 (fun i e=>by cases e;exact .inl rfl)
 replace m3:=m3.y g20
 replace m9:=m9.y g20
 replace m15:=m15.y g20
 replace sep:=sep.up g20.size
 replace hj:=zq
 refine tV 7 2 [.bool false] [.slice ca bs.length cc,.bool false,.bool false,.bool o3,.bool o4] hj fun h21 g22 zq=> ?_
 replace gj:=gj.thenO g22 (fun i e=>by cases e;exact .inl rfl)
 replace m3:=m3.y g22
 replace m9:=m9.y g22
 replace m15:=m15.y g22
 replace sep:=sep.up g22.size
 replace hj:=zq
 refine sE [] fun a hF=> ?_
 refine bK ?_
 refine tK ?_
 refine qS hF ?_
 refine tR 0 m15 ?_
 refine tV0 1 (asc (0:Int) (.slice none 0 0) rb0 (0:Int) false false (.slice none 0 0) (0:Int) rb0 (0:Int) (.slice none 0 0)) m15 fun h23 g24 zq=> ?_
 replace hj:=hj.y g24
 replace m15:=zq
 refine sT [] fun a hF=> ?_
 refine cR ?_
 refine rB m15 hF ?_
 replace gj:=gj.thenO g24 (fun i e=> .inr (sep.low 0 rfl i e))
 exact⟨rfl,ja.turn gj hj rfl,gj⟩
noncomputable def b31:Code:=Tryz.f31.body.getD .skip
theorem kind_at(h:Heap)(kd n:Int)(s:ByteArray)(oa:Option Addr)(on oc:Nat)(ka:Option Addr)(kn kc:Nat)(a b:Bool)(hk:kindC kd=(a,b)):Sat Tryz.prog 55 #[.agg #[.int .i64 kd,.string s,.slice oa on oc,.int .i64 n,.slice ka kn kc]] h fun v h'=>v= .tuple #[.bool a,.bool b]∧Ext h h':=by
 have:=kind_sat h kd n s oa on oc ka kn kc
 rwa [hk] at this
set_option maxHeartbeats 1000000 in
theorem see_fuse(h:Heap)(jb:Nat)(bs:List (Nat×Nat))(Ms:List Md)(ca:Option Addr)(cc:Nat)(o2:Bool)(o3:Bool)(ja:JA h jb bs ⟨Ms,false,o2,o3,false⟩ ca cc)(kd n:Int)(s:ByteArray)(l:List UInt8)(oa:Option Addr)(oc:Nat)(ka:Option Addr)(kn kc:Nat)(X:An)(xqa:Option Addr)(xqc:Nat)(xia:Option Addr)(xic:Nat)(xpa:Option Addr)(xpc:Nat)(xq:RowE h (.slice xqa X.b.length xqc) X.b.length 1 (X.b.map bv))(xi:RowE h (.slice xia X.i.length xic) X.i.length 1 (X.i.map Value.string))(xp:RowE h (.slice xpa X.p.length xpc) X.p.length 32 (hcs X.p))(x32:All32 X.p)(hkc:kindC kd=(false,false))(hk:kd=12):Sat Tryz.prog 31 #[.pointer (some ⟨jb,0,none⟩),.agg #[.int .i64 kd,.string s,.slice oa l.length oc,.int .i64 n,.slice ka kn kc],.agg (asc X.c (.slice xqa X.b.length xqc) X.sx X.se X.sh X.sg (.slice xia X.i.length xic) X.n X.y X.k (.slice xpa X.p.length xpc)).toArray] h fun v h'=>v= .int .i64 (ruleA an0 X)∧∃bs' ca cc,JA h' jb bs' ⟨Ms,false,decide (0≤n),o3,false⟩ ca cc∧(∀z∈bs',z∈bs∨(h.size ≤z.1 ∧h.size ≤z.2))∧Gr (JF jb bs) h h':=by
 have hj:=ja.hj
 have hj0:=ja.hj
 have hbj:=blk_lt hj
 have gj:=Gr.start (fun k=>k=jb) h
 have e0:=Ext.refl h
 have sep:Sep h.size h.size []:=Sep.nil _ _
 refine sat_in Tryz.func31 77 fun a hF=> ?_
 refine qS hF ?_
 refine tN 0 (pV h.size) #[.int .i64 kd,.string s,.slice oa l.length oc,.int .i64 n,.slice ka kn kc] 35 fun h1 g2 m3=> ?_
 have lt4:=blk_lt m3
 have zs5:=e0.size
 have zs6:=gj.1
 replace sep:=sep.nw gj.1 m3
 refine tN 1 (pV h1.size) ((asc X.c (.slice xqa X.b.length xqc) X.sx X.se X.sh X.sg (.slice xia X.i.length xic) X.n X.y X.k (.slice xpa X.p.length xpc)).toArray) 47 fun h7 g8 m9=> ?_
 have lt10:=blk_lt m9
 replace e0:=e0.ext g2
 have zs11:=e0.size
 replace gj:=gj.ext g2
 have zs12:=gj.1
 replace sep:=sep.nw gj.1 m9
 refine sT [(4,pV h.size),(5,pV h1.size)] fun a hF=> ?_
 refine qS hF ?_
 replace m3:=m3.x g8
 refine tR 0 m3 ?_
 refine tG 1 (kind_at _ kd n s oa l.length oc ka kn kc false false hkc) ?_
 rintro _ h14 ⟨rfl,g13⟩
 refine sT [(7,.bool false),(8,.bool false)] fun a hF=> ?_
 refine qS hF ?_
 refine tN 1 (pV h14.size) ((asc (0:Int) (.slice none 0 0) rb0 (0:Int) false false (.slice none 0 0) (0:Int) rb0 (0:Int) (.slice none 0 0)).toArray) 47 fun h15 g16 m17=> ?_
 have lt18:=blk_lt m17
 replace e0:=(e0.ext g8).ext g13
 have zs19:=e0.size
 replace gj:=(gj.ext g8).ext g13
 have zs20:=gj.1
 replace sep:=(sep.up g13.size).nw gj.1 m17
 refine tV0 2 (asc (2:Int) (.slice none 0 0) rb0 (0:Int) false false (.slice none 0 0) (0:Int) rb0 (0:Int) (.slice none 0 0)) m17 fun h21 g22 zq=> ?_
 replace hj:=(((hj.x g2).x g8).x g13).x g16
 replace hj:=hj.y g22
 replace m17:=zq
 refine sT [(9,pV h14.size)] fun a hF=> ?_
 refine cS ?_
 refine cB 0 ?_
 refine qS hF ?_
 refine tO 3 4 hj ?_
 refine sT [(16,.bool false)] fun a hF=> ?_
 refine cF 16 hF ?_
 refine qP [(21,.bool true)] hF fun a hF=> ?_
 refine cT 21 hF ?_
 refine cS ?_
 refine cD [0,0,0,7,0,31,63] 6 mixed hF ?_
 refine mP 1 [0] [pV jb] ?_
 replace m3:=((m3.x g13).x g16).y g22 (sep.bp 2 0)
 refine mR 3 2 1 m3 ?_
 replace m9:=((m9.x g13).x g16).y g22 (sep.bp 1 0)
 refine mR 7 6 2 m9 ?_
 refine mR 23 22 4 m9 ?_
 replace e0:=(e0.ext g16).grew g22 (sep.low 0 rfl)
 refine mFp 31 15 3 [4] (Does.call (f:=57) (args:= #[.pointer (some ⟨jb,0,none⟩),.agg #[.int .i64 kd,.string s,.slice oa l.length oc,.int .i64 n,.slice ka kn kc],.agg (asc X.c (.slice xqa X.b.length xqc) X.sx X.se X.sh X.sg (.slice xia X.i.length xic) X.n X.y X.k (.slice xpa X.p.length xpc)).toArray]) (by kernel_rfl) (event_fuse _ jb bs Ms ca cc o2 o3 false (ja.ext e0) kd n s l oa oc ka kn kc X _ _ _ hk)) ?_
 rintro _ h23 ⟨rfl,ja2,gz⟩
 clear hj
 replace gj:=(gj.ext g16).thenO g22 (fun i e=> .inr (sep.low 0 rfl i e))
 replace gj:=gj.trans gz
 replace m3:=gz.blk m3 (by omega)
 replace m9:=gz.blk m9 (by omega)
 replace m17:=gz.blk m17 (by omega)
 replace sep:=sep.up g22.size
 replace sep:=sep.up gz.1
 replace xq:=xq.jf gj hj0 (by decide)
 replace xi:=xi.jf gj hj0 (by decide)
 replace xp:=xp.jf gj hj0 (by decide)
 refine⟨?_,?_⟩
 ·intro j hj
  simp only[List.mem_cons,List.not_mem_nil,or_false] at hj
  subst hj
  exact goodOf (Calm.load (T:=47) (p:=⟨h1.size,0,none⟩) (by kernel_rfl) (Loads.blk (vs:=asc X.c (.slice xqa X.b.length xqc) X.sx X.se X.sh X.sg (.slice xia X.i.length xic) X.n X.y X.k (.slice xpa X.p.length xpc)) (by kernel_rfl) m9 rfl))
 refine mG0 63 63 5 (rule_v _ an0 X none 0 none 0 none 0 (RowE.nil _ _) (RowE.nil _ _) (RowE.nil _ _) _ _ _ _ _ _ xq xi xp All32.nil x32 (by decide) (by decide)) ?_
 rintro _ h25 ⟨rfl,g24⟩
 refine mP 127 [6] [.int .i64 (ruleA an0 X)] ?_
 refine mE [(6,.int .i64 (ruleA an0 X))] fun a hF=> ?_
 refine tK ?_
 refine cR (yB (yT ?_))
 refine rT 6 (.int .i64 (ruleA an0 X)) hF ?_
 replace gj:=gj.ext g24
 replace ja2:=ja2.ext g24
 exact⟨rfl,bs,ca,cc,ja2,fun x hx=> .inl hx,gj.toJF bs⟩
set_option maxHeartbeats 1000000 in
theorem see_boot(h:Heap)(jb:Nat)(bs:List (Nat×Nat))(Ms:List Md)(ca:Option Addr)(cc:Nat)(o1:Bool)(o2:Bool)(o3:Bool)(ja:JA h jb bs ⟨Ms,o1,o2,o3,false⟩ ca cc)(kd n:Int)(s:ByteArray)(l:List UInt8)(oa:Option Addr)(oc:Nat)(ka:Option Addr)(kn kc:Nat)(X:An)(xqa:Option Addr)(xqc:Nat)(xia:Option Addr)(xic:Nat)(xpa:Option Addr)(xpc:Nat)(xq:RowE h (.slice xqa X.b.length xqc) X.b.length 1 (X.b.map bv))(xi:RowE h (.slice xia X.i.length xic) X.i.length 1 (X.i.map Value.string))(xp:RowE h (.slice xpa X.p.length xpc) X.p.length 32 (hcs X.p))(x32:All32 X.p)(hkc:kindC kd=(false,false))(hk:kd=13):Sat Tryz.prog 31 #[.pointer (some ⟨jb,0,none⟩),.agg #[.int .i64 kd,.string s,.slice oa l.length oc,.int .i64 n,.slice ka kn kc],.agg (asc X.c (.slice xqa X.b.length xqc) X.sx X.se X.sh X.sg (.slice xia X.i.length xic) X.n X.y X.k (.slice xpa X.p.length xpc)).toArray] h fun v h'=>v= .int .i64 (ruleA an0 X)∧∃bs' ca cc,JA h' jb bs' ⟨Ms,false,false,o3,false⟩ ca cc∧(∀z∈bs',z∈bs∨(h.size ≤z.1 ∧h.size ≤z.2))∧Gr (JF jb bs) h h':=by
 have hj:=ja.hj
 have hj0:=ja.hj
 have hbj:=blk_lt hj
 have gj:=Gr.start (fun k=>k=jb) h
 have e0:=Ext.refl h
 have sep:Sep h.size h.size []:=Sep.nil _ _
 refine sat_in Tryz.func31 77 fun a hF=> ?_
 refine qS hF ?_
 refine tN 0 (pV h.size) #[.int .i64 kd,.string s,.slice oa l.length oc,.int .i64 n,.slice ka kn kc] 35 fun h1 g2 m3=> ?_
 have lt4:=blk_lt m3
 have zs5:=e0.size
 have zs6:=gj.1
 replace sep:=sep.nw gj.1 m3
 refine tN 1 (pV h1.size) ((asc X.c (.slice xqa X.b.length xqc) X.sx X.se X.sh X.sg (.slice xia X.i.length xic) X.n X.y X.k (.slice xpa X.p.length xpc)).toArray) 47 fun h7 g8 m9=> ?_
 have lt10:=blk_lt m9
 replace e0:=e0.ext g2
 have zs11:=e0.size
 replace gj:=gj.ext g2
 have zs12:=gj.1
 replace sep:=sep.nw gj.1 m9
 refine sT [(4,pV h.size),(5,pV h1.size)] fun a hF=> ?_
 refine qS hF ?_
 replace m3:=m3.x g8
 refine tR 0 m3 ?_
 refine tG 1 (kind_at _ kd n s oa l.length oc ka kn kc false false hkc) ?_
 rintro _ h14 ⟨rfl,g13⟩
 refine sT [(7,.bool false),(8,.bool false)] fun a hF=> ?_
 refine qS hF ?_
 refine tN 1 (pV h14.size) ((asc (0:Int) (.slice none 0 0) rb0 (0:Int) false false (.slice none 0 0) (0:Int) rb0 (0:Int) (.slice none 0 0)).toArray) 47 fun h15 g16 m17=> ?_
 have lt18:=blk_lt m17
 replace e0:=(e0.ext g8).ext g13
 have zs19:=e0.size
 replace gj:=(gj.ext g8).ext g13
 have zs20:=gj.1
 replace sep:=(sep.up g13.size).nw gj.1 m17
 refine tV0 2 (asc (2:Int) (.slice none 0 0) rb0 (0:Int) false false (.slice none 0 0) (0:Int) rb0 (0:Int) (.slice none 0 0)) m17 fun h21 g22 zq=> ?_
 replace hj:=(((hj.x g2).x g8).x g13).x g16
 replace hj:=hj.y g22
 replace m17:=zq
 refine sT [(9,pV h14.size)] fun a hF=> ?_
 refine cS ?_
 refine cB 0 ?_
 refine qS hF ?_
 refine tO 3 4 hj ?_
 refine sT [(16,.bool false)] fun a hF=> ?_
 refine cF 16 hF ?_
 refine qP [(21,.bool true)] hF fun a hF=> ?_
 refine cT 21 hF ?_
 refine cS ?_
 refine cD [0,0,0,7,0,31,63] 6 mixed hF ?_
 refine mP 1 [0] [pV jb] ?_
 replace m3:=((m3.x g13).x g16).y g22 (sep.bp 2 0)
 refine mR 3 2 1 m3 ?_
 replace m9:=((m9.x g13).x g16).y g22 (sep.bp 1 0)
 refine mR 7 6 2 m9 ?_
 refine mR 23 22 4 m9 ?_
 replace e0:=(e0.ext g16).grew g22 (sep.low 0 rfl)
 refine mFp 31 15 3 [4] (Does.call (f:=57) (args:= #[.pointer (some ⟨jb,0,none⟩),.agg #[.int .i64 kd,.string s,.slice oa l.length oc,.int .i64 n,.slice ka kn kc],.agg (asc X.c (.slice xqa X.b.length xqc) X.sx X.se X.sh X.sg (.slice xia X.i.length xic) X.n X.y X.k (.slice xpa X.p.length xpc)).toArray]) (by kernel_rfl) (event_boot _ jb bs Ms ca cc o1 o2 o3 false (ja.ext e0) kd n s l oa oc ka kn kc X _ _ _ hk)) ?_
 rintro _ h23 ⟨rfl,ja2,gz⟩
 clear hj
 replace gj:=(gj.ext g16).thenO g22 (fun i e=> .inr (sep.low 0 rfl i e))
 replace gj:=gj.trans gz
 replace m3:=gz.blk m3 (by omega)
 replace m9:=gz.blk m9 (by omega)
 replace m17:=gz.blk m17 (by omega)
 replace sep:=sep.up g22.size
 replace sep:=sep.up gz.1
 replace xq:=xq.jf gj hj0 (by decide)
 replace xi:=xi.jf gj hj0 (by decide)
 replace xp:=xp.jf gj hj0 (by decide)
 refine⟨?_,?_⟩
 ·intro j hj
  simp only[List.mem_cons,List.not_mem_nil,or_false] at hj
  subst hj
  exact goodOf (Calm.load (T:=47) (p:=⟨h1.size,0,none⟩) (by kernel_rfl) (Loads.blk (vs:=asc X.c (.slice xqa X.b.length xqc) X.sx X.se X.sh X.sg (.slice xia X.i.length xic) X.n X.y X.k (.slice xpa X.p.length xpc)) (by kernel_rfl) m9 rfl))
 refine mG0 63 63 5 (rule_v _ an0 X none 0 none 0 none 0 (RowE.nil _ _) (RowE.nil _ _) (RowE.nil _ _) _ _ _ _ _ _ xq xi xp All32.nil x32 (by decide) (by decide)) ?_
 rintro _ h25 ⟨rfl,g24⟩
 refine mP 127 [6] [.int .i64 (ruleA an0 X)] ?_
 refine mE [(6,.int .i64 (ruleA an0 X))] fun a hF=> ?_
 refine tK ?_
 refine cR (yB (yT ?_))
 refine rT 6 (.int .i64 (ruleA an0 X)) hF ?_
 replace gj:=gj.ext g24
 replace ja2:=ja2.ext g24
 exact⟨rfl,bs,ca,cc,ja2,fun x hx=> .inl hx,gj.toJF bs⟩
set_option maxHeartbeats 1000000 in
theorem see_power_a(h:Heap)(jb:Nat)(x:Nat×Nat)(M:Md)(aa:Addr)(cc:Nat)(ja:JA h jb [x] ⟨[M],false,true,false,false⟩ (some aa) cc)(kd n:Int)(s:ByteArray)(l:List UInt8)(oa:Option Addr)(oc:Nat)(ka:Option Addr)(kn kc:Nat)(hr:RowE h (.slice oa l.length oc) l.length 1 (l.map bv))(hsz:s.size ≤9223372036854775807)(X:An)(xqa:Option Addr)(xqc:Nat)(xia:Option Addr)(xic:Nat)(xpa:Option Addr)(xpc:Nat)(xq:RowE h (.slice xqa X.b.length xqc) X.b.length 1 (X.b.map bv))(xi:RowE h (.slice xia X.i.length xic) X.i.length 1 (X.i.map Value.string))(xp:RowE h (.slice xpa X.p.length xpc) X.p.length 32 (hcs X.p))(x32:All32 X.p)(hkc:kindC kd=(true,true))(hX:X.c =2)(kt:Ktab h)(hk1:0<jb)(hE:M.E.length ≤1099511627)(hc:(step M kd n s l).2.c =0)(hne:(step M kd n s l).1.E.length ≠M.E.length):Sat Tryz.prog 31 #[.pointer (some ⟨jb,0,none⟩),.agg #[.int .i64 kd,.string s,.slice oa l.length oc,.int .i64 n,.slice ka kn kc],.agg (asc X.c (.slice xqa X.b.length xqc) X.sx X.se X.sh X.sg (.slice xia X.i.length xic) X.n X.y X.k (.slice xpa X.p.length xpc)).toArray] h fun v h'=>v= .int .i64 (ruleA (anC 2) X)∧∃bs' ca cc,JA h' jb bs' ⟨[M,(step M kd n s l).1],true,true,false,false⟩ ca cc∧(∀z∈bs',z∈[x]∨(h.size ≤z.1 ∧h.size ≤z.2))∧Gr (JF jb [x]) h h':=by
 have hj:=ja.hj
 have hj0:=ja.hj
 have hbj:=blk_lt hj
 have gj:=Gr.start (fun k=>k=jb) h
 have e0:=Ext.refl h
 have sep:Sep h.size h.size []:=Sep.nil _ _
 refine sat_in Tryz.func31 77 fun a hF=> ?_
 refine qS hF ?_
 refine tN 0 (pV h.size) #[.int .i64 kd,.string s,.slice oa l.length oc,.int .i64 n,.slice ka kn kc] 35 fun h1 g2 m3=> ?_
 have lt4:=blk_lt m3
 have zs5:=e0.size
 have zs6:=gj.1
 replace sep:=sep.nw gj.1 m3
 refine tN 1 (pV h1.size) ((asc X.c (.slice xqa X.b.length xqc) X.sx X.se X.sh X.sg (.slice xia X.i.length xic) X.n X.y X.k (.slice xpa X.p.length xpc)).toArray) 47 fun h7 g8 m9=> ?_
 have lt10:=blk_lt m9
 replace e0:=e0.ext g2
 have zs11:=e0.size
 replace gj:=gj.ext g2
 have zs12:=gj.1
 replace sep:=sep.nw gj.1 m9
 refine sT [(4,pV h.size),(5,pV h1.size)] fun a hF=> ?_
 refine qS hF ?_
 replace m3:=m3.x g8
 refine tR 0 m3 ?_
 refine tG 1 (kind_at _ kd n s oa l.length oc ka kn kc true true hkc) ?_
 rintro _ h14 ⟨rfl,g13⟩
 refine sT [(7,.bool true),(8,.bool true)] fun a hF=> ?_
 refine qS hF ?_
 refine tN 1 (pV h14.size) ((asc (0:Int) (.slice none 0 0) rb0 (0:Int) false false (.slice none 0 0) (0:Int) rb0 (0:Int) (.slice none 0 0)).toArray) 47 fun h15 g16 m17=> ?_
 have lt18:=blk_lt m17
 replace e0:=(e0.ext g8).ext g13
 have zs19:=e0.size
 replace gj:=(gj.ext g8).ext g13
 have zs20:=gj.1
 replace sep:=(sep.up g13.size).nw gj.1 m17
 refine tV0 2 (asc (2:Int) (.slice none 0 0) rb0 (0:Int) false false (.slice none 0 0) (0:Int) rb0 (0:Int) (.slice none 0 0)) m17 fun h21 g22 zq=> ?_
 replace hj:=(((hj.x g2).x g8).x g13).x g16
 replace hj:=hj.y g22
 replace m17:=zq
 refine sT [(9,pV h14.size)] fun a hF=> ?_
 refine cS ?_
 refine cB 0 ?_
 refine qS hF ?_
 refine tO 3 4 hj ?_
 refine sT [(16,.bool false)] fun a hF=> ?_
 refine cF 16 hF ?_
 refine qP [(21,.bool false)] hF fun a hF=> ?_
 refine cF 21 hF ?_
 refine qS hF ?_
 refine tO 3 1 hj ?_
 refine sT [(30,.bool false)] fun a hF=> ?_
 refine cF 30 hF ?_
 refine qS hF ?_
 replace m9:=((m9.x g13).x g16).y g22 (sep.bp 1 0)
 refine tO 1 0 m9 ?_
 refine eT 2 X.c 2 ?_
 refine tO 7 2 hj ?_
 refine sT [(38,.bool true)] fun a hF=> ?_
 refine cT 38 hF ?_
 refine qS hF ?_
 refine tV 3 1 [.bool true] [.slice (some aa) 1 cc,.bool true,.bool true,.bool false,.bool false] hj fun h23 g24 zq=> ?_
 replace m3:=((m3.x g13).x g16).y g22 (sep.bp 2 0)
 replace e0:=(e0.ext g16).grew g22 (sep.low 0 rfl)
 replace gj:=(gj.ext g16).thenO g22 (fun i e=> .inr (sep.low 0 rfl i e))
 replace sep:=sep.up g22.size
 clear e0
 replace gj:=gj.thenO g24 (fun i e=>by cases e;exact .inl rfl)
 replace m3:=m3.y g24
 replace m9:=m9.y g24
 replace m17:=m17.y g24
 replace sep:=sep.up g24.size
 replace hj:=zq
 refine sT [] fun a hF=> ?_
 refine cS ?_
 refine qP [(51,.bool true)] hF fun a hF=> ?_
 refine cT 51 hF ?_
 refine rS hF ?_
 refine tR 1 m3 ?_
 have jz:JA h23 jb [x] ⟨[M],true,true,false,false⟩ (some aa) cc:=ja.turn gj hj rfl
 have hrz:=hr.jf gj hj0 (by decide)
 have ktz:=kt.gr gj (by omega)
 refine tG 2 (part_one _ jb x M true true false false aa cc jz kd n s l oa oc ka kn kc hrz hsz ktz hE hc hne) ?_
 rintro _ h25 ⟨y,ca2,cc2,ja2,hy1,hy2,gz⟩
 have hgs:=gj.1
 clear hj
 replace gj:=gj.trans gz
 replace m3:=gz.blk m3 (by omega)
 replace m9:=gz.blk m9 (by omega)
 replace m17:=gz.blk m17 (by omega)
 replace sep:=sep.up gz.1
 replace xq:=xq.jf gj hj0 (by decide)
 replace xi:=xi.jf gj hj0 (by decide)
 replace xp:=xp.jf gj hj0 (by decide)
 refine sE [] fun a hF=> ?_
 refine tK ?_
 refine qS hF ?_
 refine tR 0 m17 ?_
 refine tR 1 m9 ?_
 refine tG 2 (rule_v _ (anC 2) X none 0 none 0 none 0 (RowE.nil _ _) (RowE.nil _ _) (RowE.nil _ _) _ _ _ _ _ _ xq xi xp All32.nil x32 (by decide) (by decide)) ?_
 rintro _ h27 ⟨rfl,g26⟩
 refine sT [(6,.int .i64 (ruleA (anC 2) X))] fun a hF=> ?_
 refine cR (yB (yT ?_))
 refine rT 6 (.int .i64 (ruleA (anC 2) X)) hF ?_
 replace gj:=gj.ext g26
 replace ja2:=ja2.ext g26
 exact⟨rfl,[(x.1,x.2),y],ca2,cc2,ja2,fun z hz=>by rcases List.mem_cons.1 hz with e|e;exact .inl (List.mem_singleton.2 e);exact .inr ⟨by rw[List.mem_singleton.1 e];omega,by rw[List.mem_singleton.1 e];omega⟩,gj.toJF [x]⟩
set_option maxHeartbeats 1000000 in
theorem see_holdC(h:Heap)(jb:Nat)(bs:List (Nat×Nat))(Ms:List Md)(ca:Option Addr)(cc:Nat) (ja:JA h jb bs ⟨Ms,false,false,false,false⟩ ca cc)(kd n:Int)(s:ByteArray)(l:List UInt8)(oa:Option Addr)(oc:Nat)(ka:Option Addr)(kn kc:Nat)(hr:RowE h (.slice oa l.length oc) l.length 1 (l.map bv))(hsz:s.size ≤9223372036854775807)(X:An)(xqa:Option Addr)(xqc:Nat)(xia:Option Addr)(xic:Nat)(xpa:Option Addr)(xpc:Nat)(xq:RowE h (.slice xqa X.b.length xqc) X.b.length 1 (X.b.map bv))(xi:RowE h (.slice xia X.i.length xic) X.i.length 1 (X.i.map Value.string))(xp:RowE h (.slice xpa X.p.length xpc) X.p.length 32 (hcs X.p))(x32:All32 X.p)(hkc:kindC kd=(true,true))(hX3:X.c ≠3)(k11:kd≠11)(k15:kd≠15)(kt:Ktab h)(hE:∀M∈Ms,M.E.length ≤1099511627)(hn:bs.length ≤1099511627):Sat Tryz.prog 31 #[.pointer (some ⟨jb,0,none⟩),.agg #[.int .i64 kd,.string s,.slice oa l.length oc,.int .i64 n,.slice ka kn kc],.agg (asc X.c (.slice xqa X.b.length xqc) X.sx X.se X.sh X.sg (.slice xia X.i.length xic) X.n X.y X.k (.slice xpa X.p.length xpc)).toArray] h fun v h'=>v= .int .i64 (holdJ ⟨Ms,false,false,false,false⟩ (fitF kd n s l X)).2 ∧∃bs' ca cc,JA h' jb bs' (holdJ ⟨Ms,false,false,false,false⟩ (fitF kd n s l X)).1 ca cc∧(∀z∈bs',z∈bs∨(h.size ≤z.1 ∧h.size ≤z.2))∧Gr (JF jb bs) h h':=by
 have hj:=ja.hj
 have hj0:=ja.hj
 have hbj:=blk_lt hj
 have gj:=Gr.start (fun k=>k=jb) h
 have e0:=Ext.refl h
 have sep:Sep h.size h.size []:=Sep.nil _ _
 refine sat_in Tryz.func31 77 fun a hF=> ?_
 refine qS hF ?_
 refine tN 0 (pV h.size) #[.int .i64 kd,.string s,.slice oa l.length oc,.int .i64 n,.slice ka kn kc] 35 fun h1 g2 m3=> ?_
 have lt4:=blk_lt m3
 have zs5:=e0.size
 have zs6:=gj.1
 replace sep:=sep.nw gj.1 m3
 refine tN 1 (pV h1.size) ((asc X.c (.slice xqa X.b.length xqc) X.sx X.se X.sh X.sg (.slice xia X.i.length xic) X.n X.y X.k (.slice xpa X.p.length xpc)).toArray) 47 fun h7 g8 m9=> ?_
 have lt10:=blk_lt m9
 replace e0:=e0.ext g2
 have zs11:=e0.size
 replace gj:=gj.ext g2
 have zs12:=gj.1
 replace sep:=sep.nw gj.1 m9
 refine sT [(4,pV h.size),(5,pV h1.size)] fun a hF=> ?_
 refine qS hF ?_
 replace m3:=m3.x g8
 refine tR 0 m3 ?_
 refine tG 1 (kind_at _ kd n s oa l.length oc ka kn kc true true hkc) ?_
 rintro _ h14 ⟨rfl,g13⟩
 refine sT [(7,.bool true),(8,.bool true)] fun a hF=> ?_
 refine qS hF ?_
 refine tN 1 (pV h14.size) ((asc (0:Int) (.slice none 0 0) rb0 (0:Int) false false (.slice none 0 0) (0:Int) rb0 (0:Int) (.slice none 0 0)).toArray) 47 fun h15 g16 m17=> ?_
 have lt18:=blk_lt m17
 replace e0:=(e0.ext g8).ext g13
 have zs19:=e0.size
 replace gj:=(gj.ext g8).ext g13
 have zs20:=gj.1
 replace sep:=(sep.up g13.size).nw gj.1 m17
 refine tV0 2 (asc (2:Int) (.slice none 0 0) rb0 (0:Int) false false (.slice none 0 0) (0:Int) rb0 (0:Int) (.slice none 0 0)) m17 fun h21 g22 zq=> ?_
 replace hj:=(((hj.x g2).x g8).x g13).x g16
 replace hj:=hj.y g22
 replace m17:=zq
 refine sT [(9,pV h14.size)] fun a hF=> ?_
 refine cS ?_
 refine cB 0 ?_
 refine qS hF ?_
 refine tO 3 4 hj ?_
 refine sT [(16,.bool false)] fun a hF=> ?_
 refine cF 16 hF ?_
 refine qP [(21,.bool false)] hF fun a hF=> ?_
 refine cF 21 hF ?_
 refine qS hF ?_
 refine tO 3 1 hj ?_
 refine sT [(30,.bool false)] fun a hF=> ?_
 refine cF 30 hF ?_
 refine cS ?_
 rcases Int.decEq X.c 2 with hX2|hX2
 ·skip
  refine rS hF ?_
  replace m9:=((m9.x g13).x g16).y g22 (sep.bp 1 0)
  refine tO 1 0 m9 ?_
  refine eF 2 X.c 2 ?_
  refine sE [(38,.bool false)] fun a hF=> ?_
  refine tK ?_
  refine cF 38 hF ?_
  refine qS hF ?_
  refine tO 3 0 m9 ?_
  refine eF 4 X.c 3 ?_
  refine sT [(58,.bool false)] fun a hF=> ?_
  refine cF 58 hF ?_
  refine cN ?_
  refine bK ?_
  refine tK ?_
  refine qS hF ?_
  replace m3:=((m3.x g13).x g16).y g22 (sep.bp 2 0)
  refine tR 1 m3 ?_
  refine tR 2 m9 ?_
  replace e0:=(e0.ext g16).grew g22 (sep.low 0 rfl)
  have hse:=e0.size
  refine tG 5 (hold_sat _ jb bs Ms false false false ca cc (ja.ext e0) kd n s l oa oc ka kn kc (hr.ext e0) hsz X xqa xqc xia xic xpa xpc (xq.ext e0) (xi.ext e0) (xp.ext e0) x32 k11 k15 (kt.ext e0) hE hn) ?_
  rintro _ h23 ⟨rfl,bs2,ca2,cc2,ja2,hsub,gz⟩
  have gw:=(Gr.start (JF jb bs) h).ext e0 |>.trans gz
  refine sT [(6,.int .i64 ((holdJ ⟨Ms,false,false,false,false⟩ (fitF kd n s l X)).2))] fun a hF=> ?_
  refine cR ?_
  refine rT 6 (.int .i64 ((holdJ ⟨Ms,false,false,false,false⟩ (fitF kd n s l X)).2)) hF ?_
  exact⟨rfl,bs2,ca2,cc2,ja2,fun x hx=> .inl (hsub x hx),gw⟩
 ·skip
  refine rS hF ?_
  replace m9:=((m9.x g13).x g16).y g22 (sep.bp 1 0)
  refine tO 1 0 m9 ?_
  refine eT 2 X.c 2 ?_
  refine tO 7 2 hj ?_
  refine sE [(38,.bool false)] fun a hF=> ?_
  refine tK ?_
  refine cF 38 hF ?_
  refine qS hF ?_
  refine tO 3 0 m9 ?_
  refine eF 4 X.c 3 ?_
  refine sT [(58,.bool false)] fun a hF=> ?_
  refine cF 58 hF ?_
  refine cN ?_
  refine bK ?_
  refine tK ?_
  refine qS hF ?_
  replace m3:=((m3.x g13).x g16).y g22 (sep.bp 2 0)
  refine tR 1 m3 ?_
  refine tR 2 m9 ?_
  replace e0:=(e0.ext g16).grew g22 (sep.low 0 rfl)
  have hse:=e0.size
  refine tG 5 (hold_sat _ jb bs Ms false false false ca cc (ja.ext e0) kd n s l oa oc ka kn kc (hr.ext e0) hsz X xqa xqc xia xic xpa xpc (xq.ext e0) (xi.ext e0) (xp.ext e0) x32 k11 k15 (kt.ext e0) hE hn) ?_
  rintro _ h24 ⟨rfl,bs2,ca2,cc2,ja2,hsub,gz⟩
  have gw:=(Gr.start (JF jb bs) h).ext e0 |>.trans gz
  refine sT [(6,.int .i64 ((holdJ ⟨Ms,false,false,false,false⟩ (fitF kd n s l X)).2))] fun a hF=> ?_
  refine cR ?_
  refine rT 6 (.int .i64 ((holdJ ⟨Ms,false,false,false,false⟩ (fitF kd n s l X)).2)) hF ?_
  exact⟨rfl,bs2,ca2,cc2,ja2,fun x hx=> .inl (hsub x hx),gw⟩
set_option maxHeartbeats 1000000 in
theorem see_holdA(h:Heap)(jb:Nat)(bs:List (Nat×Nat))(Ms:List Md)(ca:Option Addr)(cc:Nat) (ja:JA h jb bs ⟨Ms,false,false,false,false⟩ ca cc)(kd n:Int)(s:ByteArray)(l:List UInt8)(oa:Option Addr)(oc:Nat)(ka:Option Addr)(kn kc:Nat)(hr:RowE h (.slice oa l.length oc) l.length 1 (l.map bv))(hsz:s.size ≤9223372036854775807)(X:An)(xqa:Option Addr)(xqc:Nat)(xia:Option Addr)(xic:Nat)(xpa:Option Addr)(xpc:Nat)(xq:RowE h (.slice xqa X.b.length xqc) X.b.length 1 (X.b.map bv))(xi:RowE h (.slice xia X.i.length xic) X.i.length 1 (X.i.map Value.string))(xp:RowE h (.slice xpa X.p.length xpc) X.p.length 32 (hcs X.p))(x32:All32 X.p)(hkc:kindC kd=(true,false))(k11:kd≠11)(k15:kd≠15)(kt:Ktab h)(hE:∀M∈Ms,M.E.length ≤1099511627)(hn:bs.length ≤1099511627):Sat Tryz.prog 31 #[.pointer (some ⟨jb,0,none⟩),.agg #[.int .i64 kd,.string s,.slice oa l.length oc,.int .i64 n,.slice ka kn kc],.agg (asc X.c (.slice xqa X.b.length xqc) X.sx X.se X.sh X.sg (.slice xia X.i.length xic) X.n X.y X.k (.slice xpa X.p.length xpc)).toArray] h fun v h'=>v= .int .i64 (holdJ ⟨Ms,false,false,false,false⟩ (fitF kd n s l X)).2 ∧∃bs' ca cc,JA h' jb bs' (holdJ ⟨Ms,false,false,false,false⟩ (fitF kd n s l X)).1 ca cc∧(∀z∈bs',z∈bs∨(h.size ≤z.1 ∧h.size ≤z.2))∧Gr (JF jb bs) h h':=by
 have hj:=ja.hj
 have hj0:=ja.hj
 have hbj:=blk_lt hj
 have gj:=Gr.start (fun k=>k=jb) h
 have e0:=Ext.refl h
 have sep:Sep h.size h.size []:=Sep.nil _ _
 refine sat_in Tryz.func31 77 fun a hF=> ?_
 refine qS hF ?_
 refine tN 0 (pV h.size) #[.int .i64 kd,.string s,.slice oa l.length oc,.int .i64 n,.slice ka kn kc] 35 fun h1 g2 m3=> ?_
 have lt4:=blk_lt m3
 have zs5:=e0.size
 have zs6:=gj.1
 replace sep:=sep.nw gj.1 m3
 refine tN 1 (pV h1.size) ((asc X.c (.slice xqa X.b.length xqc) X.sx X.se X.sh X.sg (.slice xia X.i.length xic) X.n X.y X.k (.slice xpa X.p.length xpc)).toArray) 47 fun h7 g8 m9=> ?_
 have lt10:=blk_lt m9
 replace e0:=e0.ext g2
 have zs11:=e0.size
 replace gj:=gj.ext g2
 have zs12:=gj.1
 replace sep:=sep.nw gj.1 m9
 refine sT [(4,pV h.size),(5,pV h1.size)] fun a hF=> ?_
 refine qS hF ?_
 replace m3:=m3.x g8
 refine tR 0 m3 ?_
 refine tG 1 (kind_at _ kd n s oa l.length oc ka kn kc true false hkc) ?_
 rintro _ h14 ⟨rfl,g13⟩
 refine sT [(7,.bool true),(8,.bool false)] fun a hF=> ?_
 refine qS hF ?_
 refine tN 1 (pV h14.size) ((asc (0:Int) (.slice none 0 0) rb0 (0:Int) false false (.slice none 0 0) (0:Int) rb0 (0:Int) (.slice none 0 0)).toArray) 47 fun h15 g16 m17=> ?_
 have lt18:=blk_lt m17
 replace e0:=(e0.ext g8).ext g13
 have zs19:=e0.size
 replace gj:=(gj.ext g8).ext g13
 have zs20:=gj.1
 replace sep:=(sep.up g13.size).nw gj.1 m17
 refine tV0 2 (asc (2:Int) (.slice none 0 0) rb0 (0:Int) false false (.slice none 0 0) (0:Int) rb0 (0:Int) (.slice none 0 0)) m17 fun h21 g22 zq=> ?_
 replace hj:=(((hj.x g2).x g8).x g13).x g16
 replace hj:=hj.y g22
 replace m17:=zq
 refine sT [(9,pV h14.size)] fun a hF=> ?_
 refine cS ?_
 refine cB 0 ?_
 refine qS hF ?_
 refine tO 3 4 hj ?_
 refine sT [(16,.bool false)] fun a hF=> ?_
 refine cF 16 hF ?_
 refine qP [(21,.bool false)] hF fun a hF=> ?_
 refine cF 21 hF ?_
 refine qS hF ?_
 refine tO 3 1 hj ?_
 refine sT [(30,.bool false)] fun a hF=> ?_
 refine cF 30 hF ?_
 refine cS ?_
 rcases Int.decEq X.c 2 with hX2|hX2
 ·skip
  refine rS hF ?_
  replace m9:=((m9.x g13).x g16).y g22 (sep.bp 1 0)
  refine tO 1 0 m9 ?_
  refine eF 2 X.c 2 ?_
  refine sE [(38,.bool false)] fun a hF=> ?_
  refine tK ?_
  refine cF 38 hF ?_
  refine qP [(58,.bool false)] hF fun a hF=> ?_
  refine cF 58 hF ?_
  refine cN ?_
  refine bK ?_
  refine tK ?_
  refine qS hF ?_
  replace m3:=((m3.x g13).x g16).y g22 (sep.bp 2 0)
  refine tR 1 m3 ?_
  refine tR 2 m9 ?_
  replace e0:=(e0.ext g16).grew g22 (sep.low 0 rfl)
  have hse:=e0.size
  refine tG 5 (hold_sat _ jb bs Ms false false false ca cc (ja.ext e0) kd n s l oa oc ka kn kc (hr.ext e0) hsz X xqa xqc xia xic xpa xpc (xq.ext e0) (xi.ext e0) (xp.ext e0) x32 k11 k15 (kt.ext e0) hE hn) ?_
  rintro _ h23 ⟨rfl,bs2,ca2,cc2,ja2,hsub,gz⟩
  have gw:=(Gr.start (JF jb bs) h).ext e0 |>.trans gz
  refine sT [(6,.int .i64 ((holdJ ⟨Ms,false,false,false,false⟩ (fitF kd n s l X)).2))] fun a hF=> ?_
  refine cR ?_
  refine rT 6 (.int .i64 ((holdJ ⟨Ms,false,false,false,false⟩ (fitF kd n s l X)).2)) hF ?_
  exact⟨rfl,bs2,ca2,cc2,ja2,fun x hx=> .inl (hsub x hx),gw⟩
 ·skip
  refine rS hF ?_
  replace m9:=((m9.x g13).x g16).y g22 (sep.bp 1 0)
  refine tO 1 0 m9 ?_
  refine eT 2 X.c 2 ?_
  refine tO 7 2 hj ?_
  refine sE [(38,.bool false)] fun a hF=> ?_
  refine tK ?_
  refine cF 38 hF ?_
  refine qP [(58,.bool false)] hF fun a hF=> ?_
  refine cF 58 hF ?_
  refine cN ?_
  refine bK ?_
  refine tK ?_
  refine qS hF ?_
  replace m3:=((m3.x g13).x g16).y g22 (sep.bp 2 0)
  refine tR 1 m3 ?_
  refine tR 2 m9 ?_
  replace e0:=(e0.ext g16).grew g22 (sep.low 0 rfl)
  have hse:=e0.size
  refine tG 5 (hold_sat _ jb bs Ms false false false ca cc (ja.ext e0) kd n s l oa oc ka kn kc (hr.ext e0) hsz X xqa xqc xia xic xpa xpc (xq.ext e0) (xi.ext e0) (xp.ext e0) x32 k11 k15 (kt.ext e0) hE hn) ?_
  rintro _ h24 ⟨rfl,bs2,ca2,cc2,ja2,hsub,gz⟩
  have gw:=(Gr.start (JF jb bs) h).ext e0 |>.trans gz
  refine sT [(6,.int .i64 ((holdJ ⟨Ms,false,false,false,false⟩ (fitF kd n s l X)).2))] fun a hF=> ?_
  refine cR ?_
  refine rT 6 (.int .i64 ((holdJ ⟨Ms,false,false,false,false⟩ (fitF kd n s l X)).2)) hF ?_
  exact⟨rfl,bs2,ca2,cc2,ja2,fun x hx=> .inl (hsub x hx),gw⟩
end Go.Proofs.YtegkejcglfgpmaaGreatDoor
end
section
namespace Go.Sha
open Go Go.Lane
theorem JA.ownO{h h':Heap}{jb:Nat}{bs:List (Nat×Nat)}{J:Jd}{ca:Option Addr}{cc:Nat}{o:Option Nat}{v:Value}{E:TypeId}{n sz:Nat}{xs:List Value}(a:JA h jb bs J ca cc)(g:Grew o h h')(w:Own h v E n sz xs)(ho:blkOf v=o)(hE:Eok E=false)(hM:E≠83)(hP:E≠55)(hJ:E≠77):JA h' jb bs J ca cc:=by
  subst ho
  rcases w.2 with⟨rfl,_⟩|⟨k,off,cap,l,rfl,m,_⟩
  · exact a.ext g
  · have gr : Gr (fun i => i = k) h h' := ⟨g.1, fun i hi hn => g.2 i hi (fun e => hn (Option.some.inj e))⟩
    have hjk:jb≠k:=by rintro rfl;rw[a.hj] at m;cases m;exact hJ rfl
    exact⟨gr.blk a.hj hjk,a.row.fr gr (fun i e cs fr e2=>by rw[e,m] at e2;cases e2;exact hP rfl),a.cs.ownO g w rfl hE hM⟩
theorem JA.nown{h:Heap}{jb:Nat}{bs:List (Nat×Nat)}{J:Jd}{ca:Option Addr}{cc:Nat}{ad:Option Addr}{n cap:Nat}{E:TypeId}{m sz:Nat}{xs:List Value}(a:JA h jb bs J ca cc)(w:Own h (.slice ad n cap) E m sz xs)(hM:E≠83)(hJ:E≠77):∀k,ad.map (fun(x:Addr)=>x.block)=some k→¬JF jb bs k:=fun k e=>by
  rcases w.2 with⟨e2,_⟩|⟨g,off,cap',l,e2,q,_⟩
  · cases e2;cases e
  · cases e2
    simp only[Option.map_some,Option.some.injEq] at e
    subst e
    rintro(rfl|⟨x,hx,e⟩)
    · rw[a.hj] at q;cases q;exact hJ rfl
    · have := a.cs.nej q hM x hx
      rcases e with e|e
      · exact this.1 e
      · exact this.2 e
/-! ### faults -/
@[reducible] def ftc(p:Int×Int):List Value:=[.int .i64 p.1, .int .i64 p.2]
@[reducible] def ftrow(L:List (Int×Int)):List Value:=L.flatMap ftc
theorem ftc_len(p:Int×Int):(ftc p).length =2:=rfl
theorem ftrow_one(L:List (Int×Int)):∀u∈ftrow L,u.oneCell' =true:=fm_ones (fun p u hu=>by simp only[ftc,List.mem_cons,List.not_mem_nil,or_false] at hu;rcases hu with rfl|rfl<;>rfl) L
def fts(r:Nat→Int)(k:Nat):List (Int×Int):=(List.range k).filterMap fun i=>if r i=0 then none else some (((i:Nat):Int),r i)
theorem fts_no{r:Nat→Int}{k:Nat}(h:r k=0):fts r (k+1)=fts r k:=by unfold fts;rw[List.range_succ,List.filterMap_append];simp[h]
theorem fts_yes{r:Nat→Int}{k:Nat}(h:r k≠0):fts r (k+1)=fts r k++[(((k:Nat):Int),r k)]:=by unfold fts;rw[List.range_succ,List.filterMap_append];simp[h]
theorem fts_le(r:Nat→Int):∀k,(fts r k).length ≤k
  |0=>by simp[fts]
  | k + 1 => by
    have:=fts_le r k
    by_cases h:r k=0
    · rw[fts_no h];omega
    · rw[fts_yes h];simp;omega
end Go.Sha
end
section
namespace Go.Proofs.YtegkejcglfgpmaaGreatDoor
open Go Go.Lane Go.Sha
/-! ### answers with their slices; what the judge does by one operation -/
structure AnR where
  X:An
  qa:Option Addr
  qc:Nat
  ia:Option Addr
  ic:Nat
  pa:Option Addr
  pc:Nat
@[reducible] def ansr(r:AnR):List Value:=asc r.X.c (.slice r.qa r.X.b.length r.qc) r.X.sx r.X.se r.X.sh r.X.sg (.slice r.ia r.X.i.length r.ic) r.X.n r.X.y r.X.k (.slice r.pa r.X.p.length r.pc)
def ar0:AnR:=⟨an0,none,0,none,0,none,0⟩
@[reducible] def arow(A:List AnR):List Value:=A.flatMap ansr
theorem ansr_len(r:AnR):(ansr r).length =75:=rfl
def OpE(h:Heap)(o:OpR):Prop:=RowE h (.slice o.oa o.l.length o.oc) o.l.length 1 (o.l.map bv)∧o.s.size ≤9223372036854775807
def AnE(h:Heap)(x:AnR):Prop:=RowE h (.slice x.qa x.X.b.length x.qc) x.X.b.length 1 (x.X.b.map bv)∧RowE h (.slice x.ia x.X.i.length x.ic) x.X.i.length 1 (x.X.i.map Value.string)∧RowE h (.slice x.pa x.X.p.length x.pc) x.X.p.length 32 (hcs x.X.p)∧All32 x.X.p
theorem _root_.Go.Sha.JA.one{h:Heap}{jb:Nat}{bs:List (Nat×Nat)}{J:Jd}{ca:Option Addr}{cc:Nat}{M:Md}(a:JA h jb bs J ca cc)(hc:J.c =[M]):∃y aa,bs=[y]∧ca=some aa:=by
  have hl:=a.cs.len
  rw[hc] at hl
  obtain⟨y,rfl⟩:=List.length_eq_one_iff.1 hl
  obtain⟨aa,e,_⟩:=a.row.1.someA (by simp)
  exact⟨y,aa,rfl,e⟩
def SeeAt(h:Heap)(o:OpR)(x:AnR)(J J':Jd)(r:Int):Prop:=∀(h1:Heap) (jb:Nat) (bs:List (Nat×Nat)) (ca:Option Addr) (cc:Nat),Ext h h1→0<jb→Ktab h1→JA h1 jb bs J ca cc→
  Sat Tryz.prog 31 #[.pointer (some ⟨jb,0,none⟩), .agg (opc o).toArray, .agg (ansr x).toArray] h1 fun v h'=>v= .int .i64 r∧∃bs' ca cc,JA h' jb bs' J' ca cc∧(∀z∈bs',z∈bs∨(h1.size ≤z.1 ∧h1.size ≤z.2))∧Gr (JF jb bs) h1 h'
section
variable {h:Heap} {o:OpR} {x:AnR} {Ms:List Md} {M:Md}
theorem SeeAt.fuse{o2 o3:Bool}(hx:AnE h x)(hk:o.kd =12):SeeAt h o x ⟨Ms,false,o2,o3,false⟩ ⟨Ms,false,decide (0≤o.n),o3,false⟩ (ruleA an0 x.X):=fun h1 jb bs ca cc g _ _ ja=>
  see_fuse h1 jb bs Ms ca cc o2 o3 ja o.kd o.n o.s o.l o.oa o.oc o.ka o.kn o.kc x.X x.qa x.qc x.ia x.ic x.pa x.pc (hx.1.ext g) (hx.2.1.ext g) (hx.2.2.1.ext g) hx.2.2.2 (kind_ff (by omega) (by omega)) hk
theorem SeeAt.boot{o1 o2 o3:Bool}(hx:AnE h x)(hk:o.kd =13):SeeAt h o x ⟨Ms,o1,o2,o3,false⟩ ⟨Ms,false,false,o3,false⟩ (ruleA an0 x.X):=fun h1 jb bs ca cc g _ _ ja=>
  see_boot h1 jb bs Ms ca cc o1 o2 o3 ja o.kd o.n o.s o.l o.oa o.oc o.ka o.kn o.kc x.X x.qa x.qc x.ia x.ic x.pa x.pc (hx.1.ext g) (hx.2.1.ext g) (hx.2.2.1.ext g) hx.2.2.2 (kind_ff (by omega) (by omega)) hk
theorem SeeAt.power(ho:OpE h o)(hx:AnE h x)(hkc:kindC o.kd =(true,true))(hX:x.X.c =2)(hE:M.E.length ≤1099511627)(hc:(stepR M o).2.c =0)(hne:(stepR M o).1.E.length ≠M.E.length):SeeAt h o x ⟨[M],false,true,false,false⟩ ⟨[M,(stepR M o).1],true,true,false,false⟩ (ruleA (anC 2) x.X):=fun h1 jb bs ca cc g hk kt ja=>by
  obtain⟨y,aa,rfl,rfl⟩:=ja.one rfl
  exact see_power_a h1 jb y M aa cc ja o.kd o.n o.s o.l o.oa o.oc o.ka o.kn o.kc (ho.1.ext g) ho.2 x.X x.qa x.qc x.ia x.ic x.pa x.pc (hx.1.ext g) (hx.2.1.ext g) (hx.2.2.1.ext g) hx.2.2.2 hkc hX kt hk hE hc hne
theorem SeeAt.holdC(ho:OpE h o)(hx:AnE h x)(hkc:kindC o.kd =(true,true))(hX:x.X.c ≠3)(hE:∀M∈Ms,M.E.length ≤1099511627)(hn:Ms.length ≤1099511627){J:Jd}{r:Int}(e:holdJ ⟨Ms,false,false,false,false⟩ (fitF o.kd o.n o.s o.l x.X)=(J,r)):SeeAt h o x ⟨Ms,false,false,false,false⟩ J r:=fun h1 jb bs ca cc g hk kt ja=>by
  have hl:=ja.cs.len
  have hh:o.kd ≠11∧o.kd ≠15:=⟨by rintro e;rw[e] at hkc;exact absurd hkc (by decide),by rintro e;rw[e] at hkc;exact absurd hkc (by decide)⟩
  have:=see_holdC h1 jb bs Ms ca cc ja o.kd o.n o.s o.l o.oa o.oc o.ka o.kn o.kc (ho.1.ext g) ho.2 x.X x.qa x.qc x.ia x.ic x.pa x.pc (hx.1.ext g) (hx.2.1.ext g) (hx.2.2.1.ext g) hx.2.2.2 hkc hX hh.1 hh.2 kt hE (by rw[hl];exact hn)
  rwa [e] at this
theorem SeeAt.holdA(ho:OpE h o)(hx:AnE h x)(hkc:kindC o.kd =(true,false))(k11:o.kd ≠11)(k15:o.kd ≠15)(hE:∀M∈Ms,M.E.length ≤1099511627)(hn:Ms.length ≤1099511627){J:Jd}{r:Int}(e:holdJ ⟨Ms,false,false,false,false⟩ (fitF o.kd o.n o.s o.l x.X)=(J,r)):SeeAt h o x ⟨Ms,false,false,false,false⟩ J r:=fun h1 jb bs ca cc g hk kt ja=>by
  have hl:=ja.cs.len
  have:=see_holdA h1 jb bs Ms ca cc ja o.kd o.n o.s o.l o.oa o.oc o.ka o.kn o.kc (ho.1.ext g) ho.2 x.X x.qa x.qc x.ia x.ic x.pa x.pc (hx.1.ext g) (hx.2.1.ext g) (hx.2.2.1.ext g) hx.2.2.2 hkc k11 k15 kt hE (by rw[hl];exact hn)
  rwa [e] at this
end
/-! ### the document's examples -/
@[reducible] def sA:ByteArray:=ByteArray.mk #[97]
noncomputable def M1:Md:=(putM M0 sA [97]).1
def anB(l:List UInt8):An:={an0 with b:=l}
theorem sA_ok:nameOk sA=true:=by decide
theorem M1_eq:putM M0 sA [97]=(M1,0):=by unfold M1;rw[putM_ok sA_ok (by decide) rfl]
theorem M1_f:M1.f sA=some (putO sA [97] 0):=by
  have:M1=⟨upd M0.f sA (putO sA [97] M0.E.length),M0.E ++[entB sA 1 (rootB [97])],M0.t⟩:=by unfold M1;rw[putM_ok sA_ok (by decide) rfl];rfl
  rw[this];show upd M0.f sA (putO sA [97] 0) sA=_;exact upd_at _ _ _
theorem M1_E:M1.E.length =1:=by unfold M1;rw[putM_ok sA_ok (by decide) rfl];rfl
theorem put0(n:Int):step M0 1 n sA [97]=(M1,an0):=by rw[step_put rfl,M1_eq];rfl
theorem put1(n:Int):step M1 1 n sA [97]=(M1,anC 212):=by rw[step_put rfl,putM_twice sA_ok (by decide) M1_f]
theorem get0(n:Int)(l:List UInt8):step M0 2 n sA l=(M0,anC 211):=by rw[step_ask (.inl rfl),askM_none sA_ok rfl]
theorem get1(n:Int)(l:List UInt8):step M1 2 n sA l=(M1,anB [97]):=by rw[step_ask (.inl rfl),askM_get sA_ok M1_f rfl rfl];rfl
theorem r00:ruleA an0 an0=0:=rule0 rfl rfl (stEq_self ..) rfl (hdEq_self ..) rfl rfl
theorem ruleEx:ruleA (anB [97]) (anB [98])=2:=rule2 rfl (by decide)
theorem rBB:ruleA (anB [97]) (anB [97])=0:=rule0 rfl rfl (stEq_self ..) rfl (hdEq_self ..) rfl rfl
theorem rCC(c:Int):ruleA (anC c) (anC c)=0:=rule0 rfl rfl (stEq_self ..) rfl (hdEq_self ..) rfl rfl
theorem rC{A B:An}(h:A.c ≠B.c):ruleA A B=1:=rule1 h
theorem hold1{M N:Md}{f:Md→Md×Int}(h:f M=(N,0)){a b c d:Bool}:holdJ ⟨[M],a,b,c,d⟩ f=(⟨[N],a,b,c,d⟩,0):=by simp[holdJ,h]
theorem hold0{M N:Md}{r:Int}{f:Md→Md×Int}(h:f M=(N,r))(hr:r≠0){a b c d:Bool}:holdJ ⟨[M],a,b,c,d⟩ f=(⟨[N],a,b,c,d⟩,r):=by simp[holdJ,h,hr,hdF]
theorem hold01{M N K L:Md}{r:Int}{f:Md→Md×Int}(h:f M=(K,r))(k:f N=(L,0))(hr:r≠0){a b c d:Bool}:holdJ ⟨[M,N],a,b,c,d⟩ f=(⟨[L],a,b,c,d⟩,0):=by simp[holdJ,h,k,hr]
theorem hold10{M N K L:Md}{r:Int}{f:Md→Md×Int}(h:f M=(K,0))(k:f N=(L,r))(hr:r≠0){a b c d:Bool}:holdJ ⟨[M,N],a,b,c,d⟩ f=(⟨[K],a,b,c,d⟩,0):=by simp[holdJ,h,k,hr]
theorem fit_of{M N:Md}{A X:An}{kd n r:Int}{s:ByteArray}{l:List UInt8}(h:step M kd n s l=(N,A))(k:ruleA A X=r):fitF kd n s l X M=(N,r):=by unfold fitF;rw[h];exact congrArg _ k
def whZ(c:Int):Nat:=(if c<0 then -(c+1) else c).toNat %3
end Go.Proofs.YtegkejcglfgpmaaGreatDoor
end
section
namespace Go.Proofs.YtegkejcglfgpmaaGreatDoor
open Go Go.Lane Go.Sha
noncomputable def b10:Code:=Tryz.f10.body.getD .skip
set_option maxHeartbeats 1000000 in
theorem judge_sat(h:Heap)(L:List OpR)(A:List AnR)(n:Nat)(la:Option Addr)(lc:Nat)(xa:Option Addr)(xc:Nat)(Jf:Nat→Jd)(r:Nat→Int)(hl:Row h (.slice la n lc) n 5 (oprow L))(hL:L.length =n)(ha:Row h (.slice xa n xc) n 75 (arow A))(hA:A.length =n)(kt:Ktab h)(hn:n≤1099511627)(hJ0:Jf 0=⟨[M0],false,false,false,false⟩)(see:∀k,k<n→SeeAt h (L.getD k op0) (A.getD k ar0) (Jf k) (Jf (k+1)) (r k)):Sat Tryz.prog 10 #[.slice la n lc,.slice xa n xc] h fun v h'=>∃ad cap,v= .slice ad (fts r n).length cap∧Own h' (.slice ad (fts r n).length cap) 52 (fts r n).length 2 (ftrow (fts r n))∧Ext h h':=by
 have e0:=Ext.refl h
 have h0s:=kt.lt
 have sep:Sep h.size h.size []:=Sep.nil _ _
 refine sat_in Tryz.func10 53 fun a hF=> ?_
 refine qP [] hF fun a hF=> ?_
 refine qS hF ?_
 refine tG 0 (new_m _ (by have:=e0.size;omega)) ?_
 rintro _ h1 ⟨mb,mp,rfl,hM,hb1,hp1,g⟩
 have hse:=e0.size;replace hb1:=Nat.le_trans hse hb1;replace hp1:=Nat.le_trans hse hp1;clear hse
 replace e0:=e0.ext g
 replace kt:=kt.ext g
 replace sep:=sep.up g.size
 clear g
 refine tN 1 (.slice (some ⟨h1.size,0,none⟩) 1 1) #[pV mb] 55 fun h2 g3 m4=> ?_
 have lt5:=blk_lt m4
 have zs6:=e0.size
 replace sep:=sep.nw e0.size m4
 refine tN 3 (pV h2.size) #[.slice (some ⟨h1.size,0,none⟩) 1 1,.bool false,.bool false,.bool false,.bool false] 77 fun h7 g8 m9=> ?_
 have lt10:=blk_lt m9
 replace e0:=e0.ext g3
 have zs11:=e0.size
 replace sep:=sep.nw e0.size m9
 refine sT [(5,pV h2.size)] fun a hF=> ?_
 refine qP [(6,.slice none 0 0)] hF fun a hF=> ?_
 refine qS hF ?_
 refine t1 4 (.int .i64 ((n:Nat):Int)) (.int .i64 (if ((n:Nat):Int)<((n:Nat):Int) then ((n:Nat):Int) else ((n:Nat):Int))) (congrArg (Value.int .i64) (by split<;>rfl)) ?_
 refine sT [(7,nV n)] fun a hF=> ?_
 refine cS ?_
 refine qP [(19,nV n),(20,.int .i64 0)] hF fun a hF=> ?_
 refine cB 0 ?_
 have hjl:h.size ≤h2.size :=by omega
 replace hM:=(hM.ext g3).ext g8
 replace m4:=m4.x g8
 have ja:JA h7 h2.size [(mb,mp)] (Jf 0) (some ⟨h1.size,0,none⟩) 1:=hJ0▸⟨m9,⟨Row.blk (n:=1) (sz:=1) (l:=[mpt (mb,mp)]) m4 rfl,.inr ⟨_,_,_,rfl,m4⟩⟩,CA.one hM⟩
 have hlow:∀z∈[(mb,mp)],h.size ≤z.1 ∧h.size ≤z.2 :=fun z hz=>by rw[List.mem_singleton.1 hz];exact⟨hb1,hp1⟩
 clear hM m4 m9
 have own_f:Own h7 (.slice none 0 0) 52 0 2 (ftrow (fts r 0)):=Own.nil _ _ _
 replace e0:=e0.ext g8
 have hlo:=e0.size
 replace sep:=(sep.sub (l':=[]) (List.nil_sublist _)).none hlo;clear hlo
 replace kt:=(kt.ext g3).ext g8
 refine cL (fun m a h'=>∃k:Nat,∃ad:Option Addr,∃cap:Nat,∃bs:List (Nat×Nat),∃ca:Option Addr,∃cc:Nat,m=n - k∧(Ext h h')∧(Ktab h')∧(k≤n)∧(∀z∈bs,h.size ≤z.1 ∧h.size ≤z.2)∧(JA h' h2.size bs (Jf k) ca cc)∧(Own h' (.slice ad ((fts r k).length) cap) 52 ((fts r k).length) 2 (ftrow (fts r k)))∧(Sep h.size h'.size [ad.map (·.block)])∧(Fr a 53 [(0,.slice la n lc),(1,.slice xa n xc),(5,.pointer (some ⟨h2.size,0,none⟩)),(6,.slice ad ((fts r k).length) cap),(7,.int .i64 ((n:Nat):Int)),(19,.int .i64 ((n:Nat):Int)),(20,.int .i64 ((k:Nat):Int))])) (n - 0) ⟨0,none,0,[(mb,mp)],(some ⟨h1.size,0,none⟩),1,rfl,e0,kt,(by omega),hlow,ja,own_f,sep,hF.to⟩ ?_
 clear hF a
 clear e0
 clear kt
 clear hlow
 clear ja
 clear own_f
 clear sep
 rintro m a h12 ⟨k,ad,cap,bs,ca,cc,rfl,e0,kt,hk,hlow,ja,own_f,sep,hF⟩
 refine qP [(21,.bool (decide (((k:Nat):Int)<((n:Nat):Int))))] hF fun a hF=> ?_
 refine cS ?_
 refine cJ 21 hF (fun hc13=> ?_) fun hc13=> ?_
 ·skip
  have hkn:k<n:=by omega
  have hFn:=hF
  obtain⟨al,rfl,hcap_al⟩:=hl.someA (by omega)
  have hF:=hFn;clear hFn
  have hFn:=hF
  obtain⟨ax,rfl,hcap_ax⟩:=ha.someA (by omega)
  have hF:=hFn;clear hFn
  refine cN ?_
  refine tK ?_
  refine cS ?_
  refine cB 1 ?_
  refine qP [(8,nV k)] hF fun a hF=> ?_
  refine cS ?_
  refine cD [0,0,0,6,14,0,0,96,224,511,1023] 7 mixed hF ?_
  refine mP 7 [0,1,2] [pV h2.size,.slice (some al) n lc,nV k] ?_
  refine mI 15 3 al n 5 k (k*5) ?_
  refine mL 31 16 4 (.agg ((opc (L.getD k op0)).toArray)) (Calm.load (T:=35) (p:=(Addr.add al (k*5))) (by kernel_rfl) (Row.fm (d:=op0) opc_len (hl.ext e0) (by kernel_rfl) (by omega) rfl)) ?_
  refine mP 127 [5,6] [.slice (some ax) n xc,nV k] ?_
  refine mI 255 7 ax n 75 k (k*75) ?_
  refine mL 511 272 8 (.agg ((ansr (A.getD k ar0)).toArray)) (Calm.load (T:=47) (p:=(Addr.add ax (k*75))) (by kernel_rfl) (Row.fm (d:=ar0) ansr_len (ha.ext e0) (by kernel_rfl) (by omega) rfl)) ?_
  refine mG0 1023 1023 9 (see k hkn _ h2.size bs ca cc e0 (by omega) kt ja) ?_
  rintro _ h14 ⟨rfl,bs2,ca2,cc2,ja2,hb2,gz⟩
  have hse:=e0.size
  have hlow2:∀z∈bs2,h.size ≤z.1 ∧h.size ≤z.2 :=fun z hz=>by rcases hb2 z hz with h9|h9;exact hlow z h9;exact⟨by omega,by omega⟩
  have hJF:∀i,JF h2.size bs i→h.size ≤i:=by rintro i (e|⟨x,hx,e|e⟩);omega;have:=hlow x hx;omega;have:=hlow x hx;omega
  replace own_f:=Gr.own gz own_f (by rw[blkOf_slice];exact ja.nown own_f (by decide) (by decide))
  replace e0:=Gr.toExt e0 gz hJF
  replace kt:=kt.gr gz (fun e=>by have:=hJF _ e;omega)
  replace sep:=sep.up gz.1
  clear ja;have ja:=ja2;clear ja2 hJF hse hb2
  refine mP 2047 [10] [.int .i64 (r k)] ?_
  refine mE [(9,.int .i64 (r k))] fun a hF=> ?_
  refine tK ?_
  refine qP [(34,.bool (!decide ((r k)=(0:Int))))] hF fun a hF=> ?_
  refine cI 34 hF (fun hc15=> ?_) fun hc15=> ?_
  ·skip
   have hfz:=fts_yes hc15
   have hfl:=fts_le r k
   refine rS hF ?_
   refine tN 4 (.slice (some ⟨h14.size,0,none⟩) 1 1) #[nV k,.int .i64 (r k)] 52 fun h16 g17 m18=> ?_
   have lt19:=blk_lt m18
   have zs20:=e0.size
   replace sep:=sep.nw e0.size m18
   replace own_f:=own_f.ext g17
   refine tP 5 ((fts r k).length +1) 16 (ftrow (fts r k++[(((k:Nat):Int),r k)])) own_f (Row.blk (n:=1) (sz:=2) (l:=ftrow [(((k:Nat):Int),r k)]) m18 rfl) (ftrow_one _) (fun ad21 cap22 h23 ownx g24 hb25=> ?_) (ys:=(ftrow ([(((k:Nat):Int),r k)]))) (hZ:=by first|rfl|exact List.flatMap_append.symm |simp[ftrow])
   replace e0:=e0.ext g17
   replace ja:=ja.ext g17
   replace ja:=ja.ownO g24 own_f (blkOf_slice ..) (by decide) (by decide) (by decide) (by decide)
   have s26:=sep
   replace sep:=sep.sa g24 1 hb25 ownx e0.size;clear hb25
   replace own_f:=ownx;clear ownx
   have hfl2:(fts r k).length +1=(fts r (k+1)).length :=by rw[hfz,List.length_append];rfl
   rw[hfl2,←hfz] at own_f
   refine sE [(6,.slice ad21 ((fts r k).length +1) cap22)] fun a hF=> ?_
   have hcan:((fts r k).length +1:Nat)=(fts r (k+1)).length :=by first|exact hfl2| (simp;done)| (simp;omega)
   rw[hcan] at hF;clear hcan
   refine bK ?_
   refine tK ?_
   refine rS hF ?_
   refine tA 0 k 1 ?_
   refine sE [(20,nV (k+1))] fun a hF=> ?_
   clear m18 lt19 zs20
   replace kt:=(kt.ext g17).grew g24 (s26.zero 1 rfl h0s)
   replace e0:=e0.grew g24 (s26.l 1)
   replace sep:=sep.sub (l':=[ad21.map (·.block)]) (.cons _ (.cons_cons _ (.slnil)))
   show ∃m',m'<_∧_
   refine⟨_,?_,(k+1),ad21,cap22,bs2,ca2,cc2,rfl,e0,kt,(by omega),hlow2,ja,own_f,sep,hF.to⟩
   omega
  ·skip
   have hfz:=fts_no hc15
   rw[←hfz] at own_f hF
   refine cN ?_
   refine bK ?_
   refine tK ?_
   refine rS hF ?_
   refine tA 0 k 1 ?_
   refine sE [(20,nV (k+1))] fun a hF=> ?_
   replace sep:=sep.sub (l':=[ad.map (·.block)]) (.cons_cons _ (.slnil))
   show ∃m',m'<_∧_
   refine⟨_,?_,(k+1),ad,cap,bs2,ca2,cc2,rfl,e0,kt,(by omega),hlow2,ja,own_f,sep,hF.to⟩
   omega
 ·skip
  refine cX 0 (xT (xT (xB ?_)))
  refine tK ?_
  refine cS ?_
  refine qS hF ?_
  refine uF 4 ((n:Nat):Int) ((n:Nat):Int) ?_
  refine sT [(46,.bool false)] fun a hF=> ?_
  refine cF 46 hF ?_
  refine cN ?_
  refine tK ?_
  refine qP [(4,.slice ad ((fts r k).length) cap)] hF fun a hF=> ?_
  refine cR ?_
  refine rT 4 (.slice ad ((fts r k).length) cap) hF ?_
  have hke:k=n:=by omega
  exact⟨ad,cap,by rw[hke],by rw[←hke];exact own_f,e0⟩
noncomputable def b14:Code:=Tryz.f14.body.getD .skip
theorem samef_a(h:Heap)(p:Int×Int)(aa:Addr)(vc:Nat)(ab:Addr)(vd:Nat)(ra:Row h (.slice (some aa) 1 vc) 1 2 (ftrow [p]))(rb:Row h (.slice (some ab) 1 vd) 1 2 (ftrow [p])):Sat Tryz.prog 14 #[.slice (some aa) 1 vc,.slice (some ab) 1 vd] h fun v h'=>v= .bool true∧h'=h:=by
 refine sat_in Tryz.func14 26 fun a hF=> ?_
 refine qP [] hF fun a hF=> ?_
 refine cS ?_
 refine qP [(10,.bool false)] hF fun a hF=> ?_
 refine cF 10 hF ?_
 refine cN ?_
 refine tK ?_
 refine cS ?_
 refine qP [(5,.int .i64 0)] hF fun a hF=> ?_
 refine cB 0 ?_
 refine cU 2 ?_
 refine Cround.step ?_
 refine cS ?_
 refine qP [(14,.bool true)] hF fun a hF=> ?_
 refine cT 14 hF ?_
 refine cN ?_
 refine tK ?_
 refine cS ?_
 refine cB 1 ?_
 refine cS ?_
 refine cD [0,0,3,7,0,0,48,112,255] 6 mixed hF ?_
 refine mP 3 [0,1] [.slice (some aa) 1 vc,.int .i64 0] ?_
 refine mI 7 2 aa 1 2 0 0 ?_
 refine mL 15 8 3 (.agg #[.int .i64 p.1,.int .i64 p.2]) (Calm.load (T:=52) (p:=aa) (by kernel_rfl) (Row.fm (a:=aa) (q:=0) (L:=[p]) (i:=0) (d:=p) ftc_len ra (by kernel_rfl) (by simp) rfl)) ?_
 refine mP 63 [4,5] [.slice (some ab) 1 vd,.int .i64 0] ?_
 refine mI 127 6 ab 1 2 0 0 ?_
 refine mL 255 136 7 (.agg #[.int .i64 p.1,.int .i64 p.2]) (Calm.load (T:=52) (p:=ab) (by kernel_rfl) (Row.fm (a:=ab) (q:=0) (L:=[p]) (i:=0) (d:=p) ftc_len rb (by kernel_rfl) (by simp) rfl)) ?_
 refine mF 511 8 (.bool false) (Calm.eqS (q:=false) (xs:= #[.int .i64 p.1,.int .i64 p.2]) (by kernel_rfl)) ?_
 refine mE [(25,.bool false)] fun a hF=> ?_
 refine tK ?_
 refine cF 25 hF ?_
 refine cN ?_
 refine bK ?_
 refine tK ?_
 refine rP [(5,.int .i64 1)] hF fun a hF=> ?_
 refine tK (Cround.step ?_)
 refine cS ?_
 refine qP [(14,.bool false)] hF fun a hF=> ?_
 refine cF 14 hF ?_
 refine cX 0 (xT (xT (xB ?_)))
 refine tK ?_
 refine qP [(4,.bool true)] hF fun a hF=> ?_
 refine cR ?_
 refine rT 4 (.bool true) hF ?_
 exact⟨rfl,rfl⟩
theorem samef_one(h:Heap)(p:Int×Int)(va:Option Addr)(vc:Nat)(vb:Option Addr)(vd:Nat)(ra:Row h (.slice va 1 vc) 1 2 (ftrow [p]))(rb:Row h (.slice vb 1 vd) 1 2 (ftrow [p])):Sat Tryz.prog 14 #[.slice va 1 vc,.slice vb 1 vd] h fun v h'=>v= .bool true∧h'=h:=by
 obtain⟨aa,rfl,_⟩:=ra.someA (by decide)
 obtain⟨ab,rfl,_⟩:=rb.someA (by decide)
 exact samef_a h p aa vc ab vd ra rb
noncomputable def b12:Code:=Tryz.f12.body.getD .skip
end Go.Proofs.YtegkejcglfgpmaaGreatDoor
end
section
namespace Go.Proofs.YtegkejcglfgpmaaGreatDoor
open Go Go.Lane Go.Sha
/-! ### the examples: their operations, their answers, what the judge does by each -/
theorem rowU{h:Heap}{b:Nat}{x:UInt8}(m:h[b]? =some (.cells #[bv x] 5)):RowE h (.slice (some ⟨b,0,none⟩) 1 1) 1 1 ([x].map bv):=
  ⟨Row.blk (n:=1) (sz:=1) (l:=[x].map bv) m rfl, .inr ⟨b,_,_,_,rfl,m,by decide⟩⟩
@[reducible] def oPut(b:Nat):OpR:=⟨1,sA,[97],some ⟨b,0,none⟩,1,0,none,0,0⟩
@[reducible] def oGet:OpR:=⟨2,sA,[],none,0,0,none,0,0⟩
@[reducible] def oKind(k:Int):OpR:=⟨k,ByteArray.empty,[],none,0,0,none,0,0⟩
@[reducible] def aCode(c:Int):AnR:=⟨anC c,none,0,none,0,none,0⟩
@[reducible] def aByte(x:UInt8)(b:Nat):AnR:=⟨anB [x],some ⟨b,0,none⟩,1,none,0,none,0⟩
section
variable {h:Heap} {b b2:Nat}
theorem oPutE(m:h[b]? =some (.cells #[bv 97] 5)):OpE h (oPut b):=⟨rowU m,(by decide:sA.size ≤9223372036854775807)⟩
theorem oGetE(h:Heap):OpE h oGet:=⟨RowE.nil _ _,by decide⟩
theorem ar0E(h:Heap):AnE h ar0:=⟨RowE.nil _ _,RowE.nil _ _,RowE.nil _ _,All32.nil⟩
theorem aCodeE(h:Heap)(c:Int):AnE h (aCode c):=⟨RowE.nil _ _,RowE.nil _ _,RowE.nil _ _,All32.nil⟩
theorem aByteE{x:UInt8}(m:h[b]? =some (.cells #[bv x] 5)):AnE h (aByte x b):=⟨rowU m,RowE.nil _ _,RowE.nil _ _,All32.nil⟩
theorem E0:∀M∈[M0],M.E.length ≤1099511627:=fun M hM=>by rw[List.mem_singleton.1 hM];decide
theorem E1:∀M∈[M1],M.E.length ≤1099511627:=fun M hM=>by rw[List.mem_singleton.1 hM,M1_E];decide
theorem E01:∀M∈[M0,M1],M.E.length ≤1099511627:=fun M hM=>by
  rcases List.mem_cons.1 hM with rfl|hM
  · decide
  · exact E1 M hM
noncomputable def JD:Nat→Jd
  |0=>⟨[M0],false,false,false,false⟩
  |_=>⟨[M1],false,false,false,false⟩
def rD:Nat→Int
  |1=>2
  |_=>0
theorem seeD(m:h[b]? =some (.cells #[bv 97] 5))(m2:h[b2]? =some (.cells #[bv 98] 5))(k:Nat)(hk:k<2):SeeAt h ([oPut b,oGet].getD k op0) ([ar0,aByte 98 b2].getD k ar0) (JD k) (JD (k+1)) (rD k):=by
  match k,hk with
  |0,_=>exact SeeAt.holdC (o:=oPut b) (x:=ar0) (oPutE m) (ar0E h) (kind_tt (.inl rfl)) (by decide) E0 (by decide) (hold1 (fit_of (put0 _) r00))
  |1,_=>exact SeeAt.holdA (o:=oGet) (x:=aByte 98 b2) (oGetE h) (aByteE m2) (kind_tf (by decide) (.inl rfl)) (by decide) (by decide) E1 (by decide) (hold0 (fit_of (get1 _ _) ruleEx) (by decide))
def JE:Nat→Jd
  |0=>⟨[M0],false,false,false,false⟩
  |_=>⟨[M0],false,false,false,false⟩
def rE:Nat→Int:=fun _=>1
theorem seeE(h:Heap)(k:Nat)(hk:k<1):SeeAt h ([oGet].getD k op0) ([aCode 2].getD k ar0) (JE k) (JE (k+1)) (rE k):=by
  match k,hk with
  |0,_=>exact SeeAt.holdA (o:=oGet) (x:=aCode 2) (oGetE h) (aCodeE h 2) (kind_tf (by decide) (.inl rfl)) (by decide) (by decide) E0 (by decide) (hold0 (fit_of (get0 _ _) (rC (by decide))) (by decide))
noncomputable def JF4:Nat→Jd
  |0=>⟨[M0],false,false,false,false⟩
  |1=>⟨[M0],false,true,false,false⟩
  |2=>⟨[M0,M1],true,true,false,false⟩
  |3=>⟨[M0,M1],false,false,false,false⟩
  |_=>⟨[M1],false,false,false,false⟩
def rF:Nat→Int
  |4=>1
  |_=>0
theorem see0(x:AnR)(hx:x=ar0):SeeAt h (oKind 12) x (JF4 0) (JF4 1) 0:=by
  subst hx
  have:=SeeAt.fuse (h:=h) (o:=oKind 12) (x:=ar0) (Ms:=[M0]) (o2:=false) (o3:=false) (ar0E h) rfl
  rw[show ruleA an0 ar0.X =0 from r00] at this
  exact this
theorem see1(m:h[b]? =some (.cells #[bv 97] 5)):SeeAt h (oPut b) (aCode 2) (JF4 1) (JF4 2) 0:=by
  have e:stepR M0 (oPut b)=(M1,an0):=put0 0
  have:=SeeAt.power (h:=h) (o:=oPut b) (x:=aCode 2) (M:=M0) (oPutE m) (aCodeE h 2) (kind_tt (.inl rfl)) rfl (by decide) (by rw[e];rfl) (by rw[e,M1_E];decide)
  rw[e,rCC] at this
  exact this
theorem see2:SeeAt h (oKind 13) ar0 (JF4 2) (JF4 3) 0:=by
  have:=SeeAt.boot (h:=h) (o:=oKind 13) (x:=ar0) (Ms:=[M0,M1]) (o1:=true) (o2:=true) (o3:=false) (ar0E h) rfl
  rw[show ruleA an0 ar0.X =0 from r00] at this
  exact this
theorem seeF(m:h[b]? =some (.cells #[bv 97] 5))(m2:h[b2]? =some (.cells #[bv 97] 5))(k:Nat)(hk:k<5):SeeAt h ([oKind 12,oPut b,oKind 13,oGet,oGet].getD k op0) ([ar0,aCode 2,ar0,aByte 97 b2,aCode 211].getD k ar0) (JF4 k) (JF4 (k+1)) (rF k):=by
  match k,hk with
  |0,_=>exact see0 _ rfl
  |1,_=>exact see1 m
  |2,_=>exact see2
  |3,_=>exact SeeAt.holdA (o:=oGet) (x:=aByte 97 b2) (oGetE h) (aByteE m2) (kind_tf (by decide) (.inl rfl)) (by decide) (by decide) E01 (by decide) (hold01 (fit_of (get0 _ _) (rC (by decide))) (fit_of (get1 _ _) rBB) (by decide))
  |4,_=>exact SeeAt.holdA (o:=oGet) (x:=aCode 211) (oGetE h) (aCodeE h 211) (kind_tf (by decide) (.inl rfl)) (by decide) (by decide) E1 (by decide) (hold0 (fit_of (get1 _ _) (rC (by decide))) (by decide))
noncomputable def JG:Nat→Jd
  |0=>⟨[M0],false,false,false,false⟩
  |1=>⟨[M0],false,true,false,false⟩
  |2=>⟨[M0,M1],true,true,false,false⟩
  |3=>⟨[M0,M1],false,false,false,false⟩
  |_=>⟨[M0],false,false,false,false⟩
def rG:Nat→Int:=fun _=>0
theorem seeG(m:h[b]? =some (.cells #[bv 97] 5))(k:Nat)(hk:k<4):SeeAt h ([oKind 12,oPut b,oKind 13,oGet].getD k op0) ([ar0,aCode 2,ar0,aCode 211].getD k ar0) (JG k) (JG (k+1)) (rG k):=by
  match k,hk with
  |0,_=>exact see0 _ rfl
  |1,_=>exact see1 m
  |2,_=>exact see2
  |3,_=>exact SeeAt.holdA (o:=oGet) (x:=aCode 211) (oGetE h) (aCodeE h 211) (kind_tf (by decide) (.inl rfl)) (by decide) (by decide) E01 (by decide) (hold10 (fit_of (get0 _ _) (rCC 211)) (fit_of (get1 _ _) (rC (by decide))) (by decide))
theorem ftsD:fts rD 2=[(1,2)]:=by decide
theorem ftsE:fts rE 1=[(0,1)]:=by decide
theorem ftsF:fts rF 5=[(4,1)]:=by decide
theorem ftsG:fts rG 4=[]:=by decide
end
theorem judge_is(h:Heap)(L:List OpR)(A:List AnR)(n:Nat)(la:Option Addr)(lc:Nat)(xa:Option Addr)(xc:Nat)(Jf:Nat→Jd)(r:Nat→Int)(hl:Row h (.slice la n lc) n 5 (oprow L))(hL:L.length =n)(ha:Row h (.slice xa n xc) n 75 (arow A))(hA:A.length =n)(kt:Ktab h)(hn:n≤1099511627)(hJ0:Jf 0=⟨[M0],false,false,false,false⟩)
    (see:∀k,k<n→SeeAt h (L.getD k op0) (A.getD k ar0) (Jf k) (Jf (k+1)) (r k)) (F:List (Int×Int)) (hF:fts r n=F):Sat Tryz.prog 10 #[.slice la n lc, .slice xa n xc] h fun v h'=>∃ad cap,v= .slice ad F.length cap∧Row h' (.slice ad F.length cap) F.length 2 (ftrow F)∧Ext h h':=by
  subst hF
  exact(judge_sat h L A n la lc xa xc Jf r hl hL ha hA kt hn hJ0 see).mono fun v h' ⟨ad,cap,e,o,g⟩=>⟨ad,cap,e,o.row,g⟩
theorem do_is(h:Heap)(mb mp:Nat)(M:Md)(m:Mod h mb mp M)(kd n:Int)(s:ByteArray)(l:List UInt8)(oa:Option Addr)(oc:Nat)(ka:Option Addr)(kn kc:Nat)(hr:Row h (.slice oa l.length oc) l.length 1 (l.map bv))(hsz:s.size ≤9223372036854775807)(kt:Ktab h)(hE:M.E.length ≤1099511627)(N:Md)(W:An)(hs:step M kd n s l=(N,W)):
    Sat Tryz.prog 17 #[.pointer (some ⟨mb,0,none⟩), .agg #[.int .i64 kd, .string s, .slice oa l.length oc, .int .i64 n, .slice ka kn kc]] h fun v h'=>∃qa qc ia ic pa pc,v=anv W (.slice qa W.b.length qc) (.slice ia W.i.length ic) (.slice pa W.p.length pc)∧RowE h' (.slice qa W.b.length qc) W.b.length 1 (W.b.map bv)∧RowE h' (.slice ia W.i.length ic) W.i.length 1 (W.i.map Value.string)∧RowE h' (.slice pa W.p.length pc) W.p.length 32 (hcs W.p)∧All32 W.p ∧Mod h' mb mp N∧MG mb mp h h':=by
  have:=do_w h mb mp M m kd n s l oa oc ka kn kc hr hsz kt hE W (by rw[hs])
  rw[hs] at this
  exact this
def kz(k:Nat):Int:=4+k
theorem op_load{P:Program}{h:Heap}{a:Addr}{L:List OpR}{n c k q:Nat}{x:OpR}(hx:L.getD k op0=x)(r:Row h (.slice (some a) n c) L.length 5 (oprow L)){T:TypeId}(ht:aggTy P T=some (true,5))(hk:k<L.length)(hq:q=k*5):
    Loads P h T (a.add q) (.agg #[.int .i64 x.kd, .string x.s, .slice x.oa x.l.length x.oc, .int .i64 x.n, .slice x.ka x.kn x.kc]):=by
  subst hx;exact Row.fm (d:=op0) opc_len r ht hk hq
theorem op_bytes{h:Heap}{a:Addr}{L:List OpR}{n c k:Nat}{x:OpR}(hx:L.getD k op0=x)(r:Row h (.slice (some a) n c) L.length 5 (oprow L))(hk:k<L.length):hcell h (a.add (k*5+2))=some (.slice x.oa x.l.length x.oc):=by
  subst hx;exact r.cells (k*5+2) _ (fm_get opc_len (d:=op0) (j:=2) hk rfl)
theorem now_M(h:Heap)(mb mp:Nat)(M:Md)(m:Mod h mb mp M):Sat Tryz.prog 20 #[.pointer (some ⟨mb,0,none⟩)] h fun v h'=>v= .int .i64 M.t ∧h'=h:=by
  obtain⟨L,ck,ea,ec,es,m⟩:=m
  exact now_a h mb mp M L ck ea ec es m
end Go.Proofs.YtegkejcglfgpmaaGreatDoor
end
section
namespace Go.Proofs.YtegkejcglfgpmaaGreatDoor
open Go Go.Lane Go.Sha
noncomputable def b9:Code:=Tryz.f9.body.getD .skip
set_option maxHeartbeats 1000000 in
set_option maxRecDepth 10000 in
theorem shown_sat(h:Heap)(kt:Ktab h):Sat Tryz.prog 9 #[] h fun v h'=>v= .bool true∧Ext h h':=by
 have e0:=Ext.refl h
 have h0s:=kt.lt
 have sep:Sep h.size h.size []:=Sep.nil _ _
 refine sat_in Tryz.func9 103 fun a hF=> ?_
 refine qP [] hF fun a hF=> ?_
 refine qS hF ?_
 refine tG 0 (new_m _ (by have:=e0.size;omega)) ?_
 rintro _ h4 ⟨mb,mp,rfl,hM,hb1,hp2,g⟩
 have hse:=e0.size
 replace e0:=e0.ext g
 replace kt:=kt.ext g
 replace sep:=sep.up g.size
 clear g
 have hk3:=hM.kb
 have sz1:h4.size ≤h4.size :=Nat.le_refl _
 refine sT [(1,pV mb)] fun a hF=> ?_
 refine cS ?_
 refine qP [(14,.bool false)] hF fun a hF=> ?_
 refine cF 14 hF ?_
 refine cN ?_
 refine tK ?_
 refine qS hF ?_
 refine tN 0 (.slice (some ⟨h4.size,0,none⟩) 1 1) #[.int .u8 97] 5 fun h5 g6 m7=> ?_
 have lt8:=blk_lt m7
 have zs9:=e0.size
 have zs10:=sz1
 replace sep:=sep.nw e0.size m7
 replace sz1:=Nat.le_trans sz1 g6.size
 refine tN 2 (pV h5.size) #[.int .i64 0,.string ByteArray.empty,.slice none 0 0,.int .i64 0,.slice none 0 0] 35 fun h11 g12 m13=> ?_
 have lt14:=blk_lt m13
 replace e0:=e0.ext g6
 have zs15:=e0.size
 have zs16:=sz1
 replace sep:=sep.nw e0.size m13
 replace sz1:=Nat.le_trans sz1 g12.size
 refine tV0 3 [.int .i64 1,.string (ByteArray.mk #[97]),.slice (some ⟨h4.size,0,none⟩) 1 1,.int .i64 0,.slice none 0 0] m13 fun h17 g18 zq=> ?_
 replace sz1:=Nat.le_trans sz1 g18.1
 replace hM:=(hM.ext g6).ext g12
 replace hM:=hM.put1 g18 m13 (by decide) (by omega)
 replace m13:=zq
 refine sT [(2,pV h5.size)] fun a hF=> ?_
 refine qS hF ?_
 refine tN 1 (pV h17.size) #[.int .i64 0,.string ByteArray.empty,.slice none 0 0,.int .i64 0,.slice none 0 0] 35 fun h19 g20 m21=> ?_
 have lt22:=blk_lt m21
 replace e0:=(e0.ext g12).grew g18 (sep.l 0)
 have zs23:=e0.size
 have zs24:=sz1
 replace sep:=(sep.up g18.size).nw e0.size m21
 replace sz1:=Nat.le_trans sz1 g20.size
 refine tV0 2 [.int .i64 2,.string (ByteArray.mk #[97]),.slice none 0 0,.int .i64 0,.slice none 0 0] m21 fun h25 g26 zq=> ?_
 replace sz1:=Nat.le_trans sz1 g26.1
 replace hM:=hM.ext g20
 replace hM:=hM.put1 g26 m21 (by decide) (by omega)
 replace m21:=zq
 refine sT [(3,pV h17.size)] fun a hF=> ?_
 refine qS hF ?_
 replace m13:=(m13.x g20).y g26 (sep.bp 1 0)
 refine tR 1 m13 ?_
 have lb33:=hM.kb
 replace kt:=((((kt.ext g6).ext g12).grew g18 (sep.zero 1 rfl h0s)).ext g20).grew g26 (sep.zero 0 rfl h0s)
 replace m7:=(((m7.x g12).y g18 (sep.bp 2 1)).x g20).y g26 (sep.bp 2 0)
 refine tG 2 (do_is _ mb mp M0 hM 1 0 sA [97] (some ⟨h4.size,0,none⟩) 1 none 0 0 (rowU m7).1 (by decide) kt (by decide) M1 an0 (put0 0)) ?_
 rintro _ h34 ⟨qa27,qc28,ia29,ic30,pa31,pc32,rfl,_,_,_,_,m2,gm⟩
 replace m7:=gm.blk m7 (by omega) (by omega)
 replace m13:=gm.blk m13 (by omega) (by omega)
 replace m21:=gm.blk m21 (by omega) (by omega)
 replace e0:=(e0.ext g20).grew g26 (sep.l 0)
 replace e0:=Gr.toExt e0 gm (by rintro i (e|e)<;>omega)
 replace kt:=kt.gr gm (by rintro(e|e)<;>omega)
 replace sep:=sep.up g26.size
 replace sep:=sep.up gm.1
 replace sz1:=Nat.le_trans sz1 gm.1
 clear hM;have hM:=m2;clear m2 gm
 refine tN 3 (pV h34.size) ((asc (0:Int) (.slice none 0 0) rb0 (0:Int) false false (.slice none 0 0) (0:Int) rb0 (0:Int) (.slice none 0 0)).toArray) 47 fun h35 g36 m37=> ?_
 have lt38:=blk_lt m37
 have zs39:=e0.size
 have zs40:=sz1
 replace sep:=sep.nw e0.size m37
 replace sz1:=Nat.le_trans sz1 g36.size
 refine tV0 4 (asc (0:Int) (.slice qa27 0 qc28) rb0 (0:Int) false false (.slice ia29 0 ic30) (0:Int) rb0 (0:Int) (.slice pa31 0 pc32)) m37 fun h41 g42 zq=> ?_
 replace sz1:=Nat.le_trans sz1 g42.1
 replace hM:=hM.ext g36
 replace hM:=hM.put1 g42 m37 (by decide) (by omega)
 replace m37:=zq
 refine sT [(4,pV h34.size)] fun a hF=> ?_
 refine qS hF ?_
 replace m21:=(m21.x g36).y g42 (sep.bp 1 0)
 refine tR 1 m21 ?_
 have lb49:=hM.kb
 replace kt:=(kt.ext g36).grew g42 (sep.zero 0 rfl h0s)
 refine tG 2 (do_is _ mb mp M1 hM 2 0 sA [] none 0 none 0 0 (Row.nil _ _) (by decide) kt (by rw[M1_E];decide) M1 (anB [97]) (get1 0 [])) ?_
 rintro _ h50 ⟨qa43,qc44,ia45,ic46,pa47,pc48,rfl,rb,_,_,_,m2,gm⟩
 replace m7:=(m7.x g36).y g42 (sep.bp 3 0)
 replace m7:=gm.blk m7 (by omega) (by omega)
 replace m13:=(m13.x g36).y g42 (sep.bp 2 0)
 replace m13:=gm.blk m13 (by omega) (by omega)
 replace m21:=gm.blk m21 (by omega) (by omega)
 replace m37:=gm.blk m37 (by omega) (by omega)
 replace e0:=(e0.ext g36).grew g42 (sep.l 0)
 replace e0:=Gr.toExt e0 gm (by rintro i (e|e)<;>omega)
 replace kt:=kt.gr gm (by rintro(e|e)<;>omega)
 replace sep:=sep.up g42.size
 replace sep:=sep.up gm.1
 replace sz1:=Nat.le_trans sz1 gm.1
 clear hM;have hM:=m2;clear m2 gm
 refine tN 3 (pV h50.size) ((asc (0:Int) (.slice none 0 0) rb0 (0:Int) false false (.slice none 0 0) (0:Int) rb0 (0:Int) (.slice none 0 0)).toArray) 47 fun h51 g52 m53=> ?_
 have lt54:=blk_lt m53
 have zs55:=e0.size
 have zs56:=sz1
 replace sep:=sep.nw e0.size m53
 replace sz1:=Nat.le_trans sz1 g52.size
 refine tV0 4 (asc (0:Int) (.slice qa43 1 qc44) rb0 (0:Int) false false (.slice ia45 0 ic46) (0:Int) rb0 (0:Int) (.slice pa47 0 pc48)) m53 fun h57 g58 zq=> ?_
 replace sz1:=Nat.le_trans sz1 g58.1
 replace hM:=hM.ext g52
 replace hM:=hM.put1 g58 m53 (by decide) (by omega)
 replace rb:=rb.ext g52
 replace rb:=rb.put1 g58 m53 (by decide)
 replace m53:=zq
 refine sT [(5,pV h50.size)] fun a hF=> ?_
 refine qS hF ?_
 replace m13:=(m13.x g52).y g58 (sep.bp 3 0)
 refine tR 1 m13 ?_
 have lb65:=hM.kb
 replace kt:=(kt.ext g52).grew g58 (sep.zero 0 rfl h0s)
 replace m7:=(m7.x g52).y g58 (sep.bp 4 0)
 refine tG 2 (do_is _ mb mp M1 hM 1 0 sA [97] (some ⟨h4.size,0,none⟩) 1 none 0 0 (rowU m7).1 (by decide) kt (by rw[M1_E];decide) M1 (anC 212) (put1 0)) ?_
 rintro _ h66 ⟨qa59,qc60,ia61,ic62,pa63,pc64,rfl,_,_,_,_,m2,gm⟩
 replace m7:=gm.blk m7 (by omega) (by omega)
 replace m13:=gm.blk m13 (by omega) (by omega)
 replace m21:=(m21.x g52).y g58 (sep.bp 2 0)
 replace m21:=gm.blk m21 (by omega) (by omega)
 replace m37:=(m37.x g52).y g58 (sep.bp 1 0)
 replace m37:=gm.blk m37 (by omega) (by omega)
 replace m53:=gm.blk m53 (by omega) (by omega)
 replace rb:=rb.mgM gm hM
 replace e0:=(e0.ext g52).grew g58 (sep.l 0)
 replace e0:=Gr.toExt e0 gm (by rintro i (e|e)<;>omega)
 replace kt:=kt.gr gm (by rintro(e|e)<;>omega)
 replace sep:=sep.up g58.size
 replace sep:=sep.up gm.1
 replace sz1:=Nat.le_trans sz1 gm.1
 clear hM;have hM:=m2;clear m2 gm
 refine tN 3 (pV h66.size) ((asc (0:Int) (.slice none 0 0) rb0 (0:Int) false false (.slice none 0 0) (0:Int) rb0 (0:Int) (.slice none 0 0)).toArray) 47 fun h67 g68 m69=> ?_
 have lt70:=blk_lt m69
 have zs71:=e0.size
 have zs72:=sz1
 replace sep:=sep.nw e0.size m69
 replace sz1:=Nat.le_trans sz1 g68.size
 refine tV0 4 (asc (212:Int) (.slice qa59 0 qc60) rb0 (0:Int) false false (.slice ia61 0 ic62) (0:Int) rb0 (0:Int) (.slice pa63 0 pc64)) m69 fun h73 g74 zq=> ?_
 replace sz1:=Nat.le_trans sz1 g74.1
 replace hM:=hM.ext g68
 replace hM:=hM.put1 g74 m69 (by decide) (by omega)
 replace rb:=rb.ext g68
 replace rb:=rb.put1 g74 m69 (by decide)
 replace m69:=zq
 refine sT [(6,pV h66.size)] fun a hF=> ?_
 refine qS hF ?_
 replace m13:=(m13.x g68).y g74 (sep.bp 4 0)
 refine tR 0 m13 ?_
 replace m21:=(m21.x g68).y g74 (sep.bp 3 0)
 refine tR 1 m21 ?_
 refine tN 2 (.slice (some ⟨h73.size,0,none⟩) 2 2) #[.int .i64 1,.string (ByteArray.mk #[97]),.slice (some ⟨h4.size,0,none⟩) 1 1,.int .i64 0,.slice none 0 0,.int .i64 2,.string (ByteArray.mk #[97]),.slice none 0 0,.int .i64 0,.slice none 0 0] 35 fun h75 g76 m77=> ?_
 have lt78:=blk_lt m77
 replace e0:=(e0.ext g68).grew g74 (sep.l 0)
 have zs79:=e0.size
 have zs80:=sz1
 replace sep:=(sep.up g74.size).nw e0.size m77
 replace sz1:=Nat.le_trans sz1 g76.size
 refine tN 4 (.slice (some ⟨h75.size,0,none⟩) 1 1) #[.int .u8 98] 5 fun h81 g82 m83=> ?_
 have lt84:=blk_lt m83
 replace e0:=e0.ext g76
 have zs85:=e0.size
 have zs86:=sz1
 replace sep:=sep.nw e0.size m83
 replace sz1:=Nat.le_trans sz1 g82.size
 refine tN 6 (.slice (some ⟨h81.size,0,none⟩) 2 2) ((arow [ar0,aByte 98 h75.size]).toArray) 47 fun h87 g88 m89=> ?_
 have lt90:=blk_lt m89
 replace e0:=e0.ext g82
 have zs91:=e0.size
 have zs92:=sz1
 replace sep:=sep.nw e0.size m89
 replace sz1:=Nat.le_trans sz1 g88.size
 replace kt:=((((kt.ext g68).grew g74 (sep.zero 3 rfl h0s)).ext g76).ext g82).ext g88
 replace m7:=((((m7.x g68).y g74 (sep.bp 8 3)).x g76).x g82).x g88
 replace m77:=(m77.x g82).x g88
 replace m83:=m83.x g88
 refine tG 7 (judge_is _ [oPut h4.size,oGet] [ar0,aByte 98 h75.size] 2 _ _ _ _ JD rD (Row.blk (n:=2) (sz:=5) (l:=oprow [oPut h4.size,oGet]) m77 rfl) rfl (Row.blk (n:=2) (sz:=75) (l:=arow [ar0,aByte 98 h75.size]) m89 rfl) rfl kt (by decide) rfl (seeD m7 m83) [(1,2)] ftsD) ?_
 rintro _ h95 ⟨ad93,cap94,rfl,rd0,g⟩
 replace m37:=((((m37.x g68).y g74 (sep.bp 5 3)).x g76).x g82).x g88
 replace m53:=((((m53.x g68).y g74 (sep.bp 4 3)).x g76).x g82).x g88
 replace hM:=((hM.ext g76).ext g82).ext g88
 replace rb:=((rb.ext g76).ext g82).ext g88
 replace m13:=((m13.x g76).x g82).x g88
 replace m21:=((m21.x g76).x g82).x g88
 replace m69:=((m69.x g76).x g82).x g88
 replace e0:=e0.ext g88
 replace e0:=e0.ext g
 replace kt:=kt.ext g
 replace sz1:=Nat.le_trans sz1 g.size
 replace hM:=hM.ext g
 replace rb:=rb.ext g
 replace m7:=m7.x g
 replace m13:=m13.x g
 replace m21:=m21.x g
 replace m37:=m37.x g
 replace m53:=m53.x g
 replace m69:=m69.x g
 replace m77:=m77.x g
 replace m83:=m83.x g
 replace m89:=m89.x g
 replace sep:=sep.up g.size
 clear g
 clear m77 lt78 zs79 zs80
 clear m83 lt84 zs85 zs86
 clear m89 lt90 zs91 zs92
 clear hM
 refine sT [(7,.slice ad93 1 cap94)] fun a hF=> ?_
 refine qS hF ?_
 refine tR 0 m21 ?_
 refine tN 1 (.slice (some ⟨h95.size,0,none⟩) 1 1) #[.int .i64 2,.string (ByteArray.mk #[97]),.slice none 0 0,.int .i64 0,.slice none 0 0] 35 fun h96 g97 m98=> ?_
 have lt99:=blk_lt m98
 have zs100:=e0.size
 have zs101:=sz1
 replace sep:=sep.nw e0.size m98
 replace sz1:=Nat.le_trans sz1 g97.size
 refine tN 3 (.slice (some ⟨h96.size,0,none⟩) 1 1) ((arow [aCode 2]).toArray) 47 fun h102 g103 m104=> ?_
 have lt105:=blk_lt m104
 replace e0:=e0.ext g97
 have zs106:=e0.size
 have zs107:=sz1
 replace sep:=sep.nw e0.size m104
 replace sz1:=Nat.le_trans sz1 g103.size
 replace kt:=(kt.ext g97).ext g103
 replace m98:=m98.x g103
 refine tG 4 (judge_is _ [oGet] [aCode 2] 1 _ _ _ _ JE rE (Row.blk (n:=1) (sz:=5) (l:=oprow [oGet]) m98 rfl) rfl (Row.blk (n:=1) (sz:=75) (l:=arow [aCode 2]) m104 rfl) rfl kt (by decide) rfl (seeE _) [(0,1)] ftsE) ?_
 rintro _ h110 ⟨ad108,cap109,rfl,rd1,g⟩
 replace rb:=(rb.ext g97).ext g103
 replace rd0:=(rd0.ext g97).ext g103
 replace m7:=(m7.x g97).x g103
 replace m13:=(m13.x g97).x g103
 replace m21:=(m21.x g97).x g103
 replace m37:=(m37.x g97).x g103
 replace m53:=(m53.x g97).x g103
 replace m69:=(m69.x g97).x g103
 replace e0:=e0.ext g103
 replace e0:=e0.ext g
 replace kt:=kt.ext g
 replace sz1:=Nat.le_trans sz1 g.size
 replace rb:=rb.ext g
 replace rd0:=rd0.ext g
 replace m7:=m7.x g
 replace m13:=m13.x g
 replace m21:=m21.x g
 replace m37:=m37.x g
 replace m53:=m53.x g
 replace m69:=m69.x g
 replace m98:=m98.x g
 replace m104:=m104.x g
 replace sep:=sep.up g.size
 clear g
 clear m98 lt99 zs100 zs101
 clear m104 lt105 zs106 zs107
 refine sT [(8,.slice ad108 1 cap109)] fun a hF=> ?_
 refine qS hF ?_
 refine tR 1 m13 ?_
 refine tR 3 m21 ?_
 refine tR 4 m21 ?_
 refine tN 5 (.slice (some ⟨h110.size,0,none⟩) 5 5) #[.int .i64 12,.string ByteArray.empty,.slice none 0 0,.int .i64 0,.slice none 0 0,.int .i64 1,.string (ByteArray.mk #[97]),.slice (some ⟨h4.size,0,none⟩) 1 1,.int .i64 0,.slice none 0 0,.int .i64 13,.string ByteArray.empty,.slice none 0 0,.int .i64 0,.slice none 0 0,.int .i64 2,.string (ByteArray.mk #[97]),.slice none 0 0,.int .i64 0,.slice none 0 0,.int .i64 2,.string (ByteArray.mk #[97]),.slice none 0 0,.int .i64 0,.slice none 0 0] 35 fun h111 g112 m113=> ?_
 have lt114:=blk_lt m113
 have zs115:=e0.size
 have zs116:=sz1
 replace sep:=sep.nw e0.size m113
 replace sz1:=Nat.le_trans sz1 g112.size
 refine tN 9 (.slice (some ⟨h111.size,0,none⟩) 1 1) #[.int .u8 97] 5 fun h117 g118 m119=> ?_
 have lt120:=blk_lt m119
 replace e0:=e0.ext g112
 have zs121:=e0.size
 have zs122:=sz1
 replace sep:=sep.nw e0.size m119
 replace sz1:=Nat.le_trans sz1 g118.size
 refine tN 12 (.slice (some ⟨h117.size,0,none⟩) 5 5) ((arow [ar0,aCode 2,ar0,aByte 97 h111.size,aCode 211]).toArray) 47 fun h123 g124 m125=> ?_
 have lt126:=blk_lt m125
 replace e0:=e0.ext g118
 have zs127:=e0.size
 have zs128:=sz1
 replace sep:=sep.nw e0.size m125
 replace sz1:=Nat.le_trans sz1 g124.size
 replace kt:=((kt.ext g112).ext g118).ext g124
 replace m7:=((m7.x g112).x g118).x g124
 replace m113:=(m113.x g118).x g124
 replace m119:=m119.x g124
 refine tG 13 (judge_is _ [oKind 12,oPut h4.size,oKind 13,oGet,oGet] [ar0,aCode 2,ar0,aByte 97 h111.size,aCode 211] 5 _ _ _ _ JF4 rF (Row.blk (n:=5) (sz:=5) (l:=oprow [oKind 12,oPut h4.size,oKind 13,oGet,oGet]) m113 rfl) rfl (Row.blk (n:=5) (sz:=75) (l:=arow [ar0,aCode 2,ar0,aByte 97 h111.size,aCode 211]) m125 rfl) rfl kt (by decide) rfl (seeF m7 m119) [(4,1)] ftsF) ?_
 rintro _ h131 ⟨ad129,cap130,rfl,rd2,g⟩
 replace rb:=((rb.ext g112).ext g118).ext g124
 replace rd0:=((rd0.ext g112).ext g118).ext g124
 replace rd1:=((rd1.ext g112).ext g118).ext g124
 replace m13:=((m13.x g112).x g118).x g124
 replace m21:=((m21.x g112).x g118).x g124
 replace m37:=((m37.x g112).x g118).x g124
 replace m53:=((m53.x g112).x g118).x g124
 replace m69:=((m69.x g112).x g118).x g124
 replace e0:=e0.ext g124
 replace e0:=e0.ext g
 replace kt:=kt.ext g
 replace sz1:=Nat.le_trans sz1 g.size
 replace rb:=rb.ext g
 replace rd0:=rd0.ext g
 replace rd1:=rd1.ext g
 replace m7:=m7.x g
 replace m13:=m13.x g
 replace m21:=m21.x g
 replace m37:=m37.x g
 replace m53:=m53.x g
 replace m69:=m69.x g
 replace m113:=m113.x g
 replace m119:=m119.x g
 replace m125:=m125.x g
 replace sep:=sep.up g.size
 clear g
 clear m113 lt114 zs115 zs116
 clear m119 lt120 zs121 zs122
 clear m125 lt126 zs127 zs128
 refine sT [(9,.slice ad129 1 cap130)] fun a hF=> ?_
 refine qS hF ?_
 refine tR 1 m13 ?_
 refine tR 3 m21 ?_
 refine tN 4 (.slice (some ⟨h131.size,0,none⟩) 4 4) #[.int .i64 12,.string ByteArray.empty,.slice none 0 0,.int .i64 0,.slice none 0 0,.int .i64 1,.string (ByteArray.mk #[97]),.slice (some ⟨h4.size,0,none⟩) 1 1,.int .i64 0,.slice none 0 0,.int .i64 13,.string ByteArray.empty,.slice none 0 0,.int .i64 0,.slice none 0 0,.int .i64 2,.string (ByteArray.mk #[97]),.slice none 0 0,.int .i64 0,.slice none 0 0] 35 fun h132 g133 m134=> ?_
 have lt135:=blk_lt m134
 have zs136:=e0.size
 have zs137:=sz1
 replace sep:=sep.nw e0.size m134
 replace sz1:=Nat.le_trans sz1 g133.size
 refine tN 9 (.slice (some ⟨h132.size,0,none⟩) 4 4) ((arow [ar0,aCode 2,ar0,aCode 211]).toArray) 47 fun h138 g139 m140=> ?_
 have lt141:=blk_lt m140
 replace e0:=e0.ext g133
 have zs142:=e0.size
 have zs143:=sz1
 replace sep:=sep.nw e0.size m140
 replace sz1:=Nat.le_trans sz1 g139.size
 replace kt:=(kt.ext g133).ext g139
 replace m7:=(m7.x g133).x g139
 replace m134:=m134.x g139
 refine tG 10 (judge_is _ [oKind 12,oPut h4.size,oKind 13,oGet] [ar0,aCode 2,ar0,aCode 211] 4 _ _ _ _ JG rG (Row.blk (n:=4) (sz:=5) (l:=oprow [oKind 12,oPut h4.size,oKind 13,oGet]) m134 rfl) rfl (Row.blk (n:=4) (sz:=75) (l:=arow [ar0,aCode 2,ar0,aCode 211]) m140 rfl) rfl kt (by decide) rfl (seeG m7) [] ftsG) ?_
 rintro _ h146 ⟨ad144,cap145,rfl,rd3,g⟩
 replace rb:=(rb.ext g133).ext g139
 replace rd0:=(rd0.ext g133).ext g139
 replace rd1:=(rd1.ext g133).ext g139
 replace rd2:=(rd2.ext g133).ext g139
 replace m13:=(m13.x g133).x g139
 replace m21:=(m21.x g133).x g139
 replace m37:=(m37.x g133).x g139
 replace m53:=(m53.x g133).x g139
 replace m69:=(m69.x g133).x g139
 replace e0:=e0.ext g139
 replace e0:=e0.ext g
 replace kt:=kt.ext g
 replace sz1:=Nat.le_trans sz1 g.size
 replace rb:=rb.ext g
 replace rd0:=rd0.ext g
 replace rd1:=rd1.ext g
 replace rd2:=rd2.ext g
 replace m7:=m7.x g
 replace m13:=m13.x g
 replace m21:=m21.x g
 replace m37:=m37.x g
 replace m53:=m53.x g
 replace m69:=m69.x g
 replace m134:=m134.x g
 replace m140:=m140.x g
 replace sep:=sep.up g.size
 clear g
 clear m134 lt135 zs136 zs137
 clear m140 lt141 zs142 zs143
 refine sT [(10,.slice ad144 0 cap145)] fun a hF=> ?_
 refine qS hF ?_
 refine tO 1 0 m37 ?_
 refine tO 5 1 m53 ?_
 refine tC 6 (.string (ByteArray.mk #[97])) (Calm.str (l:=[97]) (by kernel_rfl) rb.1) ?_
 refine t1 7 (.bool true) (.bool ((ByteArray.mk #[97]).toList ==(ByteArray.mk #[97]).toList)) (congrArg Value.bool (by simp)) ?_
 refine tO 11 0 m69 ?_
 refine sT [(11,.bool true)] fun a hF=> ?_
 refine qS hF ?_
 refine tN 4 (.slice (some ⟨h146.size,0,none⟩) 1 1) #[.int .i64 1,.int .i64 2] 52 fun h147 g148 m149=> ?_
 have lt150:=blk_lt m149
 have zs151:=e0.size
 have zs152:=sz1
 replace sep:=sep.nw e0.size m149
 replace sz1:=Nat.le_trans sz1 g148.size
 replace rd0:=rd0.ext g148
 refine tC 5 (.bool true) (Does.call (f:=14) (args:= #[.slice ad93 1 cap94,.slice (some ⟨h146.size,0,none⟩) 1 1]) (by kernel_rfl) (samef_one _ (1,2) _ _ _ _ rd0 (Row.blk (n:=1) (sz:=2) (l:=ftrow [(1,2)]) m149 rfl))) ?_
 refine tN 10 (.slice (some ⟨h147.size,0,none⟩) 1 1) #[.int .i64 0,.int .i64 1] 52 fun h153 g154 m155=> ?_
 have lt156:=blk_lt m155
 replace e0:=e0.ext g148
 have zs157:=e0.size
 have zs158:=sz1
 replace sep:=sep.nw e0.size m155
 replace sz1:=Nat.le_trans sz1 g154.size
 replace rd1:=(rd1.ext g148).ext g154
 refine tC 11 (.bool true) (Does.call (f:=14) (args:= #[.slice ad108 1 cap109,.slice (some ⟨h147.size,0,none⟩) 1 1]) (by kernel_rfl) (samef_one _ (0,1) _ _ _ _ rd1 (Row.blk (n:=1) (sz:=2) (l:=ftrow [(0,1)]) m155 rfl))) ?_
 refine tN 16 (.slice (some ⟨h153.size,0,none⟩) 1 1) #[.int .i64 4,.int .i64 1] 52 fun h159 g160 m161=> ?_
 have lt162:=blk_lt m161
 replace e0:=e0.ext g154
 have zs163:=e0.size
 have zs164:=sz1
 replace sep:=sep.nw e0.size m161
 replace sz1:=Nat.le_trans sz1 g160.size
 replace rd2:=((rd2.ext g148).ext g154).ext g160
 refine tC 17 (.bool true) (Does.call (f:=14) (args:= #[.slice ad129 1 cap130,.slice (some ⟨h153.size,0,none⟩) 1 1]) (by kernel_rfl) (samef_one _ (4,1) _ _ _ _ rd2 (Row.blk (n:=1) (sz:=2) (l:=ftrow [(4,1)]) m161 rfl))) ?_
 refine sT [(0,.bool true)] fun a hF=> ?_
 refine cR ?_
 refine rT 0 (.bool true) hF ?_
 replace e0:=e0.ext g160
 exact⟨rfl,e0⟩
end Go.Proofs.YtegkejcglfgpmaaGreatDoor
end
section
namespace Go.Proofs.YtegkejcglfgpmaaGreatDoor
open Go Go.Lane Go.Sha
noncomputable def b16:Code:=Tryz.f16.body.getD .skip
theorem rnew_m(h:Heap)(hk0:0<h.size):Sat Tryz.prog 16 #[] h fun v h'=>∃b,v= .pointer (some ⟨b,0,none⟩)∧RModW (fun _=>False) h' b ⟨fun _=>none,[],0⟩∧h.size ≤b∧Ext h h':=by
 have e0:=Ext.refl h
 have sep:Sep h.size h.size []:=Sep.nil _ _
 refine sat_in Tryz.func16 3 fun a hF=> ?_
 refine qP [] hF fun a hF=> ?_
 refine qS hF ?_
 refine tN 1 (pV h.size) #[.slice none 0 0,.slice none 0 0,.int .i64 0] 86 fun h1 g2 m3=> ?_
 have lt4:=blk_lt m3
 have zs5:=e0.size
 replace sep:=sep.nw e0.size m3
 refine sT [(0,pV h.size)] fun a hF=> ?_
 refine cR ?_
 refine rT 0 (pV h.size) hF ?_
 replace e0:=e0.ext g2
 exact⟨_,rfl,RModA.new m3 hk0,Nat.le_refl _,e0⟩
noncomputable def b21:Code:=Tryz.f21.body.getD .skip
theorem rnow_a {W:Nat→Prop}(h:Heap)(rb:Nat)(M:Md)(T:List RO)(oa:Option Addr)(oc:Nat)(ea:Option Addr)(ec:Nat)(es:List Value)(md:RModA W h rb M T oa oc ea ec es):Sat Tryz.prog 21 #[.pointer (some ⟨rb,0,none⟩)] h fun v h'=>v= .int .i64 M.t ∧h'=h:=by
 refine sat_in Tryz.func21 7 fun a hF=> ?_
 refine qP [] hF fun a hF=> ?_
 refine qS hF ?_
 refine tO 3 2 (md.hm) ?_
 refine sT [(2,.int .i64 M.t)] fun a hF=> ?_
 refine cR ?_
 refine rT 2 (.int .i64 M.t) hF ?_
 exact⟨rfl,rfl⟩
noncomputable def b46:Code:=Tryz.f46.body.getD .skip
theorem rstat_sat(h:Heap)(x:RB)(e:Int)(ho go:Bool)(c:Value):Sat Tryz.prog 46 #[.agg (rc x e ho go (c)).toArray] h fun v h'=>v= .agg (stc x e ho go).toArray ∧Ext h h':=by
 have e0:=Ext.refl h
 have sep:Sep h.size h.size []:=Sep.nil _ _
 refine sat_in Tryz.func46 16 fun a hF=> ?_
 refine qS hF ?_
 refine tN 0 (pV h.size) ((rc x e ho go (c)).toArray) 95 fun h1 g2 m3=> ?_
 replace sep:=sep.nw e0.size m3
 refine tN 1 (pV h1.size) ((stc rb0 (0:Int) false false).toArray) 41 fun h4 g5 m6=> ?_
 replace e0:=e0.ext g2
 replace sep:=sep.nw e0.size m6
 refine sT [(1,pV h.size),(2,pV h1.size)] fun a hF=> ?_
 refine qS hF ?_
 replace m3:=m3.x g5
 refine tO 1 1 m3 ?_
 refine tQ 3 2 ((hl x).map bv) m3 ?_
 refine tO 5 34 m3 ?_
 refine tO 7 35 m3 ?_
 refine tO 9 36 m3 ?_
 refine tO 11 37 m3 ?_
 refine tV0 13 (stc x e ho go) m6 fun h7 g8 zq=> ?_
 replace m6:=zq
 refine sT [] fun a hF=> ?_
 refine cR ?_
 refine rB m6 hF ?_
 replace e0:=(e0.ext g5).grew g8 (sep.l 0)
 exact⟨rfl,e0⟩
noncomputable def b78:Code:=Tryz.f78.body.getD .skip
theorem rat_sat {W:Nat→Prop}(h:Heap)(rb:Nat)(M:Md)(T:List RO)(oa:Option Addr)(oc:Nat)(ea:Option Addr)(ec:Nat)(es:List Value)(md:RModA W h rb M T oa oc ea ec es)(s:ByteArray)(k:Nat)(r:Bool)(hat:AtP T s k r)(hE:M.E.length ≤1099511627):Sat Tryz.prog 78 #[.pointer (some ⟨rb,0,none⟩),.string s] h fun v h'=>v= .tuple #[.int .i64 ((k:Nat):Int),.bool r]∧h'=h:=by
 have hm:=md.hm
 have hbr:=blk_lt hm
 have hLn:=md.ln
 refine sat_in Tryz.func78 50 fun a hF=> ?_
 refine qP [] hF fun a hF=> ?_
 refine qP [(6,.int .i64 0)] hF fun a hF=> ?_
 refine cS ?_
 refine cB 0 ?_
 refine cL (fun m a h'=>∃i:Nat,m=k - i∧(h=h')∧(i≤k)∧(Fr a 50 [(0,.pointer (some ⟨rb,0,none⟩)),(1,.string s),(6,.int .i64 ((i:Nat):Int))])) (k - 0) ⟨0,rfl,rfl,(Nat.zero_le _),hF.to⟩ ?_
 clear hF a
 rintro m a h1 ⟨i,rfl,hh,hi,hF⟩
 subst hh
 refine cS ?_
 refine cS ?_
 rcases hat.step hi with⟨hik,hiT,x,hx,hxl⟩|⟨hik,hiT,hr⟩|⟨hik,hiT,x,hx,hxl,hr⟩
 ·skip
  have hFn:=hF
  obtain⟨ao,rfl,hcap_ao⟩:=md.row.1.someA (by omega)
  have hF:=hFn;clear hFn
  refine rS hF ?_
  refine tO 4 0 (md.hm) ?_
  refine tT 6 (((i:Nat):Int)<((T.length :Nat):Int)) ?_
  refine tO 11 0 (md.hm) ?_
  refine tI 13 ao T.length 40 i (i*40) ?_
  refine t1 14 (.pointer (some (Addr.add ao (i*40)))) (.pointer (some ((Addr.add ao (i*40)).add 0))) (by rw[add_add,Nat.add_zero]) ?_
  refine t1 15 (.pointer (some (Addr.add ao (i*40)))) (.pointer (some ((Addr.add ao (i*40)).add 0))) (by rw[add_add,Nat.add_zero]) ?_
  refine tC 16 (.string x.o.b.id) (Calm.load (T:=9) (p:=(Addr.add ao (i*40))) (by kernel_rfl) (Loads.one (k:=1) (by kernel_rfl) (Row.roid (md.row.1) hx))) ?_
  refine t1 18 (.bool true) (.bool (Op.bytesLess x.o.b.id.toList s.toList)) (congrArg Value.bool (str_lt hxl)) ?_
  refine sE [(26,.bool true)] fun a hF=> ?_
  refine tK ?_
  refine cT 26 hF ?_
  refine cN ?_
  refine tK ?_
  refine cB 1 ?_
  refine rS hF ?_
  refine tA 1 i 1 ?_
  refine sE [(6,nV (i+1))] fun a hF=> ?_
  refine bK ?_
  show ∃m',m'<_∧_
  refine⟨_,?_,(i+1),rfl,rfl,(by omega),hF.to⟩
  omega
 ·skip
  refine rS hF ?_
  refine tO 4 0 (md.hm) ?_
  refine tX 6 (((i:Nat):Int)<((T.length :Nat):Int)) ?_
  refine sE [(26,.bool false)] fun a hF=> ?_
  refine tK ?_
  refine cF 26 hF ?_
  refine cX 0 (xT (xT (xB ?_)))
  refine tK ?_
  refine cS ?_
  refine cD [0,0,0,4,12,28,60,126,254,510,1022,2046,4094,510,16382,32766,65534,131070,510,524286,1048574,511,4194303] 4 mixed hF ?_
  refine mP 31 [0,1,2,3,4] [nV i,nV i,pV rb,pV rb,pV rb] ?_
  refine mO 63 32 5 0 (.slice oa T.length oc) (md.hm) ?_
  refine mP 127 [6] [nV T.length] ?_
  refine mX1 255 7 (((i:Nat):Int)<((T.length :Nat):Int)) ?_
  refine mP 8388607 [8,9,10,11,12,13,14,15,16,17,18,19,20,21,22] [.bool false,undef,undef,undef,undef,undef,undef,undef,undef,undef,undef,undef,.bool false,nV i,.bool false] ?_
  refine mE [(4,nV i),(5,.bool false)] fun a hF=> ?_
  refine tK ?_
  refine cR ?_
  refine ret_ok [.tmp 4,.tmp 5] [.int .i64 ((i:Nat):Int),.bool false] (.tuple #[.int .i64 ((i:Nat):Int),.bool false]) rfl hF ⟨rfl,rfl,trivial⟩ rfl ?_
  subst hik
  exact⟨by rw[hr],rfl⟩
 ·skip
  have hFn:=hF
  obtain⟨ao,rfl,hcap_ao⟩:=md.row.1.someA (by omega)
  have hF:=hFn;clear hFn
  refine rS hF ?_
  refine tO 4 0 (md.hm) ?_
  refine tT 6 (((i:Nat):Int)<((T.length :Nat):Int)) ?_
  refine tO 11 0 (md.hm) ?_
  refine tI 13 ao T.length 40 i (i*40) ?_
  refine t1 14 (.pointer (some (Addr.add ao (i*40)))) (.pointer (some ((Addr.add ao (i*40)).add 0))) (by rw[add_add,Nat.add_zero]) ?_
  refine t1 15 (.pointer (some (Addr.add ao (i*40)))) (.pointer (some ((Addr.add ao (i*40)).add 0))) (by rw[add_add,Nat.add_zero]) ?_
  refine tC 16 (.string x.o.b.id) (Calm.load (T:=9) (p:=(Addr.add ao (i*40))) (by kernel_rfl) (Loads.one (k:=1) (by kernel_rfl) (Row.roid (md.row.1) hx))) ?_
  refine t1 18 (.bool false) (.bool (Op.bytesLess x.o.b.id.toList s.toList)) (congrArg Value.bool (str_nlt hxl)) ?_
  refine sE [(26,.bool false)] fun a hF=> ?_
  refine tK ?_
  refine cF 26 hF ?_
  refine cX 0 (xT (xT (xB ?_)))
  refine tK ?_
  refine cS ?_
  refine cD [0,0,0,4,12,28,60,126,254,510,1022,2046,4094,510,16382,32766,65534,131070,510,524286,1048574,511,4194303] 4 mixed hF ?_
  refine mP 31 [0,1,2,3,4] [nV i,nV i,pV rb,pV rb,pV rb] ?_
  refine mO 63 32 5 0 (.slice (some ao) T.length oc) (md.hm) ?_
  refine mP 127 [6] [nV T.length] ?_
  refine mT1 255 7 (((i:Nat):Int)<((T.length :Nat):Int)) ?_
  refine mP 4095 [8,9,10,11] [.bool true,pV rb,pV rb,pV rb] ?_
  refine mO 8191 4128 12 0 (.slice (some ao) T.length oc) (md.hm) ?_
  refine mP 16383 [13] [nV i] ?_
  refine mI 32767 14 ao T.length 40 i (i*40) ?_
  refine m1 65535 15 (.pointer (some (Addr.add ao (i*40)))) (.pointer (some ((Addr.add ao (i*40)).add 0))) (by rw[add_add,Nat.add_zero]) ?_
  refine m1 131071 16 (.pointer (some (Addr.add ao (i*40)))) (.pointer (some ((Addr.add ao (i*40)).add 0))) (by rw[add_add,Nat.add_zero]) ?_
  refine mL 262143 135200 17 (.string x.o.b.id) (Calm.load (T:=9) (p:=(Addr.add ao (i*40))) (by kernel_rfl) (Loads.one (k:=1) (by kernel_rfl) (Row.roid (md.row.1) hx))) ?_
  refine mP 524287 [18] [.string s] ?_
  refine m1 1048575 19 (.bool r) (.bool (x.o.b.id.toList ==s.toList)) (congrArg Value.bool ((str_beq _ _).trans hr)) ?_
  refine mP 8388607 [20,21,22] [.bool r,nV i,.bool r] ?_
  refine mE [(4,nV i),(5,.bool r)] fun a hF=> ?_
  refine tK ?_
  refine cR ?_
  refine ret_ok [.tmp 4,.tmp 5] [.int .i64 ((i:Nat):Int),.bool r] (.tuple #[.int .i64 ((i:Nat):Int),.bool r]) rfl hF ⟨rfl,rfl,trivial⟩ rfl ?_
  subst hik
  exact⟨rfl,rfl⟩
noncomputable def b80:Code:=Tryz.f80.body.getD .skip
theorem rfind_sat {W:Nat→Prop}(h:Heap)(rb:Nat)(M:Md)(T:List RO)(oa:Option Addr)(oc:Nat)(ea:Option Addr)(ec:Nat)(es:List Value)(md:RModA W h rb M T oa oc ea ec es)(s:ByteArray)(hsz:s.size ≤9223372036854775807)(q:Nat)(e:Int)(hq:RFd T s q e)(hE:M.E.length ≤1099511627):Sat Tryz.prog 80 #[.pointer (some ⟨rb,0,none⟩),.string s] h fun v h'=>v= .tuple #[.int .i64 ((q:Nat):Int),.int .i64 e]∧h'=h:=by
 refine sat_in Tryz.func80 20 fun a hF=> ?_
 refine qP [] hF fun a hF=> ?_
 refine cS ?_
 refine cS ?_
 rcases hq with⟨hok,rfl,rfl⟩|⟨hok,⟨k,hat⟩,rfl,rfl⟩|⟨hok,hat,rfl⟩
 ·skip
  refine rS hF ?_
  refine tC 1 (.bool false) (Does.call (f:=27) (args:= #[.string s]) (by kernel_rfl) (rname_no _ s hsz hok)) ?_
  refine sE [(10,.bool true)] fun a hF=> ?_
  refine tK ?_
  refine cT 10 hF ?_
  refine qP [(4,.int .i64 0),(5,.int .i64 210)] hF fun a hF=> ?_
  refine cR (yT ?_)
  refine ret_ok [.tmp 4,.tmp 5] [.int .i64 0,.int .i64 210] (.tuple #[.int .i64 0,.int .i64 210]) rfl hF ⟨rfl,rfl,trivial⟩ rfl ?_
  exact⟨rfl,rfl⟩
 ·skip
  refine rS hF ?_
  refine tC 1 (.bool true) (Does.call (f:=27) (args:= #[.string s]) (by kernel_rfl) (rname_yes _ s hok)) ?_
  refine sE [(10,.bool false)] fun a hF=> ?_
  refine tK ?_
  refine cF 10 hF ?_
  refine cN ?_
  refine tK ?_
  refine qS hF ?_
  refine tC 2 (.tuple #[nV k,.bool false]) (Does.call (f:=78) (args:= #[pV rb,.string s]) (by kernel_rfl) (rat_sat _ rb M T oa oc ea ec es md s k false hat hE)) ?_
  refine sT [(6,nV k),(7,.bool false)] fun a hF=> ?_
  refine cS ?_
  refine qP [(18,.bool true)] hF fun a hF=> ?_
  refine cT 18 hF ?_
  refine qP [(4,.int .i64 0),(5,.int .i64 211)] hF fun a hF=> ?_
  refine cR (yT ?_)
  refine ret_ok [.tmp 4,.tmp 5] [.int .i64 0,.int .i64 211] (.tuple #[.int .i64 0,.int .i64 211]) rfl hF ⟨rfl,rfl,trivial⟩ rfl ?_
  exact⟨rfl,rfl⟩
 ·skip
  refine rS hF ?_
  refine tC 1 (.bool true) (Does.call (f:=27) (args:= #[.string s]) (by kernel_rfl) (rname_yes _ s hok)) ?_
  refine sE [(10,.bool false)] fun a hF=> ?_
  refine tK ?_
  refine cF 10 hF ?_
  refine cN ?_
  refine tK ?_
  refine qS hF ?_
  refine tC 2 (.tuple #[nV q,.bool true]) (Does.call (f:=78) (args:= #[pV rb,.string s]) (by kernel_rfl) (rat_sat _ rb M T oa oc ea ec es md s q true hat hE)) ?_
  refine sT [(6,nV q),(7,.bool true)] fun a hF=> ?_
  refine cS ?_
  refine qP [(18,.bool false)] hF fun a hF=> ?_
  refine cF 18 hF ?_
  refine cN ?_
  refine tK ?_
  refine qP [(4,nV q),(5,.int .i64 0)] hF fun a hF=> ?_
  refine cR ?_
  refine ret_ok [.tmp 4,.tmp 5] [.int .i64 ((q:Nat):Int),.int .i64 0] (.tuple #[.int .i64 ((q:Nat):Int),.int .i64 0]) rfl hF ⟨rfl,rfl,trivial⟩ rfl ?_
  exact⟨rfl,rfl⟩
noncomputable def b84:Code:=Tryz.f84.body.getD .skip
theorem rset_sat {W:Nat→Prop}(h:Heap)(rb:Nat)(M:Md)(A B:List RO)(x:RO)(oa:Option Addr)(oc:Nat)(ea:Option Addr)(ec:Nat)(es:List Value)(md:RModA W h rb M (A++x::B) oa oc ea ec es)(e:Int)(ho go:Bool)(ca:Option Addr)(cc:Nat)(hr:Row h (.slice ca 0 cc) 0 4 (prow []))(hE:M.E.length ≤1099511627):Sat Tryz.prog 84 #[.pointer (some ⟨rb,0,none⟩),.int .i64 ((A.length :Nat):Int),.agg (rc x.o.b e ho go (.slice ca 0 cc)).toArray] h fun _ h'=>RModW W h' rb ⟨upd M.f x.o.b.id ⟨x.o.b,e,ho,go,x.o.dt⟩,M.E,M.t⟩∧RG rb h h':=by
 have hm:=md.hm
 have hbr:=blk_lt hm
 have hLn:=md.ln
 have hAl:A.length <(A++x::B).length :=ro_lt
 have e0:=Ext.refl h
 have sep:Sep h.size h.size []:=Sep.nil _ _
 refine sat_in Tryz.func84 23 fun a hF=> ?_
 refine qS hF ?_
 refine tN 0 (pV h.size) ((rc x.o.b e ho go (.slice ca 0 cc)).toArray) 95 fun h1 g2 m3=> ?_
 replace sep:=sep.nw e0.size m3
 refine sT [(5,pV h.size)] fun a hF=> ?_
 refine qS hF ?_
 refine tN 1 (.slice (some ⟨h1.size,0,none⟩) 0 0) #[] 97 fun h4 g5 m6=> ?_
 replace e0:=e0.ext g2
 replace sep:=sep.nw e0.size m6
 have own_o:Own h4 (.slice (some ⟨h1.size,0,none⟩) 0 0) 97 ([]:List RO).length 40 (rorow []):=Own.empty 40 m6
 replace sep:Sep h.size h4.size [(some ⟨h1.size,0,none⟩:Option Addr).map (·.block),some (h.size)]:=sep
 replace e0:=e0.ext g5
 replace m3:=m3.x g5
 clear m6
 refine tO 5 0 (e0.blk hm) ?_
 refine tP 6 ((A++x::B).length) 128 (rorow (A++x::B)) own_o (md.row.1.ext e0) (rorow_one _) (fun ad7 cap8 h9 own_o g10 hb11=> ?_) (ys:=(rorow (A++x::B))) (hZ:=by first|rfl|exact List.flatMap_append.symm |simp[rorow])
 have s12:=sep
 replace sep:=sep.sa g10 0 hb11 own_o e0.size;clear hb11
 have hFn:=hF
 obtain⟨ao,rfl,hcap_ao⟩:=own_o.someA ro_pos
 have hF:=hFn;clear hFn
 replace e0:=e0.grew g10 (s12.l 0)
 replace m3:=m3.y g10 (s12.bp 1 0)
 refine tW 9 0 [.slice (some ao) ((A++x::B).length) cap8] [.slice oa ((A++x::B).length) oc,.slice ea M.E.length ec,.int .i64 M.t] [.slice (some ao) ((A++x::B).length) cap8,.slice ea M.E.length ec,.int .i64 M.t] (e0.blk hm) (fun h13 gm hmD=> ?_)
 have hlo8:=e0.size
 have gk:RG rb h h13:=RG.one e0 gm
 replace own_o:=own_o.kept gm (by rw[blkOf_slice];right;intro e;have:=sep.low 0 rfl _ e;omega)
 replace m3:=gm.blk m3 (fun e=>by have:=sep.low 1 rfl _ rfl;cases e;omega)
 replace sep:=sep.up gm.1
 clear hlo8
 have hm2:=hmD;clear hmD gm
 refine sT [] fun a hF=> ?_
 refine cD [0,1,3,7,0,0,63,127,255] 2 mixed hF ?_
 refine mP 7 [0,1,2] [pV rb,pV rb,pV rb] ?_
 refine mO 15 8 3 0 (.slice (some ao) ((A++x::B).length) cap8) hm2 ?_
 refine mP 31 [4] [nV A.length] ?_
 refine mR 63 40 5 m3 ?_
 refine mI 127 6 ao ((A++x::B).length) 40 A.length (A.length *40) ?_
 refine m1 255 7 (.pointer (some (Addr.add ao (A.length *40)))) (.pointer (some ((Addr.add ao (A.length *40)).add 0))) (by rw[add_add,Nat.add_zero]) ?_
 refine mF0 511 511 8 (Does.storeOwn (a:=ao) (q:=A.length *40) (vs:=(rc x.o.b e ho go (.slice ca 0 cc))) (by kernel_rfl) own_o (by show A.length *40+39≤(A++x::B).length *40;simp;omega) (rcs_one ⟨x.o.b,e,ho,go,ca,0,cc⟩)) ?_
 rintro _ h15 ⟨rfl,own_o,g14⟩
 rw[ro_splice] at own_o
 refine mE [] fun a hF=> ?_
 refine n0 hF ?_
 replace gk:=gk.thenO g14 (fun i e=> .inr (by have:=sep.low 0 rfl i e;omega))
 replace hm2:=g14.blk hm2 (fun e=>by have:=sep.low 0 rfl _ e.symm;omega)
 exact⟨md.set gk hm2 (RowT.of own_o) rfl rfl rfl rfl (hr.zero rfl),gk⟩
end Go.Proofs.YtegkejcglfgpmaaGreatDoor
end
section
namespace Go.Proofs.YtegkejcglfgpmaaGreatDoor
open Go Go.Lane Go.Sha
noncomputable def b42:Code:=Tryz.f42.body.getD .skip
theorem rroot_step(h:Heap)(L:List Hs)(va:Option Addr)(vc n:Nat)(hL:HR h va vc n L)(hn:n≤1099511627000)(ih:∀(h':Heap) (L':List Hs) (va':Option Addr) (vc' n':Nat),n'<n→HR h' va' vc' n' L'→Sat Tryz.prog 42 #[.slice va' n' vc'] h' fun v k=>v=hv (root L')∧Ext h' k):Sat Tryz.prog 42 #[.slice va n vc] h fun v h'=>v=hv (root L)∧Ext h h':=by
 have hLn:=hL.2.2
 have e0:=Ext.refl h
 have sep:Sep h.size h.size []:=Sep.nil _ _
 refine sat_in Tryz.func42 26 fun a hF=> ?_
 refine qS hF ?_
 refine tN 0 (pV h.size) ((z32.map bv).toArray) 39 fun h1 g2 m3=> ?_
 replace sep:=sep.nw e0.size m3
 refine sT [(2,pV h.size)] fun a hF=> ?_
 refine cS ?_
 refine qP [(6,.bool (decide (((n:Nat):Int)=(0:Int))))] hF fun a hF=> ?_
 refine cJ 6 hF (fun hc4=> ?_) fun hc4=> ?_
 ·skip
  refine qS hF ?_
  refine tG 0 (rsum_n _ [] 0 none 0 (Row.nil _ 1) rfl (by decide)) ?_
  rintro _ h6 ⟨rfl,g5⟩
  replace m3:=m3.x g5
  refine tF 1 (Does.store (b:=h.size) (off:=0) (vs:=(sha []).map bv) (l:=z32.map bv) (storeOp_of (by kernel_rfl) (hlm rfl)) m3 (hfit rfl rfl) (ones_map _)) ?_
  rintro _ h7 ⟨rfl,hh⟩
  have g8:Grew (some (h.size)) h6 h7:=hput_gr hh
  replace m3:h7[h.size]? =some (.cells ((sha []).map bv).toArray 39):=hput_at (off:=0) (vs:=(sha []).map bv) (l:=(z32.map bv)) hh (hsplice rfl rfl) m3
  clear hh
  refine sT [] fun a hF=> ?_
  refine cR (yT ?_)
  refine ret_ok [.cell 2 39] [.agg ((sha []).map bv).toArray] (.agg ((sha []).map bv).toArray) rfl hF ⟨⟨_,rfl,Loads.hash (by kernel_rfl) rfl m3⟩,trivial⟩ rfl ?_
  replace e0:=((e0.ext g2).ext g5).grew g8 (sep.l 0)
  exact⟨congrArg hv (root_nil' (by omega)),e0⟩
 ·skip
  refine cN ?_
  refine tK ?_
  refine cS ?_
  refine qP [(10,.bool (decide (((n:Nat):Int)=(1:Int))))] hF fun a hF=> ?_
  refine cJ 10 hF (fun hc9=> ?_) fun hc9=> ?_
  ·skip
   obtain⟨aa,rfl,hcap⟩:=hL.someA (by omega)
   refine qS hF ?_
   refine tI 1 aa n 32 0 0 ?_
   replace e0:=e0.ext g2
   refine tC 2 (.agg ((L.getD 0 []).map bv).toArray) (Calm.load (T:=39) (p:=aa) (by kernel_rfl) (HR.loads (k:=0) (q:=0) (hL.ext e0) (by kernel_rfl) (by omega) (by omega))) ?_
   refine tF 3 (Does.store (b:=h.size) (off:=0) (vs:=(L.getD 0 []).map bv) (l:=z32.map bv) (storeOp_of (by kernel_rfl) (hlm (hL.2.1.get (k:=0) (by rw[hL.2.2];omega)))) m3 (hfit rfl (hL.2.1.get (k:=0) (by rw[hL.2.2];omega))) (ones_map _)) ?_
   rintro _ h10 ⟨rfl,hh⟩
   have g11:Grew (some (h.size)) h1 h10:=hput_gr hh
   replace m3:h10[h.size]? =some (.cells ((L.getD 0 []).map bv).toArray 39):=hput_at (off:=0) (vs:=(L.getD 0 []).map bv) (l:=(z32.map bv)) hh (hsplice rfl (hL.2.1.get (k:=0) (by rw[hL.2.2];omega))) m3
   clear hh
   refine sT [] fun a hF=> ?_
   refine cR (yT ?_)
   refine ret_ok [.cell 2 39] [.agg ((L.getD 0 []).map bv).toArray] (.agg ((L.getD 0 []).map bv).toArray) rfl hF ⟨⟨_,rfl,Loads.hash (by kernel_rfl) (hL.2.1.get (k:=0) (by rw[hL.2.2];omega)) m3⟩,trivial⟩ rfl ?_
   replace e0:=e0.grew g11 (sep.l 0)
   exact⟨congrArg hv (root_one' (by omega)),e0⟩
  ·skip
   obtain⟨aa,rfl,hcap⟩:=hL.someA (by omega)
   have hhl:=half_lt (n:=n) (by omega)
   have hhp:=half_pos n
   obtain⟨ad2,had2⟩:∃x,x=if vc=half n then (some aa:Option Addr) else (some aa:Option Addr).map (·.add (half n*32)):=⟨_,rfl⟩
   refine cN ?_
   refine tK ?_
   refine qS hF ?_
   refine tC 2 (nV (half n)) (Does.call (f:=87) (args:= #[nV n]) (by kernel_rfl) (rhalf_sat _ n (by omega) (by omega))) ?_
   refine sT [(3,nV (half n))] fun a hF=> ?_
   refine cS ?_
   refine cD [0,0,3,7,0,0,48,127,255,511] 6 mixed hF ?_
   refine mP 3 [0,1] [.slice (some aa) n vc,nV (half n)] ?_
   refine mF 7 2 (.slice (some aa) (half n) vc) (fun h=>Calm.sliceO (a:=(some aa)) (len:=n) (cap:=vc) (sz:=32) (x:=(some aa)) 0 (half n) vc (half n) vc (by kernel_rfl) (.inl ⟨rfl,rfl⟩) (.inr rfl) (.inl ⟨rfl,rfl⟩) (by omega) (by omega) (opt_add0 _ 32) (by first|rfl|omega) (by first|rfl|omega) h) ?_
   refine mP 55 [4,5] [.slice (some aa) n vc,nV (half n)] ?_
   refine mF 119 6 (.slice ad2 (n - half n) (vc - half n)) (fun h=>Calm.sliceO (a:=(some aa)) (len:=n) (cap:=vc) (sz:=32) (x:=ad2) (half n) n vc (n - half n) (vc - half n) (by kernel_rfl) (.inl ⟨rfl,rfl⟩) (.inl ⟨rfl,rfl⟩) (.inr rfl) (by omega) (by omega) had2 (by first|rfl|omega) (by first|rfl|omega) h) ?_
   replace e0:=e0.ext g2
   refine mG0 127 15 3 (ih _ (L.take (half n)) _ _ (half n) (by omega) ((hL.ext e0).take (k:=half n) (by omega))) ?_
   rintro _ h13 ⟨rfl,g12⟩
   replace e0:=e0.ext g12
   refine mG0 255 255 7 (ih _ (L.drop (half n)) _ _ (n - half n) (by omega) ((hL.ext e0).drop (by omega) had2)) ?_
   rintro _ h15 ⟨rfl,g14⟩
   refine mG0 511 511 8 (rnode_sat _ (root (L.take (half n))) (root (L.drop (half n))) (root_len (hL.2.1.take _)) (root_len (hL.2.1.drop _))) ?_
   rintro _ h17 ⟨rfl,g16⟩
   replace m3:=((m3.x g12).x g14).x g16
   refine mF0 1023 1023 9 (Does.store (b:=h.size) (off:=0) (vs:=(nodeH (root (L.take (half n))) (root (L.drop (half n)))).map bv) (l:=z32.map bv) (storeOp_of (by kernel_rfl) (hlm (node_len _ _))) m3 (hfit rfl (node_len _ _)) (ones_map _)) ?_
   rintro _ h18 ⟨rfl,hh⟩
   have g19:Grew (some (h.size)) h17 h18:=hput_gr hh
   replace m3:h18[h.size]? =some (.cells ((nodeH (root (L.take (half n))) (root (L.drop (half n)))).map bv).toArray 39):=hput_at (off:=0) (vs:=(nodeH (root (L.take (half n))) (root (L.drop (half n)))).map bv) (l:=(z32.map bv)) hh (hsplice rfl (node_len _ _)) m3
   clear hh
   refine mE [] fun a hF=> ?_
   refine tK ?_
   refine cR ?_
   refine ret_ok [.cell 2 39] [.agg ((nodeH (root (L.take (half n))) (root (L.drop (half n)))).map bv).toArray] (.agg ((nodeH (root (L.take (half n))) (root (L.drop (half n)))).map bv).toArray) rfl hF ⟨⟨_,rfl,Loads.hash (by kernel_rfl) (node_len _ _) m3⟩,trivial⟩ rfl ?_
   replace e0:=((e0.ext g14).ext g16).grew g19 (sep.l 0)
   exact⟨congrArg hv (root_half hLn (by omega)),e0⟩
theorem rroot_all:∀(m n:Nat),n≤m→∀(h:Heap) (L:List Hs) (va:Option Addr) (vc:Nat),HR h va vc n L→n≤1099511627000→Sat Tryz.prog 42 #[.slice va n vc] h fun v h'=>v=hv (root L)∧Ext h h'
 |0,n,hm,h,L,va,vc,hL,hn=>rroot_step h L va vc n hL hn fun _ _ _ _ _ hlt _=>by omega
 |m+1,n,hm,h,L,va,vc,hL,hn=>rroot_step h L va vc n hL hn fun _ _ _ _ _ hlt hL'=>rroot_all m _ (by omega) _ _ _ _ hL' (by omega)
theorem rroot_sat(h:Heap)(L:List Hs)(va:Option Addr)(vc n:Nat)(hL:HR h va vc n L)(hn:n≤1099511627000):Sat Tryz.prog 42 #[.slice va n vc] h fun v h'=>v=hv (root L)∧Ext h h':=rroot_all n n (Nat.le_refl _) h L va vc hL hn
noncomputable def b115:Code:=Tryz.f115.body.getD .skip
theorem rproof_step(h:Heap)(L:List Hs)(va:Option Addr)(vc n:Nat)(hL:HR h va vc n L)(hn:n≤1099511627000)(m:Nat)(hm:m<n)(ih:∀(h':Heap) (L':List Hs) (va':Option Addr) (vc' n' m':Nat),n'<n→m'<n'→HR h' va' vc' n' L'→Sat Tryz.prog 115 #[.slice va' n' vc',.int .i64 ((m':Nat):Int)] h' fun v k=>OwnNew h' k 39 v (incl L' m')):Sat Tryz.prog 115 #[.slice va n vc,.int .i64 ((m:Nat):Int)] h fun v h'=>OwnNew h h' 39 v (incl L m):=by
 have hLn:=hL.2.2
 have e0:=Ext.refl h
 have sep:Sep h.size h.size []:=Sep.nil _ _
 refine sat_in Tryz.func115 39 fun a hF=> ?_
 refine qP [] hF fun a hF=> ?_
 refine cS ?_
 refine qP [(8,.bool (decide (((n:Nat):Int)=(1:Int))))] hF fun a hF=> ?_
 refine cJ 8 hF (fun hc1=> ?_) fun hc1=> ?_
 ·skip
  refine qP [(4,.slice none 0 0)] hF fun a hF=> ?_
  refine cR (yT ?_)
  refine rT 4 (.slice none 0 0) hF ?_
  exact OwnNew.cast (incl_one (by omega)).symm (OwnNew.none e0)
 ·skip
  obtain⟨aa,rfl,hcap⟩:=hL.someA (by omega)
  have hhl:=half_lt (n:=n) (by omega)
  have hhp:=half_pos n
  obtain⟨ad2,had2⟩:∃x,x=if vc=half n then (some aa:Option Addr) else (some aa:Option Addr).map (·.add (half n*32)):=⟨_,rfl⟩
  refine cN ?_
  refine tK ?_
  refine qS hF ?_
  refine tC 2 (nV (half n)) (Does.call (f:=87) (args:= #[nV n]) (by kernel_rfl) (rhalf_sat _ n (by omega) (by omega))) ?_
  refine sT [(5,nV (half n))] fun a hF=> ?_
  refine cS ?_
  refine qP [(14,.bool (decide (((m:Nat):Int)<((half n:Nat):Int))))] hF fun a hF=> ?_
  refine cJ 14 hF (fun hc2=> ?_) fun hc2=> ?_
  ·skip
   refine cS ?_
   refine cD [0,0,3,0,15,0,0,96,255,511,1023,2047] 5 mixed hF ?_
   refine mP 3 [0,1] [.slice (some aa) n vc,nV (half n)] ?_
   refine mF 7 2 (.slice (some aa) (half n) vc) (fun h=>Calm.sliceO (a:=(some aa)) (len:=n) (cap:=vc) (sz:=32) (x:=(some aa)) 0 (half n) vc (half n) vc (by kernel_rfl) (.inl ⟨rfl,rfl⟩) (.inr rfl) (.inl ⟨rfl,rfl⟩) (by omega) (by omega) (opt_add0 _ 32) (by first|rfl|omega) (by first|rfl|omega) h) ?_
   refine mP 111 [3,5,6] [nV m,.slice (some aa) n vc,nV (half n)] ?_
   refine mF 239 7 (.slice ad2 (n - half n) (vc - half n)) (fun h=>Calm.sliceO (a:=(some aa)) (len:=n) (cap:=vc) (sz:=32) (x:=ad2) (half n) n vc (n - half n) (vc - half n) (by kernel_rfl) (.inl ⟨rfl,rfl⟩) (.inl ⟨rfl,rfl⟩) (.inr rfl) (by omega) (by omega) had2 (by first|rfl|omega) (by first|rfl|omega) h) ?_
   have hil:=incl_len _ (L.take (half n)) m (Nat.le_refl _)
   have hpl:=((hL.ext e0).take (k:=half n) (by omega)).2.2
   refine mG0 255 31 4 (ih _ (L.take (half n)) _ _ (half n) m (by omega) (by omega) ((hL.ext e0).take (k:=half n) (by omega))) ?_
   rintro _ h7 ⟨ad3,cap4,rfl,own_p,hg6,g5⟩
   replace sep:=sep.co g5 hg6 own_p e0.size
   replace e0:=e0.ext g5
   refine mG0 511 511 8 (rroot_sat _ (L.drop (half n)) _ _ (n - half n) ((hL.ext e0).drop (by omega) had2) (by omega)) ?_
   rintro _ h9 ⟨rfl,g8⟩
   refine mF0 1023 1023 9 (Does.newHs (L:=[root (L.drop (half n))]) (t:=45) (E:=39) (by_:=32) (n:=1) (by kernel_rfl) (by kernel_rfl) (All32.cons (root_len (hL.2.1.drop _)) All32.nil) rfl (by decide) (by decide)) ?_
   rintro _ h10 ⟨rfl,hh⟩
   have g11:Ext h9 h10:=push_ext hh
   have m12:h10[h9.size]? =some (.cells (hcs [root (L.drop (half n))]).toArray 39):=push_at hh
   clear hh
   replace e0:=e0.ext g8
   have hlo:=e0.size
   replace sep:=sep.up g8.size
   have sepo:=sep
   replace sep:=sep.up g11.size
   replace sep:=sepo.new hlo (blk_lt m12)
   clear sepo hlo
   replace own_p:=(own_p.ext g8).ext g11
   refine mP0 2047 2047 10 ((incl (L.take (half n)) m++[root (L.drop (half n))]).length) 32 (hcs (incl (L.take (half n)) m++[root (L.drop (half n))])) own_p (hrow1 (root_len (hL.2.1.drop _)) m12) (ones_hcs _) (fun ad13 cap14 h15 own_p g16 hb17=> ?_) (ys:=(hcs ([root (L.drop (half n))]))) (hZ:=by first|rfl|exact(hcs_append _ _).symm |simp[hcs_append])
   replace e0:=e0.ext g11
   have s18:=sep
   replace sep:=sep.sa g16 1 hb17 own_p e0.size;clear hb17
   clear m12
   replace e0:=e0.grew g16 (s18.l 1)
   replace sep:=sep.sub (l':=[ad13.map (·.block)]) (.cons _ (.cons_cons _ (.slnil)))
   refine mP 4095 [11] [.slice ad13 ((incl (L.take (half n)) m++[root (L.drop (half n))]).length) cap14] ?_
   refine mE [(4,.slice ad13 ((incl (L.take (half n)) m++[root (L.drop (half n))]).length) cap14)] fun a hF=> ?_
   refine tK ?_
   refine cR (yT ?_)
   refine rT 4 (.slice ad13 ((incl (L.take (half n)) m++[root (L.drop (half n))]).length) cap14) hF ?_
   exact OwnNew.cast (by have:=incl_lo (l:=L) (m:=m) (by omega) (by rw[hLn];omega);rw[hLn] at this;exact this.symm) ⟨ad13,cap14,rfl,own_p,sep.low 0 rfl,e0⟩
  ·skip
   refine cN ?_
   refine tK ?_
   refine cS ?_
   refine cD [0,0,3,0,0,24,63,0,0,384,1023,2047,4095,8191] 6 mixed hF ?_
   refine mP 3 [0,1] [.slice (some aa) n vc,nV (half n)] ?_
   refine mF 7 2 (.slice ad2 (n - half n) (vc - half n)) (fun h=>Calm.sliceO (a:=(some aa)) (len:=n) (cap:=vc) (sz:=32) (x:=ad2) (half n) n vc (n - half n) (vc - half n) (by kernel_rfl) (.inl ⟨rfl,rfl⟩) (.inl ⟨rfl,rfl⟩) (.inr rfl) (by omega) (by omega) had2 (by first|rfl|omega) (by first|rfl|omega) h) ?_
   refine mP 31 [3,4] [nV m,nV (half n)] ?_
   refine mU 63 5 m (half n) ?_
   refine mP 447 [7,8] [.slice (some aa) n vc,nV (half n)] ?_
   refine mF 959 9 (.slice (some aa) (half n) vc) (fun h=>Calm.sliceO (a:=(some aa)) (len:=n) (cap:=vc) (sz:=32) (x:=(some aa)) 0 (half n) vc (half n) vc (by kernel_rfl) (.inl ⟨rfl,rfl⟩) (.inr rfl) (.inl ⟨rfl,rfl⟩) (by omega) (by omega) (opt_add0 _ 32) (by first|rfl|omega) (by first|rfl|omega) h) ?_
   have hil:=incl_len _ (L.drop (half n)) (m - half n) (Nat.le_refl _)
   have hpl:=((hL.ext e0).drop (by omega) had2).2.2
   refine mG0 1023 127 6 (ih _ (L.drop (half n)) _ _ (n - half n) (m - half n) (by omega) (by omega) ((hL.ext e0).drop (by omega) had2)) ?_
   rintro _ h23 ⟨ad19,cap20,rfl,own_p,hg22,g21⟩
   replace sep:=sep.co g21 hg22 own_p e0.size
   replace e0:=e0.ext g21
   refine mG0 2047 2047 10 (rroot_sat _ (L.take (half n)) _ _ (half n) ((hL.ext e0).take (k:=half n) (by omega)) (by omega)) ?_
   rintro _ h25 ⟨rfl,g24⟩
   refine mF0 4095 4095 11 (Does.newHs (L:=[root (L.take (half n))]) (t:=45) (E:=39) (by_:=32) (n:=1) (by kernel_rfl) (by kernel_rfl) (All32.cons (root_len (hL.2.1.take _)) All32.nil) rfl (by decide) (by decide)) ?_
   rintro _ h26 ⟨rfl,hh⟩
   have g27:Ext h25 h26:=push_ext hh
   have m28:h26[h25.size]? =some (.cells (hcs [root (L.take (half n))]).toArray 39):=push_at hh
   clear hh
   replace e0:=e0.ext g24
   have hlo:=e0.size
   replace sep:=sep.up g24.size
   have sepo:=sep
   replace sep:=sep.up g27.size
   replace sep:=sepo.new hlo (blk_lt m28)
   clear sepo hlo
   replace own_p:=(own_p.ext g24).ext g27
   refine mP0 8191 8191 12 ((incl (L.drop (half n)) (m - half n)++[root (L.take (half n))]).length) 32 (hcs (incl (L.drop (half n)) (m - half n)++[root (L.take (half n))])) own_p (hrow1 (root_len (hL.2.1.take _)) m28) (ones_hcs _) (fun ad29 cap30 h31 own_p g32 hb33=> ?_) (ys:=(hcs ([root (L.take (half n))]))) (hZ:=by first|rfl|exact(hcs_append _ _).symm |simp[hcs_append])
   replace e0:=e0.ext g27
   have s34:=sep
   replace sep:=sep.sa g32 1 hb33 own_p e0.size;clear hb33
   clear m28
   replace e0:=e0.grew g32 (s34.l 1)
   replace sep:=sep.sub (l':=[ad29.map (·.block)]) (.cons _ (.cons_cons _ (.slnil)))
   refine mP 16383 [13] [.slice ad29 ((incl (L.drop (half n)) (m - half n)++[root (L.take (half n))]).length) cap30] ?_
   refine mE [(4,.slice ad29 ((incl (L.drop (half n)) (m - half n)++[root (L.take (half n))]).length) cap30)] fun a hF=> ?_
   refine tK ?_
   refine cR ?_
   refine rT 4 (.slice ad29 ((incl (L.drop (half n)) (m - half n)++[root (L.take (half n))]).length) cap30) hF ?_
   exact OwnNew.cast (by have:=incl_hi (l:=L) (m:=m) (by omega) (by rw[hLn];omega);rw[hLn] at this;exact this.symm) ⟨ad29,cap30,rfl,own_p,sep.low 0 rfl,e0⟩
theorem rproof_all:∀(k n:Nat),n≤k→∀(h:Heap) (L:List Hs) (va:Option Addr) (vc m:Nat),m<n→HR h va vc n L→n≤1099511627000→Sat Tryz.prog 115 #[.slice va n vc,.int .i64 ((m:Nat):Int)] h fun v h'=>OwnNew h h' 39 v (incl L m)
 |0,n,hk,h,L,va,vc,m,hm,hL,hn=>by omega
 |k+1,n,hk,h,L,va,vc,m,hm,hL,hn=>rproof_step h L va vc n hL hn m hm fun _ _ _ _ _ _ hlt hm' hL'=>rproof_all k _ (by omega) _ _ _ _ _ hm' hL' (by omega)
theorem rproof_sat(h:Heap)(L:List Hs)(va:Option Addr)(vc n:Nat)(hL:HR h va vc n L)(hn:n≤1099511627000)(m:Nat)(hm:m<n):Sat Tryz.prog 115 #[.slice va n vc,.int .i64 ((m:Nat):Int)] h fun v h'=>OwnNew h h' 39 v (incl L m):=rproof_all n n (Nat.le_refl _) h L va vc m hm hL hn
noncomputable def b85:Code:=Tryz.f85.body.getD .skip
theorem rincl_sat(h:Heap)(L:List Hs)(va:Option Addr)(vc n:Nat)(hL:HR h va vc n L)(hn:n≤1099511627000)(m:Int):Sat Tryz.prog 85 #[.slice va n vc,.int .i64 m] h fun v h'=>∃s,v= .tuple #[s,.int .i64 (inclZ L m).2]∧OwnNew h h' 39 s (inclZ L m).1 :=by
 have hLn:=hL.2.2
 have e0:=Ext.refl h
 have sep:Sep h.size h.size []:=Sep.nil _ _
 refine sat_in Tryz.func85 17 fun a hF=> ?_
 refine qP [] hF fun a hF=> ?_
 refine cS ?_
 refine cS ?_
 have hm3:m<0∨(n:Int)≤m∨∃k:Nat,m=(k:Int)∧k<n:=by
  rcases Int.lt_or_le m 0 with h0|h0
  ·exact .inl h0
  ·rcases Int.lt_or_le m n with h1|h1
   ·exact .inr (.inr ⟨m.toNat,by omega,by omega⟩)
   ·exact .inr (.inl h1)
 rcases hm3 with hm0|hm0|⟨k,rfl,hk⟩
 ·skip
  refine rS hF ?_
  refine tT 1 (m<(0:Int)) ?_
  refine sE [(13,.bool true)] fun a hF=> ?_
  refine tK ?_
  refine cT 13 hF ?_
  refine qP [(4,.slice none 0 0),(5,.int .i64 50)] hF fun a hF=> ?_
  refine cR (yT ?_)
  refine ret_ok [.tmp 4,.tmp 5] [.slice none 0 0,.int .i64 50] (.tuple #[.slice none 0 0,.int .i64 50]) rfl hF ⟨rfl,rfl,trivial⟩ rfl ?_
  rw[inclZ_no (by omega)];exact⟨_,rfl,OwnNew.none e0⟩
 ·skip
  refine rS hF ?_
  refine tX 1 (m<(0:Int)) ?_
  refine tT 6 (((n:Nat):Int)≤m) ?_
  refine sE [(13,.bool true)] fun a hF=> ?_
  refine tK ?_
  refine cT 13 hF ?_
  refine qP [(4,.slice none 0 0),(5,.int .i64 50)] hF fun a hF=> ?_
  refine cR (yT ?_)
  refine ret_ok [.tmp 4,.tmp 5] [.slice none 0 0,.int .i64 50] (.tuple #[.slice none 0 0,.int .i64 50]) rfl hF ⟨rfl,rfl,trivial⟩ rfl ?_
  rw[inclZ_no (by omega)];exact⟨_,rfl,OwnNew.none e0⟩
 ·skip
  refine rS hF ?_
  refine tX 1 (((k:Nat):Int)<(0:Int)) ?_
  refine tX 6 (((n:Nat):Int)≤((k:Nat):Int)) ?_
  refine sE [(13,.bool false)] fun a hF=> ?_
  refine tK ?_
  refine cF 13 hF ?_
  refine cN ?_
  refine tK ?_
  refine qS hF ?_
  refine tG 2 (rproof_sat _ L _ _ _ (hL.ext e0) (by omega) k (by omega)) ?_
  rintro _ h5 ⟨ad1,cap2,rfl,own_p,hg4,g3⟩
  replace sep:=sep.co g3 hg4 own_p e0.size
  refine sT [(4,.slice ad1 ((incl L k).length) cap2),(5,.int .i64 0)] fun a hF=> ?_
  refine cR ?_
  refine ret_ok [.tmp 4,.tmp 5] [.slice ad1 ((incl L k).length) cap2,.int .i64 0] (.tuple #[.slice ad1 ((incl L k).length) cap2,.int .i64 0]) rfl hF ⟨rfl,rfl,trivial⟩ rfl ?_
  replace e0:=e0.ext g3
  rw[inclZ_yes (by omega)];exact⟨_,rfl,ad1,cap2,rfl,own_p,sep.low 0 rfl,e0⟩
end Go.Proofs.YtegkejcglfgpmaaGreatDoor
end
section
namespace Go.Proofs.YtegkejcglfgpmaaGreatDoor
open Go Go.Lane Go.Sha
noncomputable def b134:Code:=Tryz.f134.body.getD .skip
set_option maxHeartbeats 1000000 in
theorem rsplit7_sat(h:Heap)(b:List UInt8)(n:Nat)(hbn:b.length =n)(va:Option Addr)(vc:Nat)(hr:Row h (.slice va n vc) n 1 (b.map bv))(hbl:n≤1099511627000)(N:Nat)(hN:nch n=N):Sat Tryz.prog 134 #[.slice va n vc] h fun v h'=>RSplitN h h' 32 v b N:=by
 have hNn:N≤n:=hN▸nch_le n
 have hnc:=hr.caple
 have e0:=Ext.refl h
 have sep:Sep h.size h.size []:=Sep.nil _ _
 refine sat_in Tryz.func134 26 fun a hF=> ?_
 refine qP [] hF fun a hF=> ?_
 refine qS hF ?_
 refine tN 0 (.slice (some ⟨h.size,0,none⟩) 0 0) #[] 32 fun h1 g2 m3=> ?_
 replace sep:=sep.nw e0.size m3
 have own_o:Own h1 (.slice (some ⟨h.size,0,none⟩) 0 0) 32 ([]:List UInt8).length 1 ([]:List Value):=Own.empty 1 m3
 replace sep:Sep h.size h1.size [(some ⟨h.size,0,none⟩:Option Addr).map (·.block)]:=sep
 replace e0:=e0.ext g2
 clear m3
 refine sT [(3,.slice (some ⟨h.size,0,none⟩) 0 0)] fun a hF=> ?_
 refine cS ?_
 refine qP [(4,.int .i64 0)] hF fun a hF=> ?_
 refine cB 0 ?_
 have rc:=RC.nil h.size ((some ⟨h.size,0,none⟩).map (fun(x:Addr)=>x.block)) h1 b
 refine cL (fun m a h'=>∃k:Nat,∃ys:List Value,∃ad:Option Addr,∃cap:Nat,m=N - k∧(Ext h h')∧(k≤N)∧(Own h' (.slice ad k cap) 32 k 1 ys)∧(RC h.size h'.size (ad.map (fun(x:Addr)=>x.block)) h' ys b k)∧(Sep h.size h'.size [ad.map (·.block)])∧(Fr a 26 [(0,.slice va n vc),(3,.slice ad k cap),(4,.int .i64 ((k*64:Nat):Int))])) (N - 0) ⟨0,[],(some ⟨h.size,0,none⟩),0,rfl,e0,(by omega),own_o,rc,sep,hF.to⟩ ?_
 clear hF a
 clear e0
 clear own_o
 clear rc
 clear sep
 rintro m a h4 ⟨k,ys,ad,cap,rfl,e0,hk,own_o,rc,sep,hF⟩
 have g0:=Ext.refl h4
 refine cS ?_
 refine qP [(9,.bool (decide (((k*64:Nat):Int)<((n:Nat):Int))))] hF fun a hF=> ?_
 refine cJ 9 hF (fun hc5=> ?_) fun hc5=> ?_
 ·skip
  have hkN:k<N:=by rw[←hN];unfold nch;omega
  have hck:=ck_len b k;rw[hbn] at hck
  have hcp:0<(ck b k).length :=by omega
  refine cN ?_
  refine tK ?_
  refine cS ?_
  refine cB 1 ?_
  refine rS hF ?_
  have gs0:=g0.size
  refine tN 1 (.slice (some ⟨h4.size,0,none⟩) 0 0) #[] 5 fun h6 g7 m8=> ?_
  replace sep:=sep.nw e0.size m8
  have hop_t:(some ⟨h4.size,0,none⟩:Option Addr).map (fun(x:Addr)=>x.block)=none∨∃g,(some ⟨h4.size,0,none⟩:Option Addr).map (fun(x:Addr)=>x.block)=some g∧h4.size ≤g:= .inr ⟨_,rfl,gs0⟩;clear gs0
  have own_t:Own h6 (.slice (some ⟨h4.size,0,none⟩) 0 0) 5 ([]:List UInt8).length 1 (([]:List UInt8).map bv):=Own.empty 1 m8
  replace sep:Sep h.size h6.size [(some ⟨h4.size,0,none⟩:Option Addr).map (·.block),ad.map (·.block)]:=sep
  replace e0:=e0.ext g7
  replace own_o:=own_o.ext g7
  replace g0:=g0.ext g7
  replace rc:=rc.ext g7
  clear m8
  refine tA 7 (k*64) 64 ?_
  refine t1 8 (.int .i64 ((min n ((k*64)+64):Nat):Int)) (.int .i64 (if (((k*64)+64:Nat):Int)<((n:Nat):Int) then (((k*64)+64:Nat):Int) else ((n:Nat):Int))) (congrArg (Value.int .i64) (by rw[Nat.min_def];split<;>split<;>omega)) ?_
  refine tC 9 (.slice (cad va k) ((ck b k).length) (vc - k*64)) ((fun h=>Calm.sliceO (a:=va) (len:=n) (cap:=vc) (sz:=1) (x:=cad va k) (k*64) (min n (k*64+64)) vc ((ck b k).length) (vc - k*64) (by kernel_rfl) (.inl ⟨rfl,rfl⟩) (.inr rfl) (.inr rfl) (by omega) (by omega) (by unfold cad;rw[if_neg (by omega),Nat.mul_one]) (by omega) (by rfl) h) _) ?_
  refine tP 10 ((ck b k).length) 1 ((ck b k).map bv) own_t (ck_rowC (hr.ext e0) hbn (by omega) rfl (by omega)) (ones_map _) (fun ad9 cap10 h11 own_t g12 hb13=> ?_) (ys:=((ck b k).map bv)) (hl:=(by unfold maxLen;simp;omega)) (hb:=(by simp;omega)) (x:= .slice (cad va k) ((ck b k).length) (vc - k*64))
  have hop_n:=grown hop_t hb13 g0.1
  replace g0:=g0.grew g12 (hop_ge hop_t)
  replace rc:=rc.grew g12 (fun j e=> .inl (hop_ge hop_t j e))
  have s14:=sep
  replace sep:=sep.sa g12 0 hb13 own_t e0.size;clear hb13
  replace hop_t:=hop_n;clear hop_n
  refine tN 11 (.slice (some ⟨h11.size,0,none⟩) 1 1) #[.slice ad9 ((ck b k).length) cap10] 32 fun h15 g16 m17=> ?_
  replace e0:=e0.grew g12 (s14.l 0)
  replace sep:=sep.nw e0.size m17
  replace own_o:=(own_o.k g12 (s14.ap 1 0)).ext g16
  refine tP 12 (k+1) 24 (ys++[.slice ad9 ((ck b k).length) cap10]) own_o (Row.blk (n:=1) (sz:=1) (l:=[.slice ad9 ((ck b k).length) cap10]) m17 rfl) (List.all_eq_true.1 (by rfl)) (fun ad18 cap19 h20 own_o g21 hb22=> ?_)
  replace e0:=e0.ext g16
  clear g0
  replace rc:=rc.ext g16
  replace rc:=rc.out g21 hb22
  have s23:=sep
  replace sep:=sep.sa g21 2 hb22 own_o e0.size;clear hb22
  refine sE [(3,.slice ad18 (k+1) cap19)] fun a hF=> ?_
  refine bK ?_
  refine tK ?_
  refine rS hF ?_
  refine tA 1 (k*64) 64 ?_
  refine sE [(4,nV ((k*64)+64))] fun a hF=> ?_
  replace own_t:=(own_t.ext g16).k g21 (s23.ap 1 2)
  have rc2:=rc.snoc (a:=ad9) (m:=(ck b k).length) (cap:=cap10) rfl hcp own_t.row (fun j e=>⟨sep.low 1 rfl j e,own_t.lt (by rw[blkOf_slice];exact e)⟩) (sep.ap 1 2)
  clear m17
  replace e0:=e0.grew g21 (s23.l 2)
  replace sep:=sep.sub (l':=[ad18.map (·.block)]) (.cons _ (.cons _ (.cons_cons _ (.slnil))))
  rw[show k*64+64=(k+1)*64 by omega] at hF
  show ∃m',m'<_∧_
  refine⟨_,?_,(k+1),(ys++[.slice ad9 ((ck b k).length) cap10]),ad18,cap19,rfl,e0,(by omega),own_o,rc2,sep,hF.to⟩
  omega
 ·skip
  refine cX 0 (xT (xT (xB ?_)))
  refine tK ?_
  refine qP [(2,.slice ad k cap)] hF fun a hF=> ?_
  refine cR ?_
  refine rT 2 (.slice ad k cap) hF ?_
  obtain rfl:k=N:=by rw[←hN] at hk⊢;unfold nch at hk⊢;omega
  exact⟨_,_,_,rfl,own_o,rc,sep.low 0 rfl,e0⟩
noncomputable def b113:Code:=Tryz.f113.body.getD .skip
theorem rleaves7_sat(h:Heap)(b:List UInt8)(n:Nat)(hbn:b.length =n)(va:Option Addr)(vc:Nat)(hr:Row h (.slice va n vc) n 1 (b.map bv))(hbl:n≤1099511627000)(N:Nat)(hN:nch n=N):Sat Tryz.prog 113 #[.slice va n vc] h fun v h'=>OwnNew h h' 39 v (lch b N):=by
 have hNn:N≤n:=hN▸nch_le n
 have e0:=Ext.refl h
 have sep:Sep h.size h.size []:=Sep.nil _ _
 refine sat_in Tryz.func113 24 fun a hF=> ?_
 refine qP [] hF fun a hF=> ?_
 refine qS hF ?_
 refine tG 1 (rsplit7_sat _ b n hbn _ _ (hr.ext e0) (by omega) N hN) ?_
 rintro _ h4 ⟨va1,vc2,ys3,rfl,ownx,rc,hge,g⟩
 have hlo:=e0.size
 have sepo:=sep
 replace e0:=e0.ext g
 replace sep:=sep.up g.size
 replace sep:=sepo.cons (x:=va1.map (fun(x:Addr)=>x.block)) g.size hlo (fun k e=>⟨hge k e,ownx.lt (by rw[blkOf_slice];exact e)⟩)
 have own_y:=ownx;clear ownx sepo hlo hge g
 have g0:=Ext.refl h4
 refine sT [(3,.slice va1 N vc2)] fun a hF=> ?_
 refine qS hF ?_
 have gs0:=g0.size
 refine tN 0 (.slice (some ⟨h4.size,0,none⟩) 0 0) #[] 39 fun h5 g6 m7=> ?_
 replace sep:=sep.nw e0.size m7
 have hop_o:(some ⟨h4.size,0,none⟩:Option Addr).map (fun(x:Addr)=>x.block)=none∨∃g,(some ⟨h4.size,0,none⟩:Option Addr).map (fun(x:Addr)=>x.block)=some g∧h4.size ≤g:= .inr ⟨_,rfl,gs0⟩;clear gs0
 have own_o:Own h5 (.slice (some ⟨h4.size,0,none⟩) 0 0) 39 ([]:List UInt8).length 32 (hcs []):=Own.empty 32 m7
 replace sep:Sep h.size h5.size [(some ⟨h4.size,0,none⟩:Option Addr).map (·.block),va1.map (·.block)]:=sep
 replace e0:=e0.ext g6
 replace own_y:=own_y.ext g6
 replace rc:=rc.ext g6
 replace g0:=g0.ext g6
 clear m7
 refine sT [(4,.slice (some ⟨h4.size,0,none⟩) 0 0)] fun a hF=> ?_
 refine cS ?_
 refine qP [(5,.int .i64 0)] hF fun a hF=> ?_
 refine cB 0 ?_
 have hz:lch b 0=[]:=rfl
 rw[←hz] at own_o
 replace own_o:Own h5 (.slice (some ⟨h4.size,0,none⟩) 0 0) 39 0 32 (hcs (lch b 0)):=own_o
 refine cL (fun m a h'=>∃k:Nat,∃ad:Option Addr,∃cap:Nat,m=N - k∧(Ext h h')∧(k≤N)∧(Ext h4 h')∧(RC h.size h4.size (va1.map (fun(x:Addr)=>x.block)) h' ys3 b N)∧(ad.map (fun(x:Addr)=>x.block)=none∨∃g,ad.map (fun(x:Addr)=>x.block)=some g∧h4.size ≤g)∧(Own h' (.slice ad k cap) 39 k 32 (hcs (lch b k)))∧(Own h' (.slice va1 N vc2) 32 N 1 ys3)∧(Sep h.size h'.size [ad.map (·.block),va1.map (·.block)])∧(Fr a 24 [(3,.slice va1 N vc2),(4,.slice ad k cap),(5,.int .i64 ((k:Nat):Int))])) (N - 0) ⟨0,(some ⟨h4.size,0,none⟩),0,rfl,e0,(by omega),g0,rc,hop_o,own_o,own_y,sep,hF.to⟩ ?_
 clear hF a
 clear e0
 clear g0
 clear rc
 clear hop_o
 clear own_o
 clear own_y
 clear sep
 rintro m a h8 ⟨k,ad,cap,rfl,e0,hk,g0,rc,hop_o,own_o,own_y,sep,hF⟩
 refine cS ?_
 refine qP [(12,.bool (decide (((k:Nat):Int)<((N:Nat):Int))))] hF fun a hF=> ?_
 refine cJ 12 hF (fun hc9=> ?_) fun hc9=> ?_
 ·skip
  have hkN:k<N:=by omega
  have hck:=ck_len b k
  obtain⟨ay,rfl,_⟩:=own_y.someA (by omega)
  obtain⟨ya,yc,hyi,hyr,_⟩:=rc.at_ k hkN
  refine cN ?_
  refine tK ?_
  refine cS ?_
  refine cB 1 ?_
  refine rS hF ?_
  refine tI 3 ay N 1 k k ?_
  refine tC 4 (.slice (some ya) ((ck b k).length) yc) (Calm.load (T:=32) (p:=(Addr.add ay k)) (by kernel_rfl) (Loads.one (k:=1) (by kernel_rfl) (RC.cell own_y hyi))) ?_
  refine tG 5 (rleaf_sat _ (ck b k) _ _ hyr (by omega)) ?_
  rintro _ h11 ⟨rfl,g10⟩
  refine tF 6 (Does.newHs (L:=[leafH (ck b k)]) (t:=45) (E:=39) (by_:=32) (n:=1) (by kernel_rfl) (by kernel_rfl) (All32.cons (leaf_len _) All32.nil) rfl (by decide) (by decide)) ?_
  rintro _ h12 ⟨rfl,hh⟩
  have g13:Ext h11 h12:=push_ext hh
  have m14:h12[h11.size]? =some (.cells (hcs [leafH (ck b k)]).toArray 39):=push_at hh
  clear hh
  replace e0:=e0.ext g10
  have hlo:=e0.size
  replace sep:=sep.up g10.size
  have sepo:=sep
  replace sep:=sep.up g13.size
  replace sep:=sepo.new hlo (blk_lt m14)
  clear sepo hlo
  replace own_o:=(own_o.ext g10).ext g13
  refine tP 7 (k+1) 32 (hcs (lch b k++[leafH (ck b k)])) own_o (hrow1 (leaf_len _) m14) (ones_hcs _) (fun ad15 cap16 h17 own_o g18 hb19=> ?_) (ys:=(hcs ([leafH (ck b k)]))) (hZ:=by first|rfl|exact(hcs_append _ _).symm |simp[hcs_append])
  replace g0:=(g0.ext g10).ext g13
  have hop_n:=grown hop_o hb19 g0.1
  replace e0:=e0.ext g13
  replace g0:=g0.grew g18 (hop_ge hop_o)
  replace rc:=(rc.ext g10).ext g13
  replace rc:=rc.grew g18 (fun j e=> .inl (hop_ge hop_o j e))
  have s20:=sep
  replace sep:=sep.sa g18 1 hb19 own_o e0.size;clear hb19
  replace hop_o:=hop_n;clear hop_n
  refine sE [(4,.slice ad15 (k+1) cap16)] fun a hF=> ?_
  refine bK ?_
  refine tK ?_
  refine rS hF ?_
  refine tA 1 k 1 ?_
  refine sE [(5,nV (k+1))] fun a hF=> ?_
  rw[lch_next] at own_o
  clear m14
  replace own_y:=((own_y.ext g10).ext g13).k g18 (s20.ap 2 1)
  replace e0:=e0.grew g18 (s20.l 1)
  replace sep:=sep.sub (l':=[ad15.map (·.block),(some ay).map (·.block)]) (.cons _ (.cons_cons _ (.cons_cons _ (.slnil))))
  show ∃m',m'<_∧_
  refine⟨_,?_,(k+1),ad15,cap16,rfl,e0,(by omega),g0,rc,hop_o,own_o,own_y,sep,hF.to⟩
  omega
 ·skip
  refine cX 0 (xT (xT (xB ?_)))
  refine tK ?_
  refine qP [(2,.slice ad k cap)] hF fun a hF=> ?_
  refine cR ?_
  refine rT 2 (.slice ad k cap) hF ?_
  obtain rfl:k=N:=by omega
  exact⟨ad,cap,by rw[lch_len],by rw[lch_len];exact own_o,sep.low 0 rfl,e0⟩
theorem rleaves7_n(h:Heap)(b:List UInt8)(n:Nat)(hbn:b.length =n)(va:Option Addr)(vc:Nat)(hr:Row h (.slice va n vc) n 1 (b.map bv))(hbl:n≤1099511627000)(N:Nat)(hN:nch n=N)(H:List Hs)(hH:lch b N=H):Sat Tryz.prog 113 #[.slice va n vc] h fun v h'=>∃ad cap,v= .slice ad H.length cap∧Own h' (.slice ad H.length cap) 39 H.length 32 (hcs H)∧(∀k,ad.map (fun(x:Addr)=>x.block)=some k→h.size ≤k)∧Ext h h':=by
 have:=rleaves7_sat h b n hbn va vc hr hbl N hN
 unfold OwnNew at this
 rwa [hH] at this
theorem rincl_at(h:Heap)(L:List Hs)(va:Option Addr)(vc n:Nat)(hL:HR h va vc n L)(hn:n≤1099511627000)(m:Int)(p:List Hs)(e:Int)(hz:inclZ L m=(p,e)):Sat Tryz.prog 85 #[.slice va n vc,.int .i64 m] h fun v h'=>∃s,v= .tuple #[s,.int .i64 e]∧OwnNew h h' 39 s p:=by
 have:=rincl_sat h L va vc n hL hn m
 rw[hz] at this
 exact this
noncomputable def b79:Code:=Tryz.f79.body.getD .skip
theorem rroot7_sat(h:Heap)(b:List UInt8)(n:Nat)(hbn:b.length =n)(va:Option Addr)(vc:Nat)(hr:Row h (.slice va n vc) n 1 (b.map bv))(hbl:n≤1099511627000)(N:Nat)(hN:nch n=N):Sat Tryz.prog 79 #[.slice va n vc] h fun v h'=>v=hv (root (lch b N))∧Ext h h':=by
 have e0:=Ext.refl h
 have sep:Sep h.size h.size []:=Sep.nil _ _
 obtain⟨H,hH⟩:∃H,lch b N=H:=⟨_,rfl⟩
 have h32:All32 H:=hH▸lch_32 _ _
 have hHl:H.length =N:=by rw[←hH,lch_len]
 have hnl:N≤n:=hN▸nch_le n
 refine sat_in Tryz.func79 6 fun a hF=> ?_
 refine qS hF ?_
 refine tN 0 (pV h.size) ((z32.map bv).toArray) 39 fun h1 g2 m3=> ?_
 replace sep:=sep.nw e0.size m3
 refine sT [(2,pV h.size)] fun a hF=> ?_
 refine qS hF ?_
 replace e0:=e0.ext g2
 refine tG 1 (rleaves7_n _ b n hbn _ _ (hr.ext e0) hbl N hN H hH) ?_
 rintro _ h8 ⟨ad4,cap5,rfl,own_hl,hg7,g6⟩
 replace sep:=sep.co g6 hg7 own_hl e0.size
 refine tG 2 (rroot_sat _ H _ _ H.length (HR.of own_hl h32) (by omega)) ?_
 rintro _ h10 ⟨rfl,g9⟩
 replace m3:=(m3.x g6).x g9
 refine tF 3 (Does.store (b:=h.size) (off:=0) (vs:=(root H).map bv) (l:=z32.map bv) (storeOp_of (by kernel_rfl) (hlm (root_len h32))) m3 (hfit rfl (root_len h32)) (ones_map _)) ?_
 rintro _ h11 ⟨rfl,hh⟩
 have g12:Grew (some (h.size)) h10 h11:=hput_gr hh
 replace m3:h11[h.size]? =some (.cells ((root H).map bv).toArray 39):=hput_at (off:=0) (vs:=(root H).map bv) (l:=(z32.map bv)) hh (hsplice rfl (root_len h32)) m3
 clear hh
 refine sT [] fun a hF=> ?_
 refine cR ?_
 refine ret_ok [.cell 2 39] [.agg ((root H).map bv).toArray] (.agg ((root H).map bv).toArray) rfl hF ⟨⟨_,rfl,Loads.hash (by kernel_rfl) (root_len h32) m3⟩,trivial⟩ rfl ?_
 replace e0:=((e0.ext g6).ext g9).grew g12 (sep.l 1)
 exact⟨by rw[hH];rfl,e0⟩
end Go.Proofs.YtegkejcglfgpmaaGreatDoor
end
section
namespace Go.Proofs.YtegkejcglfgpmaaGreatDoor
open Go Go.Lane Go.Sha
theorem rroot_b(h:Heap)(b:List UInt8)(va:Option Addr)(vc:Nat)(hr:Row h (.slice va b.length vc) b.length 1 (b.map bv))(hbl:b.length ≤1099511627000):Sat Tryz.prog 79 #[.slice va b.length vc] h fun v h'=>v= .agg ((hl (rbh (rootB b))).map bv).toArray ∧Ext h h':=by
 rw[hl_rbh (rootB_len b)];exact rroot7_sat h b b.length rfl va vc hr hbl _ rfl
theorem rentry_q(h:Heap)(s:ByteArray)(n:Nat)(l:List UInt8)(y:RB)(hy:hl y=l)(hs:nameOk s=true)(hn:n≤512):Sat Tryz.prog 28 #[.string s,.int .i64 ((n:Nat):Int),.agg ((hl y).map bv).toArray] h fun v h'=>∃ad cap,v= .tuple #[.slice ad (entB s n l).length cap,.int .i64 0]∧Own h' (.slice ad (entB s n l).length cap) 5 (entB s n l).length 1 ((entB s n l).map bv)∧(∀k,ad.map (fun(x:Addr)=>x.block)=some k→h.size ≤k)∧Ext h h':=by
 subst hy;exact rentry_sat h s n (hl y) hs hn rfl
noncomputable def b38:Code:=Tryz.f38.body.getD .skip
set_option maxHeartbeats 1000000 in
theorem rput_sat {W:Nat→Prop}(h:Heap)(rb:Nat)(M:Md)(T:List RO)(oa:Option Addr)(oc:Nat)(ea:Option Addr)(ec:Nat)(es:List Value)(md:RModA W h rb M T oa oc ea ec es)(hW:∀k,W k→k<h.size)(s:ByteArray)(hsz:s.size ≤9223372036854775807)(b:List UInt8)(va:Option Addr)(vc:Nat)(hr:Row h (.slice va b.length vc) b.length 1 (b.map bv))(hE:M.E.length ≤1099511627):Sat Tryz.prog 38 #[.pointer (some ⟨rb,0,none⟩),.string s,.slice va b.length vc] h fun v h'=>v= .int .i64 (putM M s b).2 ∧RModW W h' rb (putM M s b).1 ∧RG rb h h':=by
 have hm:=md.hm
 have hbr:=blk_lt hm
 have hLn:=md.ln
 have e0:=Ext.refl h
 have sep:Sep h.size h.size []:=Sep.nil _ _
 refine sat_in Tryz.func38 86 fun a hF=> ?_
 refine qP [] hF fun a hF=> ?_
 refine cS ?_
 refine cS ?_
 rcases md.cases3 s with hok|⟨hok,hf,A,B,rfl,hA,hB⟩|⟨hok,A,x,B,rfl,hA,hs,hf⟩
 ·skip
  refine rS hF ?_
  refine tC 1 (.bool false) (Does.call (f:=27) (args:= #[.string s]) (by kernel_rfl) (rname_no _ s hsz hok)) ?_
  refine sE [(15,.bool true)] fun a hF=> ?_
  refine tK ?_
  refine cT 15 hF ?_
  refine qP [(6,.int .i64 210)] hF fun a hF=> ?_
  refine cR (yT ?_)
  refine rT 6 (.int .i64 210) hF ?_
  rw[putM_id hok];exact⟨rfl,⟨_,_,_,_,_,_,md.ext e0⟩,RG.ofExt e0⟩
 ·skip
  have hAB:(A++B).length =A.length +B.length :=List.length_append
  have hoc:=md.row.1.caple'
  refine rS hF ?_
  refine tC 1 (.bool true) (Does.call (f:=27) (args:= #[.string s]) (by kernel_rfl) (rname_yes _ s hok)) ?_
  refine sE [(15,.bool false)] fun a hF=> ?_
  refine tK ?_
  refine cF 15 hF ?_
  refine cN ?_
  refine tK ?_
  refine cS ?_
  refine cS ?_
  rcases Nat.lt_or_ge 512 b.length with hlo5|hlo5
  ·skip
   refine rS hF ?_
   refine tT 2 ((512:Int)<((b.length :Nat):Int)) ?_
   refine sE [(18,.bool true)] fun a hF=> ?_
   refine tK ?_
   refine cT 18 hF ?_
   refine qP [(6,.int .i64 5)] hF fun a hF=> ?_
   refine cR (yT ?_)
   refine rT 6 (.int .i64 5) hF ?_
   rw[putM_long hok hlo5];exact⟨rfl,⟨_,_,_,_,_,_,md.ext e0⟩,RG.ofExt e0⟩
  ·skip
   refine rS hF ?_
   refine tX 2 ((512:Int)<((b.length :Nat):Int)) ?_
   refine sE [(18,.bool false)] fun a hF=> ?_
   refine tK ?_
   refine cF 18 hF ?_
   refine cN ?_
   refine tK ?_
   refine qS hF ?_
   refine tC 2 (.tuple #[nV A.length,.bool false]) (Does.call (f:=78) (args:= #[pV rb,.string s]) (by kernel_rfl) (rat_sat _ rb M (A++B) oa oc ea ec es (md.ext e0) s A.length false (.no hA hB) hE)) ?_
   refine sT [(7,nV A.length),(8,.bool false)] fun a hF=> ?_
   refine cS ?_
   refine qP [(25,.bool false)] hF fun a hF=> ?_
   refine cF 25 hF ?_
   refine cN ?_
   refine tK ?_
   refine qS hF ?_
   refine tN 0 (.slice (some ⟨h.size,0,none⟩) 0 0) #[] 5 fun h1 g2 m3=> ?_
   replace sep:=sep.nw e0.size m3
   have own_v:Own h1 (.slice (some ⟨h.size,0,none⟩) 0 0) 5 ([]:List UInt8).length 1 (([]:List UInt8).map bv):=Own.empty 1 m3
   replace sep:Sep h.size h1.size [(some ⟨h.size,0,none⟩:Option Addr).map (·.block)]:=sep
   replace e0:=e0.ext g2
   clear m3
   refine tP 2 b.length 1 (b.map bv) own_v (hr.ext e0) (ones_map _) (fun ad4 cap5 h6 own_v g7 hb8=> ?_)
   have s9:=sep
   replace sep:=sep.sa g7 0 hb8 own_v e0.size;clear hb8
   refine sT [(2,.slice ad4 b.length cap5)] fun a hF=> ?_
   refine cS ?_
   refine C.mono (K:=fun e a hJ=>∃(bk10:Nat),e= .normal ∧(Ext h hJ)∧(Own hJ (.slice ad4 b.length cap5) 5 b.length 1 (b.map bv))∧(hJ[bk10]? =some (.cells (rc (rbo s ((b.length :Nat):Int) (rootB b) ((M.E.length :Nat):Int)) (0:Int) false false (.slice none 0 0)).toArray 95))∧(Sep h.size hJ.size [some bk10,ad4.map (·.block)])∧Fr a 86 [(0,.pointer (some ⟨rb,0,none⟩)),(1,.string s),(2,.slice ad4 b.length cap5),(7,.int .i64 ((A.length :Nat):Int)),(9,.pointer (some ⟨bk10,0,none⟩))]) ?_ ?_
   ·skip
    refine cD [0,0,2,0,8,0,32,96,224,480,1023,0,4095] 9 mixed hF ?_
    refine mP 239 [0,1,2,3,5,6,7] [.string s,.slice ad4 b.length cap5,nV b.length,.slice ad4 b.length cap5,pV rb,pV rb,.pointer (some ⟨rb,1,none⟩)] ?_
    replace e0:=e0.grew g7 (s9.l 0)
    refine mO 495 256 8 1 (.slice ea M.E.length ec) (e0.blk hm) ?_
    refine mP 1007 [9] [nV M.E.length] ?_
    refine SimK.effs (is:=[4,11]) (by kernel_rfl) (by simp) ?_
    intro q hq
    simp only[List.mem_cons,List.not_mem_nil,or_false] at hq
    rcases hq with rfl|rfl
    ·skip
     refine mFa 1023 24 4 [8] (Does.call (f:=79) (args:= #[.slice ad4 b.length cap5]) (by kernel_rfl) (rroot_b _ b _ _ own_v.row (by omega))) ?_
     rintro _ h13 ⟨rfl,g12⟩
     replace e0:=e0.ext g12
     refine⟨?_,?_⟩
     ·intro j hj
      simp only[List.mem_cons,List.not_mem_nil,or_false] at hj
      subst hj
      exact goodOf (Calm.load (T:=67) (p:=⟨rb,1,none⟩) (by kernel_rfl) (Loads.one (k:=1) (by kernel_rfl) ((hcell_blk (e0.blk hm)).trans rfl)))
     refine mP 2047 [10] [.agg (rc (rbo s ((b.length :Nat):Int) (rootB b) ((M.E.length :Nat):Int)) (0:Int) false false (.slice none 0 0)).toArray] ?_
     refine mFp 4095 2072 11 [8] (Does.new (v:= .pointer (some ⟨h13.size,0,none⟩)) (o:= .cells (rc rb0 (0:Int) false false (.slice none 0 0)).toArray 95) (by kernel_rfl)) ?_
     rintro _ h14 ⟨rfl,hh⟩
     have g15:Ext h13 h14:=push_ext hh
     have m16:h14[h13.size]? =some (.cells (rc rb0 (0:Int) false false (.slice none 0 0)).toArray 95):=push_at hh
     clear hh
     replace sep:=(sep.up g12.size).nw e0.size m16
     replace e0:=e0.ext g15
     refine⟨?_,?_⟩
     ·intro j hj
      simp only[List.mem_cons,List.not_mem_nil,or_false] at hj
      subst hj
      exact goodOf (Calm.load (T:=67) (p:=⟨rb,1,none⟩) (by kernel_rfl) (Loads.one (k:=1) (by kernel_rfl) ((hcell_blk (e0.blk hm)).trans rfl)))
     refine mV 8191 8191 12 0 (rc (rbo s ((b.length :Nat):Int) (rootB b) ((M.E.length :Nat):Int)) (0:Int) false false (.slice none 0 0)) (rc (rbo s ((b.length :Nat):Int) (rootB b) ((M.E.length :Nat):Int)) (0:Int) false false (.slice none 0 0)) m16 fun h17 g18 zq=> ?_
     replace m16:=zq
     refine mE [(9,pV h13.size)] fun a hF=> ?_
     replace sep:=sep.up g18.size
     have sepj:=sep.pick (l':=[some h13.size,ad4.map (·.block)]) [0,1] rfl (by decide)
     replace own_v:=((own_v.ext g12).ext g15).k g18 (sep.ap 1 0)
     replace e0:=e0.grew g18 (sep.l 0)
     exact⟨h13.size,rfl,e0,own_v,m16,sepj,hF.to⟩
    ·skip
     refine mFa 3055 2048 11 [8] (Does.new (v:= .pointer (some ⟨h6.size,0,none⟩)) (o:= .cells (rc rb0 (0:Int) false false (.slice none 0 0)).toArray 95) (by kernel_rfl)) ?_
     rintro _ h19 ⟨rfl,hh⟩
     have g20:Ext h6 h19:=push_ext hh
     have m21:h19[h6.size]? =some (.cells (rc rb0 (0:Int) false false (.slice none 0 0)).toArray 95):=push_at hh
     clear hh
     replace sep:=sep.nw e0.size m21
     replace e0:=e0.ext g20
     refine⟨?_,?_⟩
     ·intro j hj
      simp only[List.mem_cons,List.not_mem_nil,or_false] at hj
      subst hj
      exact goodOf (Calm.load (T:=67) (p:=⟨rb,1,none⟩) (by kernel_rfl) (Loads.one (k:=1) (by kernel_rfl) ((hcell_blk (e0.blk hm)).trans rfl)))
     replace own_v:=own_v.ext g20
     refine mFp 3071 2072 4 [8] (Does.call (f:=79) (args:= #[.slice ad4 b.length cap5]) (by kernel_rfl) (rroot_b _ b _ _ own_v.row (by omega))) ?_
     rintro _ h23 ⟨rfl,g22⟩
     replace e0:=e0.ext g22
     refine⟨?_,?_⟩
     ·intro j hj
      simp only[List.mem_cons,List.not_mem_nil,or_false] at hj
      subst hj
      exact goodOf (Calm.load (T:=67) (p:=⟨rb,1,none⟩) (by kernel_rfl) (Loads.one (k:=1) (by kernel_rfl) ((hcell_blk (e0.blk hm)).trans rfl)))
     refine mP 4095 [10] [.agg (rc (rbo s ((b.length :Nat):Int) (rootB b) ((M.E.length :Nat):Int)) (0:Int) false false (.slice none 0 0)).toArray] ?_
     replace m21:=m21.x g22
     refine mV 8191 8191 12 0 (rc (rbo s ((b.length :Nat):Int) (rootB b) ((M.E.length :Nat):Int)) (0:Int) false false (.slice none 0 0)) (rc (rbo s ((b.length :Nat):Int) (rootB b) ((M.E.length :Nat):Int)) (0:Int) false false (.slice none 0 0)) m21 fun h24 g25 zq=> ?_
     replace m21:=zq
     refine mE [(9,pV h6.size)] fun a hF=> ?_
     replace sep:=(sep.up g22.size).up g25.size
     have sepj:=sep.pick (l':=[some h6.size,ad4.map (·.block)]) [0,1] rfl (by decide)
     replace own_v:=(own_v.ext g22).k g25 (sep.ap 1 0)
     replace e0:=e0.grew g25 (sep.l 0)
     exact⟨h6.size,rfl,e0,own_v,m21,sepj,hF.to⟩
   ·skip
    clear hF a e0 own_v sep
    rintro e a h26 ⟨bk10,rfl,e0,own_v,mk11,sep,hF⟩
    refine tK ?_
    refine qS hF ?_
    refine tN 0 (.slice (some ⟨h26.size,0,none⟩) 0 0) #[] 97 fun h27 g28 m29=> ?_
    replace sep:=sep.nw e0.size m29
    have own_l:Own h27 (.slice (some ⟨h26.size,0,none⟩) 0 0) 97 ([]:List RO).length 40 (rorow []):=Own.empty 40 m29
    replace sep:Sep h.size h27.size [(some ⟨h26.size,0,none⟩:Option Addr).map (·.block),some bk10,ad4.map (·.block)]:=sep
    replace e0:=e0.ext g28
    replace own_v:=own_v.ext g28
    replace mk11:=mk11.x g28
    clear m29
    refine tO 4 0 (e0.blk hm) ?_
    refine tC 6 (.slice oa A.length oc) ((fun h=>Calm.sliceO (a:=oa) (len:=((A++B).length)) (cap:=oc) (sz:=40) (x:=oa) 0 A.length oc A.length oc (by kernel_rfl) (.inl ⟨rfl,rfl⟩) (.inr rfl) (.inl ⟨rfl,rfl⟩) (by omega) (by omega) adz (by first|rfl|omega) (by first|rfl|omega) h) _) ?_
    refine tP 7 A.length 128 (rorow A) own_l ((md.row.1.ext e0).takeO) (rorow_one _) (fun ad30 cap31 h32 own_l g33 hb34=> ?_) (hZ:=by first|rfl|exact List.flatMap_append.symm |simp[rorow])
    have s35:=sep
    replace sep:=sep.sa g33 0 hb34 own_l e0.size;clear hb34
    refine sT [(10,.slice ad30 A.length cap31)] fun a hF=> ?_
    refine qS hF ?_
    replace mk11:=mk11.y g33 (s35.bp 1 0)
    refine tR 1 mk11 ?_
    refine tN 4 (.slice (some ⟨h32.size,0,none⟩) 1 1) ((obx (rbo s ((b.length :Nat):Int) (rootB b) ((M.E.length :Nat):Int)) (0:Int) false false (.slice none 0 0) (.slice ad4 b.length cap5)).toArray) 97 fun h36 g37 m38=> ?_
    replace e0:=e0.grew g33 (s35.l 0)
    replace sep:=sep.nw e0.size m38
    replace own_l:=own_l.ext g37
    refine tP 5 (A.length +1) 128 (rorow (A++[ry s b M.E.length ad4 cap5])) own_l (Row.one40 (x:=ry s b M.E.length ad4 cap5) m38) (rorow_one _) (fun ad39 cap40 h41 own_l g42 hb43=> ?_) (ys:=(rorow ([ry s b M.E.length ad4 cap5]))) (hZ:=by first|rfl|exact List.flatMap_append.symm |simp[rorow])
    replace e0:=e0.ext g37
    have s44:=sep
    replace sep:=sep.sa g42 1 hb43 own_l e0.size;clear hb43
    refine sT [(10,.slice ad39 (A.length +1) cap40)] fun a hF=> ?_
    refine qS hF ?_
    replace e0:=e0.grew g42 (s44.l 1)
    refine tO 5 0 (e0.blk hm) ?_
    obtain⟨xd,hxd⟩:∃x,x=(if oc=A.length then oa else oa.map (·.add (A.length *40))):=⟨_,rfl⟩
    refine tC 7 (.slice xd ((A++B).length - A.length) (oc - A.length)) ((fun h=>Calm.sliceO (a:=oa) (len:=((A++B).length)) (cap:=oc) (sz:=40) (x:=xd) A.length ((A++B).length) oc ((A++B).length - A.length) (oc - A.length) (by kernel_rfl) (.inl ⟨rfl,rfl⟩) (.inl ⟨rfl,rfl⟩) (.inr rfl) (by omega) (by omega) hxd (by first|rfl|omega) (by first|rfl|omega) h) _) ?_
    refine tP 8 ((A++ry s b M.E.length ad4 cap5::B).length) 128 (rorow (A++ry s b M.E.length ad4 cap5::B)) own_l ((md.row.1.ext e0).dropO hxd) (rorow_one _) (fun ad45 cap46 h47 own_l g48 hb49=> ?_) (hZ:=by first|rfl|exact List.flatMap_append.symm |simp[rorow])
    have s50:=sep
    replace sep:=sep.sa g48 1 hb49 own_l e0.size;clear hb49
    replace own_v:=(((own_v.k g33 (s35.ap 2 0)).ext g37).k g42 (s44.ap 3 1)).k g48 (s50.ap 3 1)
    replace mk11:=((mk11.x g37).y g42 (s44.bp 2 1)).y g48 (s50.bp 2 1)
    replace m38:=(m38.y g42 (s44.bp 0 1)).y g48 (s50.bp 0 1)
    replace e0:=e0.grew g48 (s50.l 1)
    refine tW 11 0 [.slice ad45 ((A++ry s b M.E.length ad4 cap5::B).length) cap46] [.slice oa ((A++B).length) oc,.slice ea M.E.length ec,.int .i64 M.t] [.slice ad45 ((A++ry s b M.E.length ad4 cap5::B).length) cap46,.slice ea M.E.length ec,.int .i64 M.t] (e0.blk hm) (fun h51 gm hmD=> ?_)
    have hlo8:=e0.size
    have gk:RG rb h h51:=RG.one e0 gm
    replace own_v:=own_v.kept gm (by rw[blkOf_slice];right;intro e;have:=sep.low 3 rfl _ e;omega)
    replace own_l:=own_l.kept gm (by rw[blkOf_slice];right;intro e;have:=sep.low 1 rfl _ e;omega)
    replace mk11:=gm.blk mk11 (fun e=>by have:=sep.low 2 rfl _ rfl;cases e;omega)
    replace m38:=gm.blk m38 (fun e=>by have:=sep.low 0 rfl _ rfl;cases e;omega)
    replace sep:=sep.up gm.1
    clear hlo8
    have hm2:=hmD;clear hmD gm
    refine sT [] fun a hF=> ?_
    refine qS hF ?_
    refine tO 2 1 mk11 ?_
    refine tQ 4 2 ((hl (rbo s ((b.length :Nat):Int) (rootB b) ((M.E.length :Nat):Int))).map bv) mk11 ?_
    refine tG 5 (rentry_q _ s b.length (rootB b) (rbo s ((b.length :Nat):Int) (rootB b) ((M.E.length :Nat):Int)) (hl_rbo (rootB_len b)) hok (by omega)) ?_
    rintro _ h56 ⟨ad52,cap53,rfl,own_x,hg55,g54⟩
    replace sep:=sep.co g54 hg55 own_x gk.1
    refine sT [(11,.slice ad52 ((entB s b.length (rootB b)).length) cap53)] fun a hF=> ?_
    refine qS hF ?_
    refine tN 1 (.slice (some ⟨h56.size,0,none⟩) 0 0) #[] 32 fun h57 g58 m59=> ?_
    replace gk:=gk.ext g54
    replace sep:=sep.nw gk.1 m59
    have own_n:Own h57 (.slice (some ⟨h56.size,0,none⟩) 0 0) 32 ([]:List Value).length 1 ([]:List Value):=Own.empty 1 m59
    replace sep:Sep h.size h57.size [(some ⟨h56.size,0,none⟩:Option Addr).map (·.block),ad52.map (·.block),some (h32.size),ad45.map (·.block),some bk10,ad4.map (·.block)]:=sep
    replace own_v:=(own_v.ext g54).ext g58
    replace own_l:=(own_l.ext g54).ext g58
    replace hm2:=g58.blk (g54.blk hm2)
    replace mk11:=(mk11.x g54).x g58
    replace m38:=(m38.x g54).x g58
    replace gk:=gk.ext g58
    replace own_x:=own_x.ext g58
    clear m59
    refine tO 5 1 hm2 ?_
    refine tP 6 (0+M.E.length) 24 es own_n ((md.erG gk).1.1) (ents_one md.en) (fun ad60 cap61 h62 own_n g63 hb64=> ?_) (ys:=es)
    have s65:=sep
    replace sep:=sep.sa g63 0 hb64 own_n gk.1;clear hb64
    refine tN 8 (.slice (some ⟨h62.size,0,none⟩) 1 1) #[.slice ad52 ((entB s b.length (rootB b)).length) cap53] 32 fun h66 g67 m68=> ?_
    replace gk:=gk.thenO g63 (fun i e=> .inr (by have:=s65.low 0 rfl i e;omega))
    replace sep:=sep.nw gk.1 m68
    replace own_n:=own_n.ext g67
    refine tP 9 (M.E.length +1) 24 (es++[.slice ad52 ((entB s b.length (rootB b)).length) cap53]) own_n (Row.blk (n:=1) (sz:=1) (l:=[.slice ad52 ((entB s b.length (rootB b)).length) cap53]) m68 rfl) (List.all_eq_true.1 (by rfl)) (fun ad69 cap70 h71 own_n g72 hb73=> ?_)
    replace gk:=gk.ext g67
    have s74:=sep
    replace sep:=sep.sa g72 1 hb73 own_n gk.1;clear hb73
    replace own_v:=((own_v.k g63 (s65.ap 5 0)).ext g67).k g72 (s74.ap 6 1)
    replace own_l:=((own_l.k g63 (s65.ap 3 0)).ext g67).k g72 (s74.ap 4 1)
    replace hm2:=g72.blk (g67.blk (g63.blk hm2 (fun e=>by have:=s65.low 0 rfl _ e.symm;omega))) (fun e=>by have:=s74.low 1 rfl _ e.symm;omega)
    replace own_x:=((own_x.k g63 (s65.ap 1 0)).ext g67).k g72 (s74.ap 2 1)
    replace mk11:=((mk11.y g63 (s65.bp 4 0)).x g67).y g72 (s74.bp 5 1)
    replace m38:=((m38.y g63 (s65.bp 2 0)).x g67).y g72 (s74.bp 3 1)
    replace gk:=gk.thenO g72 (fun i e=> .inr (by have:=s74.low 1 rfl i e;omega))
    replace m68:=m68.y g72 (s74.bp 0 1)
    refine tW 12 1 [.slice ad69 (M.E.length +1) cap70] [.slice ad45 ((A++ry s b M.E.length ad4 cap5::B).length) cap46,.slice ea M.E.length ec,.int .i64 M.t] [.slice ad45 ((A++ry s b M.E.length ad4 cap5::B).length) cap46,.slice ad69 (M.E.length +1) cap70,.int .i64 M.t] hm2 (fun h75 gm hmD=> ?_)
    have hlo8:=gk.1
    replace gk:RG rb h h75:=RG.again gk gm
    replace own_v:=own_v.kept gm (by rw[blkOf_slice];right;intro e;have:=sep.low 6 rfl _ e;omega)
    replace own_l:=own_l.kept gm (by rw[blkOf_slice];right;intro e;have:=sep.low 4 rfl _ e;omega)
    replace own_x:=own_x.kept gm (by rw[blkOf_slice];right;intro e;have:=sep.low 2 rfl _ e;omega)
    replace own_n:=own_n.kept gm (by rw[blkOf_slice];right;intro e;have:=sep.low 1 rfl _ e;omega)
    replace mk11:=gm.blk mk11 (fun e=>by have:=sep.low 5 rfl _ rfl;cases e;omega)
    replace m38:=gm.blk m38 (fun e=>by have:=sep.low 3 rfl _ rfl;cases e;omega)
    replace m68:=gm.blk m68 (fun e=>by have:=sep.low 0 rfl _ rfl;cases e;omega)
    replace sep:=sep.up gm.1
    clear hlo8
    clear hm2;have hm2:=hmD;clear hmD gm
    refine sT [] fun a hF=> ?_
    refine qP [(6,.int .i64 0)] hF fun a hF=> ?_
    refine cR ?_
    refine rT 6 (.int .i64 0) hF ?_
    have hel:=entB_len s b.length (rootB_len b)
    have hsl:=name_le hok
    rw[putM_ok hok hlo5 hf];exact⟨rfl,md.put (y:=ry s b M.E.length ad4 cap5) hA hB rfl hlo5 rfl gk hm2 (RowT.of own_l) (Row.nil _ 4) (RowW.new own_v (by decide) hW (sep.low 6 rfl)) (RowW.new own_n (by decide) hW (sep.low 1 rfl)) (by omega) (RowW.new own_x (by decide) hW (sep.low 2 rfl)),gk⟩
 ·skip
  refine rS hF ?_
  refine tC 1 (.bool true) (Does.call (f:=27) (args:= #[.string s]) (by kernel_rfl) (rname_yes _ s hok)) ?_
  refine sE [(15,.bool false)] fun a hF=> ?_
  refine tK ?_
  refine cF 15 hF ?_
  refine cN ?_
  refine tK ?_
  refine cS ?_
  refine cS ?_
  rcases Nat.lt_or_ge 512 b.length with hlo5|hlo5
  ·skip
   refine rS hF ?_
   refine tT 2 ((512:Int)<((b.length :Nat):Int)) ?_
   refine sE [(18,.bool true)] fun a hF=> ?_
   refine tK ?_
   refine cT 18 hF ?_
   refine qP [(6,.int .i64 5)] hF fun a hF=> ?_
   refine cR (yT ?_)
   refine rT 6 (.int .i64 5) hF ?_
   rw[putM_long hok hlo5];exact⟨rfl,⟨_,_,_,_,_,_,md.ext e0⟩,RG.ofExt e0⟩
  ·skip
   refine rS hF ?_
   refine tX 2 ((512:Int)<((b.length :Nat):Int)) ?_
   refine sE [(18,.bool false)] fun a hF=> ?_
   refine tK ?_
   refine cF 18 hF ?_
   refine cN ?_
   refine tK ?_
   refine qS hF ?_
   refine tC 2 (.tuple #[nV A.length,.bool true]) (Does.call (f:=78) (args:= #[pV rb,.string s]) (by kernel_rfl) (rat_sat _ rb M (A++x::B) oa oc ea ec es (md.ext e0) s A.length true (.yes hA hs) hE)) ?_
   refine sT [(7,nV A.length),(8,.bool true)] fun a hF=> ?_
   refine cS ?_
   refine qP [(25,.bool true)] hF fun a hF=> ?_
   refine cT 25 hF ?_
   refine qP [(6,.int .i64 212)] hF fun a hF=> ?_
   refine cR (yT ?_)
   refine rT 6 (.int .i64 212) hF ?_
   rw[putM_twice hok hlo5 hf];exact⟨rfl,⟨_,_,_,_,_,_,md.ext e0⟩,RG.ofExt e0⟩
end Go.Proofs.YtegkejcglfgpmaaGreatDoor
end
section
namespace Go.Proofs.YtegkejcglfgpmaaGreatDoor
open Go Go.Lane Go.Sha
noncomputable def b41:Code:=Tryz.f41.body.getD .skip
set_option maxHeartbeats 2000000 in
theorem rdue_sat(h:Heap)(L:List Rec)(va:Option Addr)(vc:Nat)(now:Int)(hr:Row h (.slice va L.length vc) L.length 39 (rrow L))(hL:L.length ≤1099511627):Sat Tryz.prog 41 #[.slice va L.length vc,.int .i64 now] h fun v h'=>∃(M:List Rec) (ad:Option Addr) (cap:Nat),M.Perm (L.filter (dueB now))∧M.Pairwise leR∧v= .slice ad M.length cap∧Own h' (.slice ad M.length cap) 9 M.length 1 ((ids M).map Value.string)∧(∀k,ad.map (fun(x:Addr)=>x.block)=some k→h.size ≤k)∧Ext h h':=by
 have e0:=Ext.refl h
 have sep:Sep h.size h.size []:=Sep.nil _ _
 refine sat_in Tryz.func41 114 fun a hF=> ?_
 refine qP [] hF fun a hF=> ?_
 refine qS hF ?_
 refine tN 0 (.slice (some ⟨h.size,0,none⟩) 0 0) #[] 95 fun h1 g2 m3=> ?_
 replace sep:=sep.nw e0.size m3
 have own_o:Own h1 (.slice (some ⟨h.size,0,none⟩) 0 0) 95 ([]:List Rec).length 39 (rrow []):=Own.empty 39 m3
 replace sep:Sep h.size h1.size [(some ⟨h.size,0,none⟩:Option Addr).map (·.block)]:=sep
 replace e0:=e0.ext g2
 clear m3
 refine sT [(5,.slice (some ⟨h.size,0,none⟩) 0 0)] fun a hF=> ?_
 refine cS ?_
 refine qP [(6,.int .i64 0)] hF fun a hF=> ?_
 refine cB 0 ?_
 refine cL (fun m a h'=>∃i:Nat,∃D:List Rec,∃ad:Option Addr,∃cap:Nat,m=L.length - i∧(Ext h h')∧(i≤L.length)∧((L.take i).filter (dueB now)=D)∧(Own h' (.slice ad D.length cap) 95 D.length 39 (rrow D))∧(Sep h.size h'.size [ad.map (·.block)])∧(Fr a 114 [(0,.slice va L.length vc),(1,.int .i64 now),(5,.slice ad D.length cap),(6,.int .i64 ((i:Nat):Int))])) (L.length - 0) ⟨0,[],(some ⟨h.size,0,none⟩),0,rfl,e0,(by omega),rfl,own_o,sep,hF.to⟩ ?_
 clear hF a
 clear e0
 clear own_o
 clear sep
 rintro m a h4 ⟨i,D,ad,cap,rfl,e0,hi,hD,own_o,sep,hF⟩
 refine cS ?_
 refine qP [(16,.bool (decide (((i:Nat):Int)<((L.length :Nat):Int))))] hF fun a hF=> ?_
 refine cJ 16 hF (fun hc5=> ?_) fun hc5=> ?_
 ·skip
  have hia:i<L.length :=by omega
  have hDl:=filt_le hD
  obtain⟨aa,rfl,hcap_aa⟩:=hr.someA (by omega)
  refine cN ?_
  refine tK ?_
  refine cS ?_
  refine cB 1 ?_
  refine cS ?_
  rcases Bool.eq_false_or_eq_true (L.getD i rec0).go with hgo|hgo
  rotate_left 1
  rcases Bool.eq_false_or_eq_true (L.getD i rec0).ho with hho|hho
  rotate_left 1
  rcases Int.lt_or_le 0 (L.getD i rec0).e with hpos|hpos
  rcases Int.lt_or_le now (L.getD i rec0).e with hnow|hnow
  rotate_left 1
  ·skip
   have hD2:=tf_yes hia hD (dueB_iff.2 ⟨hpos,hgo,hho,hnow⟩)
   refine rS hF ?_
   refine tI 2 aa L.length 39 i (i*39) ?_
   refine t1 3 (.pointer (some (Addr.add aa ((i*39)+37)))) (.pointer (some ((Addr.add aa (i*39)).add 37))) (by rw[add_add]) ?_
   refine tC 4 (.bool false) (Calm.load (T:=4) (p:=(Addr.add aa ((i*39)+37))) (by kernel_rfl) (Loads.one (k:=1) (by kernel_rfl) ((Row.fld (i:=i) (j:=37) (u:= .bool ((L.getD i rec0).go)) (hr.ext e0) (by omega) rfl).trans (by rw[hgo])))) ?_
   refine tI 9 aa L.length 39 i (i*39) ?_
   refine t1 10 (.pointer (some (Addr.add aa ((i*39)+36)))) (.pointer (some ((Addr.add aa (i*39)).add 36))) (by rw[add_add]) ?_
   refine tC 11 (.bool false) (Calm.load (T:=4) (p:=(Addr.add aa ((i*39)+36))) (by kernel_rfl) (Loads.one (k:=1) (by kernel_rfl) ((Row.fld (i:=i) (j:=36) (u:= .bool ((L.getD i rec0).ho)) (hr.ext e0) (by omega) rfl).trans (by rw[hho])))) ?_
   refine tI 17 aa L.length 39 i (i*39) ?_
   refine t1 18 (.pointer (some (Addr.add aa ((i*39)+35)))) (.pointer (some ((Addr.add aa (i*39)).add 35))) (by rw[add_add]) ?_
   refine tC 19 (.int .i64 ((L.getD i rec0).e)) (Calm.load (T:=3) (p:=(Addr.add aa ((i*39)+35))) (by kernel_rfl) (Loads.one (k:=1) (by kernel_rfl) (Row.fld (i:=i) (j:=35) (u:= .int .i64 ((L.getD i rec0).e)) (hr.ext e0) (by omega) rfl))) ?_
   refine tT 20 ((0:Int)<((L.getD i rec0).e)) ?_
   refine tI 25 aa L.length 39 i (i*39) ?_
   refine t1 26 (.pointer (some (Addr.add aa ((i*39)+35)))) (.pointer (some ((Addr.add aa (i*39)).add 35))) (by rw[add_add]) ?_
   refine tC 27 (.int .i64 ((L.getD i rec0).e)) (Calm.load (T:=3) (p:=(Addr.add aa ((i*39)+35))) (by kernel_rfl) (Loads.one (k:=1) (by kernel_rfl) (Row.fld (i:=i) (j:=35) (u:= .int .i64 ((L.getD i rec0).e)) (hr.ext e0) (by omega) rfl))) ?_
   refine tT 29 (((L.getD i rec0).e)≤now) ?_
   refine sE [(49,.bool true)] fun a hF=> ?_
   refine tK ?_
   refine cT 49 hF ?_
   refine rS hF ?_
   refine tI 3 aa L.length 39 i (i*39) ?_
   refine tY 4 i rec0 rcs_len (hr.ext e0) ?_
   refine tN 5 (.slice (some ⟨h4.size,0,none⟩) 1 1) ((rrow [L.getD i rec0]).toArray) 95 fun h6 g7 m8=> ?_
   replace sep:=sep.nw e0.size m8
   replace own_o:=own_o.ext g7
   refine tP 6 ((D++[L.getD i rec0]).length) 104 (rrow (D++[L.getD i rec0])) own_o (Row.blk (n:=1) (sz:=39) (l:=rrow [L.getD i rec0]) m8 rfl) (rrow_one _) (fun ad9 cap10 h11 own_o g12 hb13=> ?_) (ys:=(rrow ([L.getD i rec0]))) (hZ:=by first|rfl|exact List.flatMap_append.symm |simp[rrow])
   replace e0:=e0.ext g7
   have s14:=sep
   replace sep:=sep.sa g12 1 hb13 own_o e0.size;clear hb13
   refine sE [(5,.slice ad9 ((D++[L.getD i rec0]).length) cap10)] fun a hF=> ?_
   refine bK ?_
   refine tK ?_
   refine rS hF ?_
   refine tA 1 i 1 ?_
   refine sE [(6,nV (i+1))] fun a hF=> ?_
   clear m8
   replace e0:=e0.grew g12 (s14.l 1)
   replace sep:=sep.sub (l':=[ad9.map (·.block)]) (.cons _ (.cons_cons _ (.slnil)))
   show ∃m',m'<_∧_
   refine⟨_,?_,(i+1),(D++[L.getD i rec0]),ad9,cap10,rfl,e0,(by omega),hD2,own_o,sep,hF.to⟩
   omega
  ·skip
   have hD2:=tf_no hia hD (now:=now) (dueB_early (by omega))
   refine rS hF ?_
   refine tI 2 aa L.length 39 i (i*39) ?_
   refine t1 3 (.pointer (some (Addr.add aa ((i*39)+37)))) (.pointer (some ((Addr.add aa (i*39)).add 37))) (by rw[add_add]) ?_
   refine tC 4 (.bool false) (Calm.load (T:=4) (p:=(Addr.add aa ((i*39)+37))) (by kernel_rfl) (Loads.one (k:=1) (by kernel_rfl) ((Row.fld (i:=i) (j:=37) (u:= .bool ((L.getD i rec0).go)) (hr.ext e0) (by omega) rfl).trans (by rw[hgo])))) ?_
   refine tI 9 aa L.length 39 i (i*39) ?_
   refine t1 10 (.pointer (some (Addr.add aa ((i*39)+36)))) (.pointer (some ((Addr.add aa (i*39)).add 36))) (by rw[add_add]) ?_
   refine tC 11 (.bool false) (Calm.load (T:=4) (p:=(Addr.add aa ((i*39)+36))) (by kernel_rfl) (Loads.one (k:=1) (by kernel_rfl) ((Row.fld (i:=i) (j:=36) (u:= .bool ((L.getD i rec0).ho)) (hr.ext e0) (by omega) rfl).trans (by rw[hho])))) ?_
   refine tI 17 aa L.length 39 i (i*39) ?_
   refine t1 18 (.pointer (some (Addr.add aa ((i*39)+35)))) (.pointer (some ((Addr.add aa (i*39)).add 35))) (by rw[add_add]) ?_
   refine tC 19 (.int .i64 ((L.getD i rec0).e)) (Calm.load (T:=3) (p:=(Addr.add aa ((i*39)+35))) (by kernel_rfl) (Loads.one (k:=1) (by kernel_rfl) (Row.fld (i:=i) (j:=35) (u:= .int .i64 ((L.getD i rec0).e)) (hr.ext e0) (by omega) rfl))) ?_
   refine tX 20 ((0:Int)<((L.getD i rec0).e)) ?_
   refine sE [(49,.bool false)] fun a hF=> ?_
   refine tK ?_
   refine cF 49 hF ?_
   refine cN ?_
   refine bK ?_
   refine tK ?_
   refine rS hF ?_
   refine tA 1 i 1 ?_
   refine sE [(6,nV (i+1))] fun a hF=> ?_
   replace sep:=sep.sub (l':=[ad.map (·.block)]) (.cons_cons _ (.slnil))
   show ∃m',m'<_∧_
   refine⟨_,?_,(i+1),D,ad,cap,rfl,e0,(by omega),hD2,own_o,sep,hF.to⟩
   omega
  ·skip
   have hD2:=tf_no hia hD (now:=now) (dueB_no (fun hb=>absurd (hgo.symm.trans hb.1) (by decide)))
   refine rS hF ?_
   refine tI 2 aa L.length 39 i (i*39) ?_
   refine t1 3 (.pointer (some (Addr.add aa ((i*39)+37)))) (.pointer (some ((Addr.add aa (i*39)).add 37))) (by rw[add_add]) ?_
   refine tC 4 (.bool true) (Calm.load (T:=4) (p:=(Addr.add aa ((i*39)+37))) (by kernel_rfl) (Loads.one (k:=1) (by kernel_rfl) ((Row.fld (i:=i) (j:=37) (u:= .bool ((L.getD i rec0).go)) (hr.ext e0) (by omega) rfl).trans (by rw[hgo])))) ?_
   refine sE [(49,.bool false)] fun a hF=> ?_
   refine tK ?_
   refine cF 49 hF ?_
   refine cN ?_
   refine bK ?_
   refine tK ?_
   refine rS hF ?_
   refine tA 1 i 1 ?_
   refine sE [(6,nV (i+1))] fun a hF=> ?_
   replace sep:=sep.sub (l':=[ad.map (·.block)]) (.cons_cons _ (.slnil))
   show ∃m',m'<_∧_
   refine⟨_,?_,(i+1),D,ad,cap,rfl,e0,(by omega),hD2,own_o,sep,hF.to⟩
   omega
  ·skip
   have hD2:=tf_no hia hD (now:=now) (dueB_no (fun hb=>absurd (hho.symm.trans hb.2.1) (by decide)))
   refine rS hF ?_
   refine tI 2 aa L.length 39 i (i*39) ?_
   refine t1 3 (.pointer (some (Addr.add aa ((i*39)+37)))) (.pointer (some ((Addr.add aa (i*39)).add 37))) (by rw[add_add]) ?_
   refine tC 4 (.bool false) (Calm.load (T:=4) (p:=(Addr.add aa ((i*39)+37))) (by kernel_rfl) (Loads.one (k:=1) (by kernel_rfl) ((Row.fld (i:=i) (j:=37) (u:= .bool ((L.getD i rec0).go)) (hr.ext e0) (by omega) rfl).trans (by rw[hgo])))) ?_
   refine tI 9 aa L.length 39 i (i*39) ?_
   refine t1 10 (.pointer (some (Addr.add aa ((i*39)+36)))) (.pointer (some ((Addr.add aa (i*39)).add 36))) (by rw[add_add]) ?_
   refine tC 11 (.bool true) (Calm.load (T:=4) (p:=(Addr.add aa ((i*39)+36))) (by kernel_rfl) (Loads.one (k:=1) (by kernel_rfl) ((Row.fld (i:=i) (j:=36) (u:= .bool ((L.getD i rec0).ho)) (hr.ext e0) (by omega) rfl).trans (by rw[hho])))) ?_
   refine sE [(49,.bool false)] fun a hF=> ?_
   refine tK ?_
   refine cF 49 hF ?_
   refine cN ?_
   refine bK ?_
   refine tK ?_
   refine rS hF ?_
   refine tA 1 i 1 ?_
   refine sE [(6,nV (i+1))] fun a hF=> ?_
   replace sep:=sep.sub (l':=[ad.map (·.block)]) (.cons_cons _ (.slnil))
   show ∃m',m'<_∧_
   refine⟨_,?_,(i+1),D,ad,cap,rfl,e0,(by omega),hD2,own_o,sep,hF.to⟩
   omega
  ·skip
   have hD2:=tf_no hia hD (now:=now) (dueB_no (fun hb=>by have:=hb.2.2;omega))
   refine rS hF ?_
   refine tI 2 aa L.length 39 i (i*39) ?_
   refine t1 3 (.pointer (some (Addr.add aa ((i*39)+37)))) (.pointer (some ((Addr.add aa (i*39)).add 37))) (by rw[add_add]) ?_
   refine tC 4 (.bool false) (Calm.load (T:=4) (p:=(Addr.add aa ((i*39)+37))) (by kernel_rfl) (Loads.one (k:=1) (by kernel_rfl) ((Row.fld (i:=i) (j:=37) (u:= .bool ((L.getD i rec0).go)) (hr.ext e0) (by omega) rfl).trans (by rw[hgo])))) ?_
   refine tI 9 aa L.length 39 i (i*39) ?_
   refine t1 10 (.pointer (some (Addr.add aa ((i*39)+36)))) (.pointer (some ((Addr.add aa (i*39)).add 36))) (by rw[add_add]) ?_
   refine tC 11 (.bool false) (Calm.load (T:=4) (p:=(Addr.add aa ((i*39)+36))) (by kernel_rfl) (Loads.one (k:=1) (by kernel_rfl) ((Row.fld (i:=i) (j:=36) (u:= .bool ((L.getD i rec0).ho)) (hr.ext e0) (by omega) rfl).trans (by rw[hho])))) ?_
   refine tI 17 aa L.length 39 i (i*39) ?_
   refine t1 18 (.pointer (some (Addr.add aa ((i*39)+35)))) (.pointer (some ((Addr.add aa (i*39)).add 35))) (by rw[add_add]) ?_
   refine tC 19 (.int .i64 ((L.getD i rec0).e)) (Calm.load (T:=3) (p:=(Addr.add aa ((i*39)+35))) (by kernel_rfl) (Loads.one (k:=1) (by kernel_rfl) (Row.fld (i:=i) (j:=35) (u:= .int .i64 ((L.getD i rec0).e)) (hr.ext e0) (by omega) rfl))) ?_
   refine tT 20 ((0:Int)<((L.getD i rec0).e)) ?_
   refine tI 25 aa L.length 39 i (i*39) ?_
   refine t1 26 (.pointer (some (Addr.add aa ((i*39)+35)))) (.pointer (some ((Addr.add aa (i*39)).add 35))) (by rw[add_add]) ?_
   refine tC 27 (.int .i64 ((L.getD i rec0).e)) (Calm.load (T:=3) (p:=(Addr.add aa ((i*39)+35))) (by kernel_rfl) (Loads.one (k:=1) (by kernel_rfl) (Row.fld (i:=i) (j:=35) (u:= .int .i64 ((L.getD i rec0).e)) (hr.ext e0) (by omega) rfl))) ?_
   refine tX 29 (((L.getD i rec0).e)≤now) ?_
   refine sE [(49,.bool false)] fun a hF=> ?_
   refine tK ?_
   refine cF 49 hF ?_
   refine cN ?_
   refine bK ?_
   refine tK ?_
   refine rS hF ?_
   refine tA 1 i 1 ?_
   refine sE [(6,nV (i+1))] fun a hF=> ?_
   replace sep:=sep.sub (l':=[ad.map (·.block)]) (.cons_cons _ (.slnil))
   show ∃m',m'<_∧_
   refine⟨_,?_,(i+1),D,ad,cap,rfl,e0,(by omega),hD2,own_o,sep,hF.to⟩
   omega
 ·skip
  obtain rfl:i=L.length :=by omega
  have hDl:=filt_le hD
  rw[List.take_length] at hD
  refine cX 0 (xT (xT (xB ?_)))
  refine tK ?_
  refine qS hF ?_
  refine tN 0 (.slice (some ⟨h4.size,0,none⟩) 0 0) #[] 9 fun h15 g16 m17=> ?_
  replace sep:=sep.nw e0.size m17
  have own_s:Own h15 (.slice (some ⟨h4.size,0,none⟩) 0 0) 9 ([]:List ByteArray).length 1 (([]:List ByteArray).map Value.string):=Own.empty 1 m17
  replace sep:Sep h.size h15.size [(some ⟨h4.size,0,none⟩:Option Addr).map (·.block),ad.map (·.block)]:=sep
  replace e0:=e0.ext g16
  replace own_o:=own_o.ext g16
  clear m17
  refine sT [(7,.slice (some ⟨h4.size,0,none⟩) 0 0)] fun a hF=> ?_
  refine cS ?_
  refine cB 2 ?_
  replace sep:=sep.pick (l':=[ad.map (·.block),(some ⟨h4.size,0,none⟩:Option Addr).map (·.block)]) [1,0] rfl (by decide)
  refine cL (fun m a h'=>∃U:List Rec,∃Q:List Rec,∃ad:Option Addr,∃cap:Nat,∃ad2:Option Addr,∃cap2:Nat,m=Q.length ∧(Ext h h')∧(Sel D U Q)∧(Own h' (.slice ad Q.length cap) 95 Q.length 39 (rrow Q))∧(Own h' (.slice ad2 U.length cap2) 9 U.length 1 ((ids U).map Value.string))∧(Sep h.size h'.size [ad.map (·.block),ad2.map (·.block)])∧(Fr a 114 [(5,.slice ad Q.length cap),(7,.slice ad2 U.length cap2)])) (D.length) ⟨[],D,ad,cap,(some ⟨h4.size,0,none⟩),0,rfl,e0,(Sel.start _),own_o,own_s,sep,hF.to⟩ ?_
  clear hF a
  clear e0
  clear own_o
  clear own_s
  clear sep
  rintro m a h18 ⟨U,Q,ad,cap,ad2,cap2,rfl,e0,hsel,own_o,own_s,sep,hF⟩
  have hsl:=hsel.len
  refine cS ?_
  refine qP [(60,.bool (decide ((0:Int)<((Q.length :Nat):Int))))] hF fun a hF=> ?_
  refine cJ 60 hF (fun hc19=> ?_) fun hc19=> ?_
  ·skip
   have hQ0:0<Q.length :=by omega
   obtain⟨ab,rfl,hcap_ab⟩:=own_o.someA (by omega)
   refine cN ?_
   refine tK ?_
   refine cB 3 ?_
   refine qP [(8,.int .i64 0)] hF fun a hF=> ?_
   refine cS ?_
   refine qP [(9,.int .i64 1)] hF fun a hF=> ?_
   refine cB 4 ?_
   refine cL (fun m a h'=>∃k:Nat,∃f:Nat,m=Q.length - k∧(Ext h h')∧(f<k∧k≤Q.length)∧(∀j,j<k→leR (Q.getD f rec0) (Q.getD j rec0))∧(Own h' (.slice (some ab) Q.length cap) 95 Q.length 39 (rrow Q))∧(Own h' (.slice ad2 U.length cap2) 9 U.length 1 ((ids U).map Value.string))∧(Sep h.size h'.size [(some ab:Option Addr).map (·.block),ad2.map (·.block)])∧(Fr a 114 [(5,.slice (some ab) Q.length cap),(7,.slice ad2 U.length cap2),(8,.int .i64 ((f:Nat):Int)),(9,.int .i64 ((k:Nat):Int))])) (Q.length - 1) ⟨1,0,rfl,e0,(by omega),(fun j hj=>by rw[show j=0 by omega];exact leR_self _),own_o,own_s,sep,hF.to⟩ ?_
   clear hF a
   clear e0
   clear own_o
   clear own_s
   clear sep
   rintro m a h20 ⟨k,f,rfl,e0,hfk,hmin,own_o,own_s,sep,hF⟩
   refine cS ?_
   refine qP [(64,.bool (decide (((k:Nat):Int)<((Q.length :Nat):Int))))] hF fun a hF=> ?_
   refine cJ 64 hF (fun hc21=> ?_) fun hc21=> ?_
   ·skip
    have hkQ:k<Q.length :=by omega
    refine cN ?_
    refine tK ?_
    refine cS ?_
    refine cB 5 ?_
    refine qS hF ?_
    refine tI 2 ab Q.length 39 k (k*39) ?_
    refine tY 3 k rec0 rcs_len (own_o.row) ?_
    refine tN 4 (pV h20.size) ((rc rb0 (0:Int) false false (.slice none 0 0)).toArray) 95 fun h22 g23 m24=> ?_
    replace sep:=sep.nw e0.size m24
    refine tV0 5 (rcs (Q.getD k rec0)) m24 fun h25 g26 zq=> ?_
    replace m24:=zq
    refine sT [(10,pV h20.size)] fun a hF=> ?_
    refine qS hF ?_
    refine tI 2 ab Q.length 39 f (f*39) ?_
    replace own_o:=(own_o.ext g23).k g26 (sep.ap 1 0)
    refine tY 3 f rec0 rcs_len (own_o.row) ?_
    refine tN 4 (pV h25.size) ((rc rb0 (0:Int) false false (.slice none 0 0)).toArray) 95 fun h27 g28 m29=> ?_
    replace e0:=(e0.ext g23).grew g26 (sep.l 0)
    replace sep:=(sep.up g26.size).nw e0.size m29
    refine tV0 5 (rcs (Q.getD f rec0)) m29 fun h30 g31 zq=> ?_
    replace m29:=zq
    refine sT [(11,pV h25.size)] fun a hF=> ?_
    refine cS ?_
    rcases Int.lt_or_le (Q.getD k rec0).e (Q.getD f rec0).e with hc|hc
    rotate_left 1
    rcases Int.lt_or_le (Q.getD f rec0).e (Q.getD k rec0).e with hd|hd
    rotate_left 1
    rcases Decidable.em (Lib.compareBytes (Q.getD k rec0).b.id.data.toList (Q.getD f rec0).b.id.data.toList <0) with hs|hs
    ·skip
     have hmin2:∀j,j<k+1→leR (Q.getD k rec0) (Q.getD j rec0):=fun j hj=>by
      rcases Nat.lt_or_ge j k with z|z
      ·exact leR_trans (leR_id (by omega) (by omega)) (hmin j z)
      ·rw[show j=k by omega];exact leR_self _
     refine rS hF ?_
     replace m24:=(m24.x g28).y g31 (sep.bp 1 0)
     refine tO 1 35 m24 ?_
     refine tO 3 35 m29 ?_
     refine tX 4 (((Q.getD k rec0).e)<((Q.getD f rec0).e)) ?_
     refine tO 7 35 m24 ?_
     refine tO 9 35 m29 ?_
     refine eT 10 ((Q.getD k rec0).e) ((Q.getD f rec0).e) ?_
     refine tO 13 0 m24 ?_
     refine tO 15 0 m29 ?_
     refine t1 16 (.bool true) (.bool (Op.bytesLess (((Q.getD k rec0).b).id).toList (((Q.getD f rec0).b).id).toList)) (congrArg Value.bool (str_lt hs)) ?_
     refine sE [(93,.bool true)] fun a hF=> ?_
     refine tK ?_
     refine cT 93 hF ?_
     refine rP [(8,nV k)] hF fun a hF=> ?_
     refine bK ?_
     refine tK ?_
     refine rS hF ?_
     refine tA 1 k 1 ?_
     refine sE [(9,nV (k+1))] fun a hF=> ?_
     clear m24
     clear m29
     replace own_s:=(((own_s.ext g23).k g26 (sep.ap 3 1)).ext g28).k g31 (sep.ap 3 0)
     replace e0:=(e0.ext g28).grew g31 (sep.l 0)
     replace own_o:=(own_o.ext g28).k g31 (sep.ap 2 0)
     replace sep:=sep.up g31.size
     replace sep:=sep.sub (l':=[(some ab:Option Addr).map (·.block),ad2.map (·.block)]) (.cons _ (.cons _ (.cons_cons _ (.cons_cons _ (.slnil)))))
     show ∃m',m'<_∧_
     refine⟨_,?_,(k+1),k,rfl,e0,(by omega),hmin2,own_o,own_s,sep,hF.to⟩
     omega
    ·skip
     have hmin2:∀j,j<k+1→leR (Q.getD f rec0) (Q.getD j rec0):=fun j hj=>by
      rcases Nat.lt_or_ge j k with z|z
      ·exact hmin j z
      ·rw[show j=k by omega];exact leR_id (by omega) (by rw[cb_neg];omega)
     refine rS hF ?_
     replace m24:=(m24.x g28).y g31 (sep.bp 1 0)
     refine tO 1 35 m24 ?_
     refine tO 3 35 m29 ?_
     refine tX 4 (((Q.getD k rec0).e)<((Q.getD f rec0).e)) ?_
     refine tO 7 35 m24 ?_
     refine tO 9 35 m29 ?_
     refine eT 10 ((Q.getD k rec0).e) ((Q.getD f rec0).e) ?_
     refine tO 13 0 m24 ?_
     refine tO 15 0 m29 ?_
     refine t1 16 (.bool false) (.bool (Op.bytesLess (((Q.getD k rec0).b).id).toList (((Q.getD f rec0).b).id).toList)) (congrArg Value.bool (str_nlt hs)) ?_
     refine sE [(93,.bool false)] fun a hF=> ?_
     refine tK ?_
     refine cF 93 hF ?_
     refine cN ?_
     refine bK ?_
     refine tK ?_
     refine rS hF ?_
     refine tA 1 k 1 ?_
     refine sE [(9,nV (k+1))] fun a hF=> ?_
     clear m24
     clear m29
     replace own_s:=(((own_s.ext g23).k g26 (sep.ap 3 1)).ext g28).k g31 (sep.ap 3 0)
     replace e0:=(e0.ext g28).grew g31 (sep.l 0)
     replace own_o:=(own_o.ext g28).k g31 (sep.ap 2 0)
     replace sep:=sep.up g31.size
     replace sep:=sep.sub (l':=[(some ab:Option Addr).map (·.block),ad2.map (·.block)]) (.cons _ (.cons _ (.cons_cons _ (.cons_cons _ (.slnil)))))
     show ∃m',m'<_∧_
     refine⟨_,?_,(k+1),f,rfl,e0,(by omega),hmin2,own_o,own_s,sep,hF.to⟩
     omega
    ·skip
     have hmin2:∀j,j<k+1→leR (Q.getD k rec0) (Q.getD j rec0):=fun j hj=>by
      rcases Nat.lt_or_ge j k with z|z
      ·exact leR_trans (leR_e hc) (hmin j z)
      ·rw[show j=k by omega];exact leR_self _
     refine rS hF ?_
     replace m24:=(m24.x g28).y g31 (sep.bp 1 0)
     refine tO 1 35 m24 ?_
     refine tO 3 35 m29 ?_
     refine tT 4 (((Q.getD k rec0).e)<((Q.getD f rec0).e)) ?_
     refine sE [(93,.bool true)] fun a hF=> ?_
     refine tK ?_
     refine cT 93 hF ?_
     refine rP [(8,nV k)] hF fun a hF=> ?_
     refine bK ?_
     refine tK ?_
     refine rS hF ?_
     refine tA 1 k 1 ?_
     refine sE [(9,nV (k+1))] fun a hF=> ?_
     clear m24
     clear m29
     replace own_s:=(((own_s.ext g23).k g26 (sep.ap 3 1)).ext g28).k g31 (sep.ap 3 0)
     replace e0:=(e0.ext g28).grew g31 (sep.l 0)
     replace own_o:=(own_o.ext g28).k g31 (sep.ap 2 0)
     replace sep:=sep.up g31.size
     replace sep:=sep.sub (l':=[(some ab:Option Addr).map (·.block),ad2.map (·.block)]) (.cons _ (.cons _ (.cons_cons _ (.cons_cons _ (.slnil)))))
     show ∃m',m'<_∧_
     refine⟨_,?_,(k+1),k,rfl,e0,(by omega),hmin2,own_o,own_s,sep,hF.to⟩
     omega
    ·skip
     have hmin2:∀j,j<k+1→leR (Q.getD f rec0) (Q.getD j rec0):=fun j hj=>by
      rcases Nat.lt_or_ge j k with z|z
      ·exact hmin j z
      ·rw[show j=k by omega];exact leR_e hd
     refine rS hF ?_
     replace m24:=(m24.x g28).y g31 (sep.bp 1 0)
     refine tO 1 35 m24 ?_
     refine tO 3 35 m29 ?_
     refine tX 4 (((Q.getD k rec0).e)<((Q.getD f rec0).e)) ?_
     refine tO 7 35 m24 ?_
     refine tO 9 35 m29 ?_
     refine eF 10 ((Q.getD k rec0).e) ((Q.getD f rec0).e) ?_
     refine sE [(93,.bool false)] fun a hF=> ?_
     refine tK ?_
     refine cF 93 hF ?_
     refine cN ?_
     refine bK ?_
     refine tK ?_
     refine rS hF ?_
     refine tA 1 k 1 ?_
     refine sE [(9,nV (k+1))] fun a hF=> ?_
     clear m24
     clear m29
     replace own_s:=(((own_s.ext g23).k g26 (sep.ap 3 1)).ext g28).k g31 (sep.ap 3 0)
     replace e0:=(e0.ext g28).grew g31 (sep.l 0)
     replace own_o:=(own_o.ext g28).k g31 (sep.ap 2 0)
     replace sep:=sep.up g31.size
     replace sep:=sep.sub (l':=[(some ab:Option Addr).map (·.block),ad2.map (·.block)]) (.cons _ (.cons _ (.cons_cons _ (.cons_cons _ (.slnil)))))
     show ∃m',m'<_∧_
     refine⟨_,?_,(k+1),f,rfl,e0,(by omega),hmin2,own_o,own_s,sep,hF.to⟩
     omega
   ·skip
    have hfQ:f<Q.length :=by omega
    have hmin3:∀j,j<Q.length →leR (Q.getD f rec0) (Q.getD j rec0):=fun j hj=>hmin j (by omega)
    refine cX 4 (xT (xT (xB ?_)))
    refine tK ?_
    refine qS hF ?_
    refine tI 3 ab Q.length 39 f (f*39) ?_
    refine t1 4 (.pointer (some (Addr.add ab (f*39)))) (.pointer (some ((Addr.add ab (f*39)).add 0))) (by rw[add_add,Nat.add_zero]) ?_
    refine tC 5 (.string (((Q.getD f rec0).b).id)) (Calm.load (T:=9) (p:=(Addr.add ab (f*39))) (by kernel_rfl) (Loads.one (k:=1) (by kernel_rfl) (Row.fld (i:=f) (j:=0) (u:= .string (((Q.getD f rec0).b).id)) (own_o.row) (by omega) rfl))) ?_
    refine tN 6 (.slice (some ⟨h20.size,0,none⟩) 1 1) #[.string (((Q.getD f rec0).b).id)] 9 fun h32 g33 m34=> ?_
    replace sep:=sep.nw e0.size m34
    replace own_s:=own_s.ext g33
    refine tP 7 ((U++[Q.getD f rec0]).length) 16 ((ids U++[((Q.getD f rec0).b).id]).map Value.string) own_s (Row.blk (n:=1) (sz:=1) (l:=[((Q.getD f rec0).b).id].map Value.string) m34 rfl) (ones_str _) (fun ad35 cap36 h37 own_s g38 hb39=> ?_) (ys:=(([((Q.getD f rec0).b).id]).map Value.string))
    replace e0:=e0.ext g33
    have s40:=sep
    replace sep:=sep.sa g38 2 hb39 own_s e0.size;clear hb39
    refine sT [(7,.slice ad35 ((U++[Q.getD f rec0]).length) cap36)] fun a hF=> ?_
    refine cD [0,0,0,6,15,0,0,64,224,511,1023] 18 mixed hF ?_
    refine mP 6 [1,2] [.slice (some ab) Q.length cap,nV f] ?_
    refine mF 14 3 (.slice (some ab) f cap) (fun h=>Calm.sliceO (a:=(some ab)) (len:=Q.length) (cap:=cap) (sz:=39) (x:=(some ab)) 0 f cap f cap (by kernel_rfl) (.inl ⟨rfl,rfl⟩) (.inr rfl) (.inl ⟨rfl,rfl⟩) (by omega) (by omega) (opt_add0 _ 39) (by first|rfl|omega) (by first|rfl|omega) h) ?_
    refine mP 110 [5,6] [.slice (some ab) Q.length cap,nV f] ?_
    refine mA 238 7 f 1 ?_
    obtain⟨xd,hxd⟩:∃x,x=if cap=f+1 then (some ab:Option Addr) else (some ab:Option Addr).map (·.add ((f+1)*39)):=⟨_,rfl⟩
    refine mF 494 8 (.slice xd (Q.length - (f+1)) (cap - (f+1))) (fun h=>Calm.sliceO (a:=(some ab)) (len:=Q.length) (cap:=cap) (sz:=39) (x:=xd) (f+1) Q.length cap (Q.length - (f+1)) (cap - (f+1)) (by kernel_rfl) (.inl ⟨rfl,rfl⟩) (.inl ⟨rfl,rfl⟩) (.inr rfl) (by omega) (by omega) hxd (by first|rfl|omega) (by first|rfl|omega) h) ?_
    refine mN 495 1 0 (.slice (some ⟨h37.size,0,none⟩) 0 0) #[] 95 fun h41 g42 m43=> ?_
    replace e0:=e0.grew g38 (s40.l 2)
    replace sep:=sep.nw e0.size m43
    have own_t:Own h41 (.slice (some ⟨h37.size,0,none⟩) 0 0) 95 ([]:List Rec).length 39 (rrow []):=Own.empty 39 m43
    replace sep:Sep h.size h41.size [(some ⟨h37.size,0,none⟩:Option Addr).map (·.block),some (h20.size),(some ab:Option Addr).map (·.block),ad35.map (·.block)]:=sep
    replace own_o:=((own_o.ext g33).k g38 (s40.ap 1 2)).ext g42
    replace m34:=(m34.y g38 (s40.bp 0 2)).x g42
    replace e0:=e0.ext g42
    replace own_s:=own_s.ext g42
    clear m43
    refine mP0 511 31 4 (0+f) 104 (rrow (Q.take f)) own_t (own_o.takeR (by omega)) (rrow_one _) (fun ad44 cap45 h46 own_t g47 hb48=> ?_) (ys:=(rrow (Q.take f))) (hZ:=by first|rfl|exact List.flatMap_append.symm |simp[rrow])
    have s49:=sep
    replace sep:=sep.sa g47 0 hb48 own_t e0.size;clear hb48
    replace own_o:=own_o.k g47 (s49.ap 2 0)
    refine mP0 1023 1023 9 ((Q.take f++Q.drop (f+1)).length) 104 (rrow (Q.take f++Q.drop (f+1))) own_t (own_o.dropR (by omega) hxd) (rrow_one _) (fun ad50 cap51 h52 own_t g53 hb54=> ?_) (ys:=(rrow (Q.drop (f+1)))) (hZ:=by first|rfl|exact List.flatMap_append.symm |simp[rrow])
    replace e0:=e0.grew g47 (s49.l 0)
    have s55:=sep
    replace sep:=sep.sa g53 0 hb54 own_t e0.size;clear hb54
    refine mP 2047 [10] [.slice ad50 ((Q.take f++Q.drop (f+1)).length) cap51] ?_
    refine mE [(5,.slice ad50 ((Q.take f++Q.drop (f+1)).length) cap51)] fun a hF=> ?_
    refine bK ?_
    replace own_s:=(own_s.k g47 (s49.ap 3 0)).k g53 (s55.ap 3 0)
    rw[ids_snoc] at own_s
    have hlen:=len_td hfQ
    clear m34
    replace e0:=e0.grew g53 (s55.l 0)
    replace own_o:=own_o.k g53 (s55.ap 2 0)
    replace sep:=sep.sub (l':=[ad50.map (·.block),ad35.map (·.block)]) (.cons_cons _ (.cons _ (.cons _ (.cons_cons _ (.slnil)))))
    show ∃m',m'<_∧_
    refine⟨_,?_,(U++[Q.getD f rec0]),(Q.take f++Q.drop (f+1)),ad50,cap51,ad35,cap36,rfl,e0,(hsel.step hfQ hmin3),own_t,own_s,sep,hF.to⟩
    omega
  ·skip
   refine cX 2 (xT (xT (xB ?_)))
   refine tK ?_
   refine qP [(4,.slice ad2 U.length cap2)] hF fun a hF=> ?_
   refine cR ?_
   refine rT 4 (.slice ad2 U.length cap2) hF ?_
   exact⟨U,ad2,cap2,by rw[hD];exact hsel.end (by omega),hsel.srt,rfl,own_s,sep.low 1 rfl,e0⟩
end Go.Proofs.YtegkejcglfgpmaaGreatDoor
end
section
namespace Go.Proofs.YtegkejcglfgpmaaGreatDoor
open Go Go.Lane Go.Sha
noncomputable def b114:Code:=Tryz.f114.body.getD .skip
theorem rcopied_sat(h:Heap)(x:RB)(e:Int)(ho go:Bool)(L:List Pl)(va:Option Addr)(vc:Nat)(hr:Row h (.slice va L.length vc) L.length 4 (prow L))(hL:L.length ≤1099511627776):Sat Tryz.prog 114 #[.agg (rc x e ho go (.slice va L.length vc)).toArray] h fun v h'=>∃c,v= .agg (rc x e ho go c).toArray ∧PNew h h' 180 c L:=by
 have e0:=Ext.refl h
 have sep:Sep h.size h.size []:=Sep.nil _ _
 refine sat_in Tryz.func114 9 fun a hF=> ?_
 refine qS hF ?_
 refine tN 0 (pV h.size) ((rc x e ho go (.slice va L.length vc)).toArray) 95 fun h1 g2 m3=> ?_
 replace sep:=sep.nw e0.size m3
 refine tN 1 (pV h1.size) ((rc rb0 (0:Int) false false (.slice none 0 0)).toArray) 95 fun h4 g5 m6=> ?_
 replace e0:=e0.ext g2
 replace sep:=sep.nw e0.size m6
 refine sT [(1,pV h.size),(2,pV h1.size)] fun a hF=> ?_
 refine qS hF ?_
 refine tN 0 (.slice (some ⟨h4.size,0,none⟩) 0 0) #[] 180 fun h7 g8 m9=> ?_
 replace e0:=e0.ext g5
 replace sep:=sep.nw e0.size m9
 have own_c:Own h7 (.slice (some ⟨h4.size,0,none⟩) 0 0) 180 ([]:List Pl).length 4 (prow []):=Own.empty 4 m9
 replace sep:Sep h.size h7.size [(some ⟨h4.size,0,none⟩:Option Addr).map (·.block),some (h1.size),some (h.size)]:=sep
 replace m3:=(m3.x g5).x g8
 replace e0:=e0.ext g8
 replace m6:=m6.x g8
 clear m9
 refine tO 2 38 m3 ?_
 refine tP 3 L.length 32 (prow L) own_c (hr.ext e0) (prow_one _) (fun ad10 cap11 h12 own_c g13 hb14=> ?_) (hl:=(by unfold maxLen;simp;omega)) (hb:=(by simp;omega)) (hZ:=by first|rfl|exact List.flatMap_append.symm |simp[prow])
 have s15:=sep
 replace sep:=sep.sa g13 0 hb14 own_c e0.size;clear hb14
 replace m3:=m3.y g13 (s15.bp 2 0)
 refine tV 5 38 [.slice ad10 L.length cap11] (rc x e ho go (.slice ad10 L.length cap11)) m3 fun h16 g17 zq=> ?_
 replace m3:=zq
 refine sT [] fun a hF=> ?_
 refine qS hF ?_
 refine tR 0 m3 ?_
 replace m6:=(m6.y g13 (s15.bp 1 0)).y g17 (sep.bp 1 2)
 refine tV0 1 (rc x e ho go (.slice ad10 L.length cap11)) m6 fun h18 g19 zq=> ?_
 replace m6:=zq
 refine sT [] fun a hF=> ?_
 refine cR ?_
 refine rB m6 hF ?_
 replace e0:=((e0.grew g13 (s15.l 0)).grew g17 (sep.l 2)).grew g19 (sep.l 1)
 replace own_c:=(own_c.k g17 (sep.ap 0 2)).k g19 (sep.ap 0 1)
 exact⟨_,rfl,⟨_,_,rfl,own_c,sep.low 0 rfl,e0⟩⟩
noncomputable def b81:Code:=Tryz.f81.body.getD .skip
theorem rlock_gone(h:Heap)(x:RB)(e:Int)(ho:Bool)(L:List Pl)(va:Option Addr)(vc:Nat)(u:Int)(hu0:0≤u)(hu:u≤1099511627776):Sat Tryz.prog 81 #[.agg (rc x e ho true (.slice va L.length vc)).toArray,.int .i64 u] h fun v h'=>v= .tuple #[.agg (rc rb0 (0:Int) false false (.slice none 0 0)).toArray,.int .i64 213]∧Ext h h':=by
 have e0:=Ext.refl h
 have sep:Sep h.size h.size []:=Sep.nil _ _
 refine sat_in Tryz.func81 25 fun a hF=> ?_
 refine qS hF ?_
 refine tN 0 (pV h.size) ((rc x e ho true (.slice va L.length vc)).toArray) 95 fun h1 g2 m3=> ?_
 replace sep:=sep.nw e0.size m3
 refine tN 1 (pV h1.size) ((rc rb0 (0:Int) false false (.slice none 0 0)).toArray) 95 fun h4 g5 m6=> ?_
 replace e0:=e0.ext g2
 replace sep:=sep.nw e0.size m6
 refine sT [(2,pV h.size),(4,pV h1.size)] fun a hF=> ?_
 refine cS ?_
 refine qS hF ?_
 refine tX 1 (u<(0:Int)) ?_
 refine tX 4 ((1099511627776:Int)<u) ?_
 refine sT [(11,.bool false)] fun a hF=> ?_
 refine cF 11 hF ?_
 refine cN ?_
 refine tK ?_
 refine cS ?_
 refine qS hF ?_
 replace m3:=m3.x g5
 refine tO 1 37 m3 ?_
 refine sT [(14,.bool true)] fun a hF=> ?_
 refine cT 14 hF ?_
 refine qS hF ?_
 refine tV0 1 (rc rb0 (0:Int) false false (.slice none 0 0)) m6 fun h7 g8 zq=> ?_
 replace m6:=zq
 refine sT [(5,.int .i64 213)] fun a hF=> ?_
 refine cR (yT ?_)
 refine ret_ok [.cell 4 95,.tmp 5] [.agg (rc rb0 (0:Int) false false (.slice none 0 0)).toArray,.int .i64 213] (.tuple #[.agg (rc rb0 (0:Int) false false (.slice none 0 0)).toArray,.int .i64 213]) rfl hF ⟨⟨_,rfl,Loads.blk (vs:=rc rb0 (0:Int) false false (.slice none 0 0)) (by kernel_rfl) m6 rfl⟩,rfl,trivial⟩ rfl ?_
 replace e0:=(e0.ext g5).grew g8 (sep.l 0)
 exact⟨rfl,e0⟩
theorem rlock_ok(h:Heap)(x:RB)(e:Int)(ho:Bool)(L:List Pl)(va:Option Addr)(vc:Nat)(hr:Row h (.slice va L.length vc) L.length 4 (prow L))(hL:L.length ≤1099511627776)(u:Int)(hu0:0≤u)(hu:u≤1099511627776):Sat Tryz.prog 81 #[.agg (rc x e ho false (.slice va L.length vc)).toArray,.int .i64 u] h fun v h'=>∃c,v= .tuple #[.agg (rc x (max e u) ho false c).toArray,.int .i64 0]∧PNew h h' 180 c L:=by
 have e0:=Ext.refl h
 have sep:Sep h.size h.size []:=Sep.nil _ _
 refine sat_in Tryz.func81 25 fun a hF=> ?_
 refine qS hF ?_
 refine tN 0 (pV h.size) ((rc x e ho false (.slice va L.length vc)).toArray) 95 fun h1 g2 m3=> ?_
 replace sep:=sep.nw e0.size m3
 refine tN 1 (pV h1.size) ((rc rb0 (0:Int) false false (.slice none 0 0)).toArray) 95 fun h4 g5 m6=> ?_
 replace e0:=e0.ext g2
 replace sep:=sep.nw e0.size m6
 refine sT [(2,pV h.size),(4,pV h1.size)] fun a hF=> ?_
 refine cS ?_
 refine qS hF ?_
 refine tX 1 (u<(0:Int)) ?_
 refine tX 4 ((1099511627776:Int)<u) ?_
 refine sT [(11,.bool false)] fun a hF=> ?_
 refine cF 11 hF ?_
 refine cN ?_
 refine tK ?_
 refine cS ?_
 refine qS hF ?_
 replace m3:=m3.x g5
 refine tO 1 37 m3 ?_
 refine sT [(14,.bool false)] fun a hF=> ?_
 refine cF 14 hF ?_
 refine cN ?_
 refine tK ?_
 refine qS hF ?_
 refine tR 0 m3 ?_
 replace e0:=e0.ext g5
 refine tG 1 (rcopied_sat _ x e ho false L va vc (hr.ext e0) hL) ?_
 rintro _ h9 ⟨_,rfl,ad7,cap8,rfl,ownx,hge,g⟩
 have hlo:=e0.size
 have sepo:=sep
 replace e0:=e0.ext g
 replace m3:=m3.x g
 replace m6:=m6.x g
 replace sep:=sep.up g.size
 replace sep:=sepo.cons (x:=ad7.map (fun(x:Addr)=>x.block)) g.size hlo (fun k e=>⟨hge k e,ownx.lt (by rw[blkOf_slice];exact e)⟩)
 have own_c:Own h9 (.slice ad7 L.length cap8) 180 L.length 4 (prow L):=ownx;clear ownx sepo hlo hge g
 refine tV0 2 (rc x e ho false (.slice ad7 L.length cap8)) m3 fun h10 g11 zq=> ?_
 replace m3:=zq
 refine sT [] fun a hF=> ?_
 refine cS ?_
 refine qS hF ?_
 refine tO 2 35 m3 ?_
 refine sT [(21,.bool (decide (e<u)))] fun a hF=> ?_
 refine cJ 21 hF (fun hc12=> ?_) fun hc12=> ?_
 ·skip
  refine rS hF ?_
  refine tV 2 35 [.int .i64 u] (rc x u ho false (.slice ad7 L.length cap8)) m3 fun h13 g14 zq=> ?_
  replace m3:=zq
  refine sE [] fun a hF=> ?_
  refine tK ?_
  refine qS hF ?_
  refine tR 0 m3 ?_
  replace m6:=(m6.y g11 (sep.bp 1 2)).y g14 (sep.bp 1 2)
  refine tV0 1 (rc x u ho false (.slice ad7 L.length cap8)) m6 fun h15 g16 zq=> ?_
  replace m6:=zq
  refine sT [(5,.int .i64 0)] fun a hF=> ?_
  refine cR ?_
  refine ret_ok [.cell 4 95,.tmp 5] [.agg (rc x u ho false (.slice ad7 L.length cap8)).toArray,.int .i64 0] (.tuple #[.agg (rc x u ho false (.slice ad7 L.length cap8)).toArray,.int .i64 0]) rfl hF ⟨⟨_,rfl,Loads.blk (vs:=rc x u ho false (.slice ad7 L.length cap8)) (by kernel_rfl) m6 rfl⟩,rfl,trivial⟩ rfl ?_
  replace e0:=((e0.grew g11 (sep.l 2)).grew g14 (sep.l 2)).grew g16 (sep.l 1)
  replace own_c:=((own_c.k g11 (sep.ap 0 2)).k g14 (sep.ap 0 2)).k g16 (sep.ap 0 1)
  exact⟨_,by rw[Int.max_eq_right (by omega)],⟨_,_,rfl,own_c,sep.low 0 rfl,e0⟩⟩
 ·skip
  refine cN ?_
  refine tK ?_
  refine qS hF ?_
  refine tR 0 m3 ?_
  replace m6:=m6.y g11 (sep.bp 1 2)
  refine tV0 1 (rc x e ho false (.slice ad7 L.length cap8)) m6 fun h17 g18 zq=> ?_
  replace m6:=zq
  refine sT [(5,.int .i64 0)] fun a hF=> ?_
  refine cR ?_
  refine ret_ok [.cell 4 95,.tmp 5] [.agg (rc x e ho false (.slice ad7 L.length cap8)).toArray,.int .i64 0] (.tuple #[.agg (rc x e ho false (.slice ad7 L.length cap8)).toArray,.int .i64 0]) rfl hF ⟨⟨_,rfl,Loads.blk (vs:=rc x e ho false (.slice ad7 L.length cap8)) (by kernel_rfl) m6 rfl⟩,rfl,trivial⟩ rfl ?_
  replace e0:=(e0.grew g11 (sep.l 2)).grew g18 (sep.l 1)
  replace own_c:=(own_c.k g11 (sep.ap 0 2)).k g18 (sep.ap 0 1)
  exact⟨_,by rw[Int.max_eq_left (by omega)],⟨_,_,rfl,own_c,sep.low 0 rfl,e0⟩⟩
noncomputable def b82:Code:=Tryz.f82.body.getD .skip
theorem rhold_gone(h:Heap)(x:RB)(e:Int)(ho:Bool)(L:List Pl)(va:Option Addr)(vc:Nat)(on:Bool):Sat Tryz.prog 82 #[.agg (rc x e ho true (.slice va L.length vc)).toArray,.bool on] h fun v h'=>v= .tuple #[.agg (rc rb0 (0:Int) false false (.slice none 0 0)).toArray,.int .i64 213]∧Ext h h':=by
 have e0:=Ext.refl h
 have sep:Sep h.size h.size []:=Sep.nil _ _
 refine sat_in Tryz.func82 14 fun a hF=> ?_
 refine qS hF ?_
 refine tN 0 (pV h.size) ((rc x e ho true (.slice va L.length vc)).toArray) 95 fun h1 g2 m3=> ?_
 replace sep:=sep.nw e0.size m3
 refine tN 1 (pV h1.size) ((rc rb0 (0:Int) false false (.slice none 0 0)).toArray) 95 fun h4 g5 m6=> ?_
 replace e0:=e0.ext g2
 replace sep:=sep.nw e0.size m6
 refine sT [(2,pV h.size),(4,pV h1.size)] fun a hF=> ?_
 refine cS ?_
 refine qS hF ?_
 replace m3:=m3.x g5
 refine tO 1 37 m3 ?_
 refine sT [(7,.bool true)] fun a hF=> ?_
 refine cT 7 hF ?_
 refine qS hF ?_
 refine tV0 1 (rc rb0 (0:Int) false false (.slice none 0 0)) m6 fun h7 g8 zq=> ?_
 replace m6:=zq
 refine sT [(5,.int .i64 213)] fun a hF=> ?_
 refine cR (yT ?_)
 refine ret_ok [.cell 4 95,.tmp 5] [.agg (rc rb0 (0:Int) false false (.slice none 0 0)).toArray,.int .i64 213] (.tuple #[.agg (rc rb0 (0:Int) false false (.slice none 0 0)).toArray,.int .i64 213]) rfl hF ⟨⟨_,rfl,Loads.blk (vs:=rc rb0 (0:Int) false false (.slice none 0 0)) (by kernel_rfl) m6 rfl⟩,rfl,trivial⟩ rfl ?_
 replace e0:=(e0.ext g5).grew g8 (sep.l 0)
 exact⟨rfl,e0⟩
theorem rhold_ok(h:Heap)(x:RB)(e:Int)(ho:Bool)(L:List Pl)(va:Option Addr)(vc:Nat)(hr:Row h (.slice va L.length vc) L.length 4 (prow L))(hL:L.length ≤1099511627776)(on:Bool):Sat Tryz.prog 82 #[.agg (rc x e ho false (.slice va L.length vc)).toArray,.bool on] h fun v h'=>∃c,v= .tuple #[.agg (rc x e on false c).toArray,.int .i64 0]∧PNew h h' 180 c L:=by
 have e0:=Ext.refl h
 have sep:Sep h.size h.size []:=Sep.nil _ _
 refine sat_in Tryz.func82 14 fun a hF=> ?_
 refine qS hF ?_
 refine tN 0 (pV h.size) ((rc x e ho false (.slice va L.length vc)).toArray) 95 fun h1 g2 m3=> ?_
 replace sep:=sep.nw e0.size m3
 refine tN 1 (pV h1.size) ((rc rb0 (0:Int) false false (.slice none 0 0)).toArray) 95 fun h4 g5 m6=> ?_
 replace e0:=e0.ext g2
 replace sep:=sep.nw e0.size m6
 refine sT [(2,pV h.size),(4,pV h1.size)] fun a hF=> ?_
 refine cS ?_
 refine qS hF ?_
 replace m3:=m3.x g5
 refine tO 1 37 m3 ?_
 refine sT [(7,.bool false)] fun a hF=> ?_
 refine cF 7 hF ?_
 refine cN ?_
 refine tK ?_
 refine qS hF ?_
 refine tR 0 m3 ?_
 replace e0:=e0.ext g5
 refine tG 1 (rcopied_sat _ x e ho false L va vc (hr.ext e0) hL) ?_
 rintro _ h9 ⟨_,rfl,ad7,cap8,rfl,ownx,hge,g⟩
 have hlo:=e0.size
 have sepo:=sep
 replace e0:=e0.ext g
 replace m3:=m3.x g
 replace m6:=m6.x g
 replace sep:=sep.up g.size
 replace sep:=sepo.cons (x:=ad7.map (fun(x:Addr)=>x.block)) g.size hlo (fun k e=>⟨hge k e,ownx.lt (by rw[blkOf_slice];exact e)⟩)
 have own_c:Own h9 (.slice ad7 L.length cap8) 180 L.length 4 (prow L):=ownx;clear ownx sepo hlo hge g
 refine tV0 2 (rc x e ho false (.slice ad7 L.length cap8)) m3 fun h10 g11 zq=> ?_
 replace m3:=zq
 refine sT [] fun a hF=> ?_
 refine qS hF ?_
 refine tV 2 36 [.bool on] (rc x e on false (.slice ad7 L.length cap8)) m3 fun h12 g13 zq=> ?_
 replace m3:=zq
 refine sT [] fun a hF=> ?_
 refine qS hF ?_
 refine tR 0 m3 ?_
 replace m6:=(m6.y g11 (sep.bp 1 2)).y g13 (sep.bp 1 2)
 refine tV0 1 (rc x e on false (.slice ad7 L.length cap8)) m6 fun h14 g15 zq=> ?_
 replace m6:=zq
 refine sT [(5,.int .i64 0)] fun a hF=> ?_
 refine cR ?_
 refine ret_ok [.cell 4 95,.tmp 5] [.agg (rc x e on false (.slice ad7 L.length cap8)).toArray,.int .i64 0] (.tuple #[.agg (rc x e on false (.slice ad7 L.length cap8)).toArray,.int .i64 0]) rfl hF ⟨⟨_,rfl,Loads.blk (vs:=rc x e on false (.slice ad7 L.length cap8)) (by kernel_rfl) m6 rfl⟩,rfl,trivial⟩ rfl ?_
 replace e0:=((e0.grew g11 (sep.l 2)).grew g13 (sep.l 2)).grew g15 (sep.l 1)
 replace own_c:=((own_c.k g11 (sep.ap 0 2)).k g13 (sep.ap 0 2)).k g15 (sep.ap 0 1)
 exact⟨_,rfl,⟨_,_,rfl,own_c,sep.low 0 rfl,e0⟩⟩
noncomputable def b83:Code:=Tryz.f83.body.getD .skip
theorem rdel_gone(h:Heap)(x:RB)(e:Int)(ho:Bool)(L:List Pl)(va:Option Addr)(vc:Nat)(u:Int):Sat Tryz.prog 83 #[.agg (rc x e ho true (.slice va L.length vc)).toArray,.int .i64 u] h fun v h'=>v= .tuple #[.agg (rc rb0 (0:Int) false false (.slice none 0 0)).toArray,.int .i64 213]∧Ext h h':=by
 have e0:=Ext.refl h
 have sep:Sep h.size h.size []:=Sep.nil _ _
 refine sat_in Tryz.func83 21 fun a hF=> ?_
 refine qS hF ?_
 refine tN 0 (pV h.size) ((rc x e ho true (.slice va L.length vc)).toArray) 95 fun h1 g2 m3=> ?_
 replace sep:=sep.nw e0.size m3
 refine tN 1 (pV h1.size) ((rc rb0 (0:Int) false false (.slice none 0 0)).toArray) 95 fun h4 g5 m6=> ?_
 replace e0:=e0.ext g2
 replace sep:=sep.nw e0.size m6
 refine sT [(2,pV h.size),(4,pV h1.size)] fun a hF=> ?_
 refine cS ?_
 refine qS hF ?_
 replace m3:=m3.x g5
 refine tO 1 37 m3 ?_
 refine sT [(7,.bool true)] fun a hF=> ?_
 refine cT 7 hF ?_
 refine qS hF ?_
 refine tV0 1 (rc rb0 (0:Int) false false (.slice none 0 0)) m6 fun h7 g8 zq=> ?_
 replace m6:=zq
 refine sT [(5,.int .i64 213)] fun a hF=> ?_
 refine cR (yT ?_)
 refine ret_ok [.cell 4 95,.tmp 5] [.agg (rc rb0 (0:Int) false false (.slice none 0 0)).toArray,.int .i64 213] (.tuple #[.agg (rc rb0 (0:Int) false false (.slice none 0 0)).toArray,.int .i64 213]) rfl hF ⟨⟨_,rfl,Loads.blk (vs:=rc rb0 (0:Int) false false (.slice none 0 0)) (by kernel_rfl) m6 rfl⟩,rfl,trivial⟩ rfl ?_
 replace e0:=(e0.ext g5).grew g8 (sep.l 0)
 exact⟨rfl,e0⟩
theorem rdel_held(h:Heap)(x:RB)(e:Int) (L:List Pl)(va:Option Addr)(vc:Nat)(u:Int):Sat Tryz.prog 83 #[.agg (rc x e true false (.slice va L.length vc)).toArray,.int .i64 u] h fun v h'=>v= .tuple #[.agg (rc rb0 (0:Int) false false (.slice none 0 0)).toArray,.int .i64 214]∧Ext h h':=by
 have e0:=Ext.refl h
 have sep:Sep h.size h.size []:=Sep.nil _ _
 refine sat_in Tryz.func83 21 fun a hF=> ?_
 refine qS hF ?_
 refine tN 0 (pV h.size) ((rc x e true false (.slice va L.length vc)).toArray) 95 fun h1 g2 m3=> ?_
 replace sep:=sep.nw e0.size m3
 refine tN 1 (pV h1.size) ((rc rb0 (0:Int) false false (.slice none 0 0)).toArray) 95 fun h4 g5 m6=> ?_
 replace e0:=e0.ext g2
 replace sep:=sep.nw e0.size m6
 refine sT [(2,pV h.size),(4,pV h1.size)] fun a hF=> ?_
 refine cS ?_
 refine qS hF ?_
 replace m3:=m3.x g5
 refine tO 1 37 m3 ?_
 refine sT [(7,.bool false)] fun a hF=> ?_
 refine cF 7 hF ?_
 refine cN ?_
 refine tK ?_
 refine cS ?_
 refine qS hF ?_
 refine tO 1 36 m3 ?_
 refine sT [(16,.bool true)] fun a hF=> ?_
 refine cT 16 hF ?_
 refine qS hF ?_
 refine tV0 1 (rc rb0 (0:Int) false false (.slice none 0 0)) m6 fun h7 g8 zq=> ?_
 replace m6:=zq
 refine sT [(5,.int .i64 214)] fun a hF=> ?_
 refine cR (yT ?_)
 refine ret_ok [.cell 4 95,.tmp 5] [.agg (rc rb0 (0:Int) false false (.slice none 0 0)).toArray,.int .i64 214] (.tuple #[.agg (rc rb0 (0:Int) false false (.slice none 0 0)).toArray,.int .i64 214]) rfl hF ⟨⟨_,rfl,Loads.blk (vs:=rc rb0 (0:Int) false false (.slice none 0 0)) (by kernel_rfl) m6 rfl⟩,rfl,trivial⟩ rfl ?_
 replace e0:=(e0.ext g5).grew g8 (sep.l 0)
 exact⟨rfl,e0⟩
theorem rdel_soon(h:Heap)(x:RB)(e:Int) (L:List Pl)(va:Option Addr)(vc:Nat)(u:Int)(hu:u<e):Sat Tryz.prog 83 #[.agg (rc x e false false (.slice va L.length vc)).toArray,.int .i64 u] h fun v h'=>v= .tuple #[.agg (rc rb0 (0:Int) false false (.slice none 0 0)).toArray,.int .i64 214]∧Ext h h':=by
 have e0:=Ext.refl h
 have sep:Sep h.size h.size []:=Sep.nil _ _
 refine sat_in Tryz.func83 21 fun a hF=> ?_
 refine qS hF ?_
 refine tN 0 (pV h.size) ((rc x e false false (.slice va L.length vc)).toArray) 95 fun h1 g2 m3=> ?_
 replace sep:=sep.nw e0.size m3
 refine tN 1 (pV h1.size) ((rc rb0 (0:Int) false false (.slice none 0 0)).toArray) 95 fun h4 g5 m6=> ?_
 replace e0:=e0.ext g2
 replace sep:=sep.nw e0.size m6
 refine sT [(2,pV h.size),(4,pV h1.size)] fun a hF=> ?_
 refine cS ?_
 refine qS hF ?_
 replace m3:=m3.x g5
 refine tO 1 37 m3 ?_
 refine sT [(7,.bool false)] fun a hF=> ?_
 refine cF 7 hF ?_
 refine cN ?_
 refine tK ?_
 refine cS ?_
 refine qS hF ?_
 refine tO 1 36 m3 ?_
 refine tO 4 35 m3 ?_
 refine tT 6 (u<e) ?_
 refine sT [(16,.bool true)] fun a hF=> ?_
 refine cT 16 hF ?_
 refine qS hF ?_
 refine tV0 1 (rc rb0 (0:Int) false false (.slice none 0 0)) m6 fun h7 g8 zq=> ?_
 replace m6:=zq
 refine sT [(5,.int .i64 214)] fun a hF=> ?_
 refine cR (yT ?_)
 refine ret_ok [.cell 4 95,.tmp 5] [.agg (rc rb0 (0:Int) false false (.slice none 0 0)).toArray,.int .i64 214] (.tuple #[.agg (rc rb0 (0:Int) false false (.slice none 0 0)).toArray,.int .i64 214]) rfl hF ⟨⟨_,rfl,Loads.blk (vs:=rc rb0 (0:Int) false false (.slice none 0 0)) (by kernel_rfl) m6 rfl⟩,rfl,trivial⟩ rfl ?_
 replace e0:=(e0.ext g5).grew g8 (sep.l 0)
 exact⟨rfl,e0⟩
theorem rdel_ok(h:Heap)(x:RB)(e:Int) (L:List Pl)(va:Option Addr)(vc:Nat)(u:Int)(hu:e≤u):Sat Tryz.prog 83 #[.agg (rc x e false false (.slice va L.length vc)).toArray,.int .i64 u] h fun v h'=>v= .tuple #[.agg (rc x e false true (.slice none 0 0)).toArray,.int .i64 0]∧Ext h h':=by
 have e0:=Ext.refl h
 have sep:Sep h.size h.size []:=Sep.nil _ _
 refine sat_in Tryz.func83 21 fun a hF=> ?_
 refine qS hF ?_
 refine tN 0 (pV h.size) ((rc x e false false (.slice va L.length vc)).toArray) 95 fun h1 g2 m3=> ?_
 replace sep:=sep.nw e0.size m3
 refine tN 1 (pV h1.size) ((rc rb0 (0:Int) false false (.slice none 0 0)).toArray) 95 fun h4 g5 m6=> ?_
 replace e0:=e0.ext g2
 replace sep:=sep.nw e0.size m6
 refine sT [(2,pV h.size),(4,pV h1.size)] fun a hF=> ?_
 refine cS ?_
 refine qS hF ?_
 replace m3:=m3.x g5
 refine tO 1 37 m3 ?_
 refine sT [(7,.bool false)] fun a hF=> ?_
 refine cF 7 hF ?_
 refine cN ?_
 refine tK ?_
 refine cS ?_
 refine qS hF ?_
 refine tO 1 36 m3 ?_
 refine tO 4 35 m3 ?_
 refine tX 6 (u<e) ?_
 refine sT [(16,.bool false)] fun a hF=> ?_
 refine cF 16 hF ?_
 refine cN ?_
 refine tK ?_
 refine qS hF ?_
 refine tV 1 37 [.bool true] (rc x e false true (.slice va L.length vc)) m3 fun h7 g8 zq=> ?_
 replace m3:=zq
 refine sT [] fun a hF=> ?_
 refine qS hF ?_
 refine tV 1 38 [.slice none 0 0] (rc x e false true (.slice none 0 0)) m3 fun h9 g10 zq=> ?_
 replace m3:=zq
 refine sT [] fun a hF=> ?_
 refine qS hF ?_
 refine tR 0 m3 ?_
 replace m6:=(m6.y g8 (sep.bp 0 1)).y g10 (sep.bp 0 1)
 refine tV0 1 (rc x e false true (.slice none 0 0)) m6 fun h11 g12 zq=> ?_
 replace m6:=zq
 refine sT [(5,.int .i64 0)] fun a hF=> ?_
 refine cR ?_
 refine ret_ok [.cell 4 95,.tmp 5] [.agg (rc x e false true (.slice none 0 0)).toArray,.int .i64 0] (.tuple #[.agg (rc x e false true (.slice none 0 0)).toArray,.int .i64 0]) rfl hF ⟨⟨_,rfl,Loads.blk (vs:=rc x e false true (.slice none 0 0)) (by kernel_rfl) m6 rfl⟩,rfl,trivial⟩ rfl ?_
 replace e0:=(((e0.ext g5).grew g8 (sep.l 1)).grew g10 (sep.l 1)).grew g12 (sep.l 0)
 exact⟨rfl,e0⟩
end Go.Proofs.YtegkejcglfgpmaaGreatDoor
end
section
namespace Go.Proofs.YtegkejcglfgpmaaGreatDoor
open Go Go.Lane Go.Sha
noncomputable def b43:Code:=Tryz.f43.body.getD .skip
theorem rleaves_sat {W:Nat→Prop}(h:Heap)(rb:Nat)(M:Md)(T:List RO)(oa:Option Addr)(oc:Nat)(ea:Option Addr)(ec:Nat)(es:List Value)(md:RModA W h rb M T oa oc ea ec es)(hE:M.E.length ≤1099511627):Sat Tryz.prog 43 #[.pointer (some ⟨rb,0,none⟩)] h fun v h'=>∃ad cap,v= .slice ad M.E.length cap∧Own h' (.slice ad M.E.length cap) 39 M.E.length 32 (hcs (ledH M.E))∧(∀k,ad.map (fun(x:Addr)=>x.block)=some k→h.size ≤k)∧Ext h h':=by
 have hm:=md.hm
 have hbr:=blk_lt hm
 have hLn:=md.ln
 have e0:=Ext.refl h
 have sep:Sep h.size h.size []:=Sep.nil _ _
 refine sat_in Tryz.func43 27 fun a hF=> ?_
 refine qP [] hF fun a hF=> ?_
 refine qS hF ?_
 refine tN 0 (.slice (some ⟨h.size,0,none⟩) 0 0) #[] 39 fun h1 g2 m3=> ?_
 replace sep:=sep.nw e0.size m3
 have own_o:Own h1 (.slice (some ⟨h.size,0,none⟩) 0 0) 39 ([]:List UInt8).length 32 (hcs []):=Own.empty 32 m3
 replace sep:Sep h.size h1.size [(some ⟨h.size,0,none⟩:Option Addr).map (·.block)]:=sep
 replace e0:=e0.ext g2
 clear m3
 refine sT [(3,.slice (some ⟨h.size,0,none⟩) 0 0)] fun a hF=> ?_
 refine cS ?_
 refine qP [(4,.int .i64 0)] hF fun a hF=> ?_
 refine cB 0 ?_
 refine cL (fun m a h'=>∃k:Nat,∃ad:Option Addr,∃cap:Nat,m=M.E.length - k∧(Ext h h')∧(k≤M.E.length)∧(Own h' (.slice ad k cap) 39 k 32 (hcs (ledH (M.E.take k))))∧(Sep h.size h'.size [ad.map (·.block)])∧(Fr a 27 [(0,.pointer (some ⟨rb,0,none⟩)),(3,.slice ad k cap),(4,.int .i64 ((k:Nat):Int))])) (M.E.length - 0) ⟨0,(some ⟨h.size,0,none⟩),0,rfl,e0,(by omega),own_o,sep,hF.to⟩ ?_
 clear hF a
 clear e0
 clear own_o
 clear sep
 rintro m a h4 ⟨k,ad,cap,rfl,e0,hk,own_o,sep,hF⟩
 refine cS ?_
 refine qS hF ?_
 refine tO 4 1 (e0.blk hm) ?_
 refine sT [(12,.bool (decide (((k:Nat):Int)<((M.E.length :Nat):Int))))] fun a hF=> ?_
 refine cJ 12 hF (fun hc5=> ?_) fun hc5=> ?_
 ·skip
  have hkn:k<M.E.length :=by omega
  obtain⟨e,he⟩:∃e,M.E[k]? =some e:=⟨_,List.getElem?_eq_getElem hkn⟩
  obtain⟨hel,xa,xc,hes,hrx⟩:=md.en.2 k e he
  have hFn:=hF
  obtain⟨aa,rfl,hcap_aa⟩:=md.er.1.1.someA (by omega)
  have hF:=hFn;clear hFn
  refine cN ?_
  refine tK ?_
  refine cS ?_
  refine cB 1 ?_
  refine rS hF ?_
  refine tO 4 1 (e0.blk hm) ?_
  refine tI 6 aa M.E.length 1 k k ?_
  refine tC 7 (.slice xa e.length xc) (Calm.load (T:=32) (p:=(Addr.add aa k)) (by kernel_rfl) (Loads.one (k:=1) (by kernel_rfl) ((md.er.1.1.ext e0).cells _ _ hes))) ?_
  refine tG 8 (rleaf_sat _ e xa xc (hrx.1.1.ext e0) (by omega)) ?_
  rintro _ h7 ⟨rfl,g6⟩
  refine tF 9 (Does.newHs (L:=[leafH e]) (t:=45) (E:=39) (by_:=32) (n:=1) (by kernel_rfl) (by kernel_rfl) (All32.cons (leaf_len _) All32.nil) rfl (by decide) (by decide)) ?_
  rintro _ h8 ⟨rfl,hh⟩
  have g9:Ext h7 h8:=push_ext hh
  have m10:h8[h7.size]? =some (.cells (hcs [leafH e]).toArray 39):=push_at hh
  clear hh
  replace e0:=e0.ext g6
  have hlo:=e0.size
  replace sep:=sep.up g6.size
  have sepo:=sep
  replace sep:=sep.up g9.size
  replace sep:=sepo.new hlo (blk_lt m10)
  clear sepo hlo
  replace own_o:=(own_o.ext g6).ext g9
  refine tP 10 (k+1) 32 (hcs (ledH (M.E.take k)++[leafH e])) own_o (hrow1 (leaf_len _) m10) (ones_hcs _) (fun ad11 cap12 h13 own_o g14 hb15=> ?_) (ys:=(hcs ([leafH e]))) (hZ:=by first|rfl|exact(hcs_append _ _).symm |simp[hcs_append])
  replace e0:=e0.ext g9
  have s16:=sep
  replace sep:=sep.sa g14 1 hb15 own_o e0.size;clear hb15
  refine sE [(3,.slice ad11 (k+1) cap12)] fun a hF=> ?_
  refine bK ?_
  refine tK ?_
  refine rS hF ?_
  refine tA 1 k 1 ?_
  refine sE [(4,nV (k+1))] fun a hF=> ?_
  rw[ledH_next he] at own_o
  clear m10
  replace e0:=e0.grew g14 (s16.l 1)
  replace sep:=sep.sub (l':=[ad11.map (·.block)]) (.cons _ (.cons_cons _ (.slnil)))
  show ∃m',m'<_∧_
  refine⟨_,?_,(k+1),ad11,cap12,rfl,e0,(by omega),own_o,sep,hF.to⟩
  omega
 ·skip
  refine cX 0 (xT (xT (xB ?_)))
  refine tK ?_
  refine qP [(2,.slice ad k cap)] hF fun a hF=> ?_
  refine cR ?_
  refine rT 2 (.slice ad k cap) hF ?_
  obtain rfl:k=M.E.length :=by omega
  rw[List.take_length] at own_o
  exact⟨ad,cap,rfl,own_o,sep.low 0 rfl,e0⟩
noncomputable def b39:Code:=Tryz.f39.body.getD .skip
set_option maxHeartbeats 1000000 in
theorem rchange_sat {W:Nat→Prop}(h:Heap)(rb:Nat)(M:Md)(T:List RO)(oa:Option Addr)(oc:Nat)(ea:Option Addr)(ec:Nat)(es:List Value)(md:RModA W h rb M T oa oc ea ec es)(kd n:Int)(s:ByteArray)(pa:Option Addr)(on pc:Nat)(ka:Option Addr)(kn kc:Nat)(hsz:s.size ≤9223372036854775807)(hE:M.E.length ≤1099511627):Sat Tryz.prog 39 #[.pointer (some ⟨rb,0,none⟩),.agg #[.int .i64 kd,.string s,.slice pa on pc,.int .i64 n,.slice ka kn kc]] h fun v h'=>v= .int .i64 (chg M kd n s).2 ∧RModW W h' rb (chg M kd n s).1 ∧RG rb h h':=by
 have hm:=md.hm
 have hbr:=blk_lt hm
 have hLn:=md.ln
 have e0:=Ext.refl h
 have sep:Sep h.size h.size []:=Sep.nil _ _
 refine sat_in Tryz.func39 80 fun a hF=> ?_
 refine qS hF ?_
 refine tN 0 (pV h.size) #[.int .i64 kd,.string s,.slice pa on pc,.int .i64 n,.slice ka kn kc] 35 fun h1 g2 m3=> ?_
 replace sep:=sep.nw e0.size m3
 refine sT [(3,pV h.size)] fun a hF=> ?_
 refine cS ?_
 refine cS ?_
 rcases md.cases3 s with hok|⟨hok,hf,A,B,rfl,hA,hB⟩|⟨hok,A,x,B,rfl,hA,rfl,hf⟩
 ·skip
  refine rS hF ?_
  refine tO 1 1 m3 ?_
  refine tC 2 (.bool false) (Does.call (f:=27) (args:= #[.string s]) (by kernel_rfl) (rname_no _ s hsz hok)) ?_
  refine sE [(11,.bool true)] fun a hF=> ?_
  refine tK ?_
  refine cT 11 hF ?_
  refine qP [(4,.int .i64 210)] hF fun a hF=> ?_
  refine cR (yT ?_)
  refine rT 4 (.int .i64 210) hF ?_
  replace e0:=e0.ext g2
  rw[chg_id hok];exact⟨rfl,⟨_,_,_,_,_,_,md.ext e0⟩,RG.ofExt e0⟩
 ·skip
  refine rS hF ?_
  refine tO 1 1 m3 ?_
  refine tC 2 (.bool true) (Does.call (f:=27) (args:= #[.string s]) (by kernel_rfl) (rname_yes _ s hok)) ?_
  refine sE [(11,.bool false)] fun a hF=> ?_
  refine tK ?_
  refine cF 11 hF ?_
  refine cN ?_
  refine tK ?_
  refine cS ?_
  refine cS ?_
  rcases kdcase kd n with hk|hk|hk|hk
  ·skip
   refine rS hF ?_
   refine tO 1 0 m3 ?_
   refine eT 2 kd 4 ?_
   refine tO 5 3 m3 ?_
   refine tT 6 (n<(0:Int)) ?_
   refine sE [(24,.bool true)] fun a hF=> ?_
   refine tK ?_
   refine cT 24 hF ?_
   refine qP [(4,.int .i64 1)] hF fun a hF=> ?_
   refine cR (yT ?_)
   refine rT 4 (.int .i64 1) hF ?_
   replace e0:=e0.ext g2
   rw[chg_arg hok (by omega)];exact⟨rfl,⟨_,_,_,_,_,_,md.ext e0⟩,RG.ofExt e0⟩
  ·skip
   refine rS hF ?_
   refine tO 1 0 m3 ?_
   refine eT 2 kd 4 ?_
   refine tO 5 3 m3 ?_
   refine tX 6 (n<(0:Int)) ?_
   refine tO 9 3 m3 ?_
   refine tT 10 ((1099511627776:Int)<n) ?_
   refine sE [(24,.bool true)] fun a hF=> ?_
   refine tK ?_
   refine cT 24 hF ?_
   refine qP [(4,.int .i64 1)] hF fun a hF=> ?_
   refine cR (yT ?_)
   refine rT 4 (.int .i64 1) hF ?_
   replace e0:=e0.ext g2
   rw[chg_arg hok (by omega)];exact⟨rfl,⟨_,_,_,_,_,_,md.ext e0⟩,RG.ofExt e0⟩
  ·skip
   refine rS hF ?_
   refine tO 1 0 m3 ?_
   refine eT 2 kd 4 ?_
   refine tO 5 3 m3 ?_
   refine tX 6 (n<(0:Int)) ?_
   refine tO 9 3 m3 ?_
   refine tX 10 ((1099511627776:Int)<n) ?_
   refine sE [(24,.bool false)] fun a hF=> ?_
   refine tK ?_
   refine cF 24 hF ?_
   refine cN ?_
   refine tK ?_
   refine qS hF ?_
   refine tO 2 1 m3 ?_
   replace e0:=e0.ext g2
   refine tC 3 (.tuple #[.int .i64 0,.int .i64 211]) (Does.call (f:=80) (args:= #[pV rb,.string s]) (by kernel_rfl) (rfind_sat _ rb M (A++B) oa oc ea ec es (md.ext e0) s hsz 0 211 (.inr (.inl ⟨hok,⟨_,.no hA hB⟩,rfl,rfl⟩)) hE)) ?_
   refine sT [(5,.int .i64 0),(6,.int .i64 211)] fun a hF=> ?_
   refine cS ?_
   refine qP [(33,.bool true)] hF fun a hF=> ?_
   refine cT 33 hF ?_
   refine qP [(4,.int .i64 211)] hF fun a hF=> ?_
   refine cR (yT ?_)
   refine rT 4 (.int .i64 211) hF ?_
   rw[chg_none hok (by omega) hf];exact⟨rfl,⟨_,_,_,_,_,_,md.ext e0⟩,RG.ofExt e0⟩
  ·skip
   refine rS hF ?_
   refine tO 1 0 m3 ?_
   refine eF 2 kd 4 ?_
   refine sE [(24,.bool false)] fun a hF=> ?_
   refine tK ?_
   refine cF 24 hF ?_
   refine cN ?_
   refine tK ?_
   refine qS hF ?_
   refine tO 2 1 m3 ?_
   replace e0:=e0.ext g2
   refine tC 3 (.tuple #[.int .i64 0,.int .i64 211]) (Does.call (f:=80) (args:= #[pV rb,.string s]) (by kernel_rfl) (rfind_sat _ rb M (A++B) oa oc ea ec es (md.ext e0) s hsz 0 211 (.inr (.inl ⟨hok,⟨_,.no hA hB⟩,rfl,rfl⟩)) hE)) ?_
   refine sT [(5,.int .i64 0),(6,.int .i64 211)] fun a hF=> ?_
   refine cS ?_
   refine qP [(33,.bool true)] hF fun a hF=> ?_
   refine cT 33 hF ?_
   refine qP [(4,.int .i64 211)] hF fun a hF=> ?_
   refine cR (yT ?_)
   refine rT 4 (.int .i64 211) hF ?_
   rw[chg_none hok (by omega) hf];exact⟨rfl,⟨_,_,_,_,_,_,md.ext e0⟩,RG.ofExt e0⟩
 ·skip
  have hAl:A.length <(A++x::B).length :=ro_lt
  refine rS hF ?_
  refine tO 1 1 m3 ?_
  refine tC 2 (.bool true) (Does.call (f:=27) (args:= #[.string x.o.b.id]) (by kernel_rfl) (rname_yes _ x.o.b.id hok)) ?_
  refine sE [(11,.bool false)] fun a hF=> ?_
  refine tK ?_
  refine cF 11 hF ?_
  refine cN ?_
  refine tK ?_
  refine cS ?_
  refine cS ?_
  rcases kdcase kd n with hk|hk|hk|hk
  ·skip
   refine rS hF ?_
   refine tO 1 0 m3 ?_
   refine eT 2 kd 4 ?_
   refine tO 5 3 m3 ?_
   refine tT 6 (n<(0:Int)) ?_
   refine sE [(24,.bool true)] fun a hF=> ?_
   refine tK ?_
   refine cT 24 hF ?_
   refine qP [(4,.int .i64 1)] hF fun a hF=> ?_
   refine cR (yT ?_)
   refine rT 4 (.int .i64 1) hF ?_
   replace e0:=e0.ext g2
   rw[chg_arg hok (by omega)];exact⟨rfl,⟨_,_,_,_,_,_,md.ext e0⟩,RG.ofExt e0⟩
  ·skip
   refine rS hF ?_
   refine tO 1 0 m3 ?_
   refine eT 2 kd 4 ?_
   refine tO 5 3 m3 ?_
   refine tX 6 (n<(0:Int)) ?_
   refine tO 9 3 m3 ?_
   refine tT 10 ((1099511627776:Int)<n) ?_
   refine sE [(24,.bool true)] fun a hF=> ?_
   refine tK ?_
   refine cT 24 hF ?_
   refine qP [(4,.int .i64 1)] hF fun a hF=> ?_
   refine cR (yT ?_)
   refine rT 4 (.int .i64 1) hF ?_
   replace e0:=e0.ext g2
   rw[chg_arg hok (by omega)];exact⟨rfl,⟨_,_,_,_,_,_,md.ext e0⟩,RG.ofExt e0⟩
  ·skip
   refine rS hF ?_
   refine tO 1 0 m3 ?_
   refine eT 2 kd 4 ?_
   refine tO 5 3 m3 ?_
   refine tX 6 (n<(0:Int)) ?_
   refine tO 9 3 m3 ?_
   refine tX 10 ((1099511627776:Int)<n) ?_
   refine sE [(24,.bool false)] fun a hF=> ?_
   refine tK ?_
   refine cF 24 hF ?_
   refine cN ?_
   refine tK ?_
   refine qS hF ?_
   refine tO 2 1 m3 ?_
   replace e0:=e0.ext g2
   refine tC 3 (.tuple #[nV A.length,.int .i64 0]) (Does.call (f:=80) (args:= #[pV rb,.string x.o.b.id]) (by kernel_rfl) (rfind_sat _ rb M (A++x::B) oa oc ea ec es (md.ext e0) x.o.b.id hsz A.length 0 (.inr (.inr ⟨hok,.yes hA rfl,rfl⟩)) hE)) ?_
   refine sT [(5,nV A.length),(6,.int .i64 0)] fun a hF=> ?_
   refine cS ?_
   refine qP [(33,.bool false)] hF fun a hF=> ?_
   refine cF 33 hF ?_
   refine cN ?_
   refine tK ?_
   refine cS ?_
   obtain⟨k1,k2,k3,k4⟩:=md.ob x (by simp)
   have hFn:=hF
   obtain⟨ao,rfl,hcap_ao⟩:=md.row.1.someA (by omega)
   have hF:=hFn;clear hFn
   ·skip
    refine rS hF ?_
    refine tO 3 0 (e0.blk hm) ?_
    refine tI 5 ao ((A++x::B).length) 40 A.length (A.length *40) ?_
    refine t1 6 (.pointer (some (Addr.add ao (A.length *40)))) (.pointer (some ((Addr.add ao (A.length *40)).add 0))) (by rw[add_add,Nat.add_zero]) ?_
    refine tC 7 (.agg (rc x.o.b x.o.e x.o.ho x.o.go (.slice x.ca 0 x.cc)).toArray) (Calm.load (T:=95) (p:=(Addr.add ao (A.length *40))) (by kernel_rfl) (Row.ror (md.row.1.ext e0) ro_mid (by kernel_rfl) rfl)) ?_
    refine tN 8 (pV h1.size) ((rc rb0 (0:Int) false false (.slice none 0 0)).toArray) 95 fun h4 g5 m6=> ?_
    replace sep:=sep.nw e0.size m6
    refine tV0 9 (rc x.o.b x.o.e x.o.ho x.o.go (.slice x.ca 0 x.cc)) m6 fun h7 g8 zq=> ?_
    replace m6:=zq
    refine sE [(7,pV h1.size)] fun a hF=> ?_
    obtain⟨⟨ob,oe,oh,og,od⟩,ca,cc,ba,bc⟩:=x
    refine tK ?_
    refine cS ?_
    refine qS hF ?_
    replace m3:=(m3.x g5).y g8 (sep.bp 1 0)
    refine tO 1 0 m3 ?_
    refine sT [(44,.int .i64 kd)] fun a hF=> ?_
    refine cB 0 ?_
    refine qS hF ?_
    refine eT 0 kd 4 ?_
    refine sT [(54,.bool true)] fun a hF=> ?_
    refine cT 54 hF ?_
    cases og
    ·skip
     refine rS hF ?_
     refine tR 0 m6 ?_
     refine tO 2 3 m3 ?_
     refine tG 3 (rlock_ok _ ob oe oh [] ca cc (k3.zero rfl) (by decide) n (by omega) (by omega)) ?_
     rintro _ h11 ⟨_,rfl,ad9,cap10,rfl,ownx,hge,g⟩
     replace e0:=(e0.ext g5).grew g8 (sep.l 0)
     replace sep:=sep.up g8.size
     replace e0:=e0.ext g
     replace m3:=m3.x g
     replace m6:=m6.x g
     replace sep:=sep.up g.size
     clear hge g;have hrc:=ownx.row;clear ownx
     refine tV0 7 (rc ob (max oe n) oh false (.slice ad9 0 cap10)) m6 fun h12 g13 zq=> ?_
     replace m6:=zq
     refine sE [(6,.int .i64 0)] fun a hF=> ?_
     refine bK ?_
     refine tK ?_
     refine cS ?_
     refine qP [(74,.bool true)] hF fun a hF=> ?_
     refine cT 74 hF ?_
     refine rS hF ?_
     refine tR 2 m6 ?_
     replace e0:=e0.grew g13 (sep.l 0)
     replace m3:=m3.y g13 (sep.bp 1 0)
     replace sep:=sep.up g13.size
     refine tG 3 (rset_sat _ rb M A B _ _ oc ea ec es (md.ext e0) (max oe n) oh false ad9 cap10 (hrc.zero rfl) hE) ?_
     rintro _ h14 ⟨hfin,gm⟩
     have gk:=(RG.ofExt e0).then gm
     refine sE [] fun a hF=> ?_
     refine tK ?_
     refine qP [(4,.int .i64 0)] hF fun a hF=> ?_
     refine cR ?_
     refine rT 4 (.int .i64 0) hF ?_
     rw[chg_ok hok (by omega) hf (o':=⟨ob,(max oe n),oh,false,od⟩) (by first|exact chgO_lock hk.1 |exact chgO_hold hk5|exact chgO_del hk hk5 ht)];exact⟨rfl,hfin,gk⟩
    ·skip
     refine rS hF ?_
     refine tR 0 m6 ?_
     refine tO 2 3 m3 ?_
     refine tG 3 (rlock_gone _ ob oe oh [] ca cc n (by omega) (by omega)) ?_
     rintro _ h16 ⟨rfl,g15⟩
     replace m6:=m6.x g15
     refine tV0 7 (rc rb0 (0:Int) false false (.slice none 0 0)) m6 fun h17 g18 zq=> ?_
     replace m6:=zq
     refine sE [(6,.int .i64 213)] fun a hF=> ?_
     refine bK ?_
     refine tK ?_
     refine cS ?_
     refine qP [(74,.bool false)] hF fun a hF=> ?_
     refine cF 74 hF ?_
     refine cN ?_
     refine tK ?_
     refine qP [(4,.int .i64 213)] hF fun a hF=> ?_
     refine cR ?_
     refine rT 4 (.int .i64 213) hF ?_
     replace e0:=(((e0.ext g5).grew g8 (sep.l 0)).ext g15).grew g18 (sep.l 0)
     rw[chg_no hok (by omega) hf (z:=213) (by first|exact chgO_gone|exact chgO_held hk hk5|exact chgO_soon hk hk5 ht) (by decide)];exact⟨rfl,⟨_,_,_,_,_,_,md.ext e0⟩,RG.ofExt e0⟩
  ·skip
   refine rS hF ?_
   refine tO 1 0 m3 ?_
   refine eF 2 kd 4 ?_
   refine sE [(24,.bool false)] fun a hF=> ?_
   refine tK ?_
   refine cF 24 hF ?_
   refine cN ?_
   refine tK ?_
   refine qS hF ?_
   refine tO 2 1 m3 ?_
   replace e0:=e0.ext g2
   refine tC 3 (.tuple #[nV A.length,.int .i64 0]) (Does.call (f:=80) (args:= #[pV rb,.string x.o.b.id]) (by kernel_rfl) (rfind_sat _ rb M (A++x::B) oa oc ea ec es (md.ext e0) x.o.b.id hsz A.length 0 (.inr (.inr ⟨hok,.yes hA rfl,rfl⟩)) hE)) ?_
   refine sT [(5,nV A.length),(6,.int .i64 0)] fun a hF=> ?_
   refine cS ?_
   refine qP [(33,.bool false)] hF fun a hF=> ?_
   refine cF 33 hF ?_
   refine cN ?_
   refine tK ?_
   refine cS ?_
   obtain⟨k1,k2,k3,k4⟩:=md.ob x (by simp)
   have hFn:=hF
   obtain⟨ao,rfl,hcap_ao⟩:=md.row.1.someA (by omega)
   have hF:=hFn;clear hFn
   ·skip
    refine rS hF ?_
    refine tO 3 0 (e0.blk hm) ?_
    refine tI 5 ao ((A++x::B).length) 40 A.length (A.length *40) ?_
    refine t1 6 (.pointer (some (Addr.add ao (A.length *40)))) (.pointer (some ((Addr.add ao (A.length *40)).add 0))) (by rw[add_add,Nat.add_zero]) ?_
    refine tC 7 (.agg (rc x.o.b x.o.e x.o.ho x.o.go (.slice x.ca 0 x.cc)).toArray) (Calm.load (T:=95) (p:=(Addr.add ao (A.length *40))) (by kernel_rfl) (Row.ror (md.row.1.ext e0) ro_mid (by kernel_rfl) rfl)) ?_
    refine tN 8 (pV h1.size) ((rc rb0 (0:Int) false false (.slice none 0 0)).toArray) 95 fun h19 g20 m21=> ?_
    replace sep:=sep.nw e0.size m21
    refine tV0 9 (rc x.o.b x.o.e x.o.ho x.o.go (.slice x.ca 0 x.cc)) m21 fun h22 g23 zq=> ?_
    replace m21:=zq
    refine sE [(7,pV h1.size)] fun a hF=> ?_
    obtain⟨⟨ob,oe,oh,og,od⟩,ca,cc,ba,bc⟩:=x
    refine tK ?_
    refine cS ?_
    refine qS hF ?_
    replace m3:=(m3.x g20).y g23 (sep.bp 1 0)
    refine tO 1 0 m3 ?_
    refine sT [(44,.int .i64 kd)] fun a hF=> ?_
    refine cB 0 ?_
    refine qS hF ?_
    refine eF 0 kd 4 ?_
    refine sT [(54,.bool false)] fun a hF=> ?_
    refine cF 54 hF ?_
    refine cS ?_
    rcases(by omega:kd=5∨kd≠5) with hk5|hk5
    ·skip
     refine rS hF ?_
     refine eT 0 kd 5 ?_
     refine sE [(63,.bool true)] fun a hF=> ?_
     refine tK ?_
     refine cT 63 hF ?_
     cases og
     ·skip
      refine rS hF ?_
      refine tR 0 m21 ?_
      refine tO 2 3 m3 ?_
      refine tG 4 (rhold_ok _ ob oe oh [] ca cc (k3.zero rfl) (by decide) (decide (n=(1:Int)))) ?_
      rintro _ h26 ⟨_,rfl,ad24,cap25,rfl,ownx,hge,g⟩
      replace e0:=(e0.ext g20).grew g23 (sep.l 0)
      replace sep:=sep.up g23.size
      replace e0:=e0.ext g
      replace m3:=m3.x g
      replace m21:=m21.x g
      replace sep:=sep.up g.size
      clear hge g;have hrc:=ownx.row;clear ownx
      refine tV0 8 (rc ob oe (decide (n=(1:Int))) false (.slice ad24 0 cap25)) m21 fun h27 g28 zq=> ?_
      replace m21:=zq
      refine sE [(6,.int .i64 0)] fun a hF=> ?_
      refine bK ?_
      refine tK ?_
      refine cS ?_
      refine qP [(74,.bool true)] hF fun a hF=> ?_
      refine cT 74 hF ?_
      refine rS hF ?_
      refine tR 2 m21 ?_
      replace e0:=e0.grew g28 (sep.l 0)
      replace m3:=m3.y g28 (sep.bp 1 0)
      replace sep:=sep.up g28.size
      refine tG 3 (rset_sat _ rb M A B _ _ oc ea ec es (md.ext e0) oe (decide (n=(1:Int))) false ad24 cap25 (hrc.zero rfl) hE) ?_
      rintro _ h29 ⟨hfin,gm⟩
      have gk:=(RG.ofExt e0).then gm
      refine sE [] fun a hF=> ?_
      refine tK ?_
      refine qP [(4,.int .i64 0)] hF fun a hF=> ?_
      refine cR ?_
      refine rT 4 (.int .i64 0) hF ?_
      rw[chg_ok hok (by omega) hf (o':=⟨ob,oe,(decide (n=(1:Int))),false,od⟩) (by first|exact chgO_lock hk.1 |exact chgO_hold hk5|exact chgO_del hk hk5 ht)];exact⟨rfl,hfin,gk⟩
     ·skip
      refine rS hF ?_
      refine tR 0 m21 ?_
      refine tO 2 3 m3 ?_
      refine tG 4 (rhold_gone _ ob oe oh [] ca cc (decide (n=(1:Int)))) ?_
      rintro _ h31 ⟨rfl,g30⟩
      replace m21:=m21.x g30
      refine tV0 8 (rc rb0 (0:Int) false false (.slice none 0 0)) m21 fun h32 g33 zq=> ?_
      replace m21:=zq
      refine sE [(6,.int .i64 213)] fun a hF=> ?_
      refine bK ?_
      refine tK ?_
      refine cS ?_
      refine qP [(74,.bool false)] hF fun a hF=> ?_
      refine cF 74 hF ?_
      refine cN ?_
      refine tK ?_
      refine qP [(4,.int .i64 213)] hF fun a hF=> ?_
      refine cR ?_
      refine rT 4 (.int .i64 213) hF ?_
      replace e0:=(((e0.ext g20).grew g23 (sep.l 0)).ext g30).grew g33 (sep.l 0)
      rw[chg_no hok (by omega) hf (z:=213) (by first|exact chgO_gone|exact chgO_held hk hk5|exact chgO_soon hk hk5 ht) (by decide)];exact⟨rfl,⟨_,_,_,_,_,_,md.ext e0⟩,RG.ofExt e0⟩
    ·skip
     refine rS hF ?_
     refine eF 0 kd 5 ?_
     refine sE [(63,.bool false)] fun a hF=> ?_
     refine tK ?_
     refine cF 63 hF ?_
     rcases delcase og oh M.t oe with rfl|⟨rfl,rfl⟩|⟨rfl,rfl,ht⟩|⟨rfl,rfl,ht⟩
     ·skip
      refine cD [0,0,2,6,14,31,63,127,127,255,1023] 10 mixed hF ?_
      refine mR 1 1 0 m21 ?_
      refine mP 15 [1,2,3] [pV rb,pV rb,.pointer (some ⟨rb,2,none⟩)] ?_
      replace e0:=(e0.ext g20).grew g23 (sep.l 0)
      refine mO 31 17 4 2 (.int .i64 M.t) (e0.blk hm) ?_
      refine mG0 63 63 5 (rdel_gone _ ob oe oh [] ca cc M.t) ?_
      rintro _ h35 ⟨rfl,g34⟩
      refine mP 511 [6,7,8] [.tuple #[.agg (rc rb0 (0:Int) false false (.slice none 0 0)).toArray,.int .i64 213],.agg (rc rb0 (0:Int) false false (.slice none 0 0)).toArray,.int .i64 213] ?_
      replace m21:=m21.x g34
      refine mV 1023 767 9 0 (rc rb0 (0:Int) false false (.slice none 0 0)) (rc rb0 (0:Int) false false (.slice none 0 0)) m21 fun h36 g37 zq=> ?_
      replace m21:=zq
      refine mP 2047 [10] [.int .i64 213] ?_
      refine mE [(6,.int .i64 213)] fun a hF=> ?_
      refine bK ?_
      refine tK ?_
      refine cS ?_
      refine qP [(74,.bool false)] hF fun a hF=> ?_
      refine cF 74 hF ?_
      refine cN ?_
      refine tK ?_
      refine qP [(4,.int .i64 213)] hF fun a hF=> ?_
      refine cR ?_
      refine rT 4 (.int .i64 213) hF ?_
      replace e0:=(e0.ext g34).grew g37 (sep.l 0)
      rw[chg_no hok (by omega) hf (z:=213) (by first|exact chgO_gone|exact chgO_held hk hk5|exact chgO_soon hk hk5 ht) (by decide)];exact⟨rfl,⟨_,_,_,_,_,_,md.ext e0⟩,RG.ofExt e0⟩
     ·skip
      refine cD [0,0,2,6,14,31,63,127,127,255,1023] 10 mixed hF ?_
      refine mR 1 1 0 m21 ?_
      refine mP 15 [1,2,3] [pV rb,pV rb,.pointer (some ⟨rb,2,none⟩)] ?_
      replace e0:=(e0.ext g20).grew g23 (sep.l 0)
      refine mO 31 17 4 2 (.int .i64 M.t) (e0.blk hm) ?_
      refine mG0 63 63 5 (rdel_held _ ob oe [] ca cc M.t) ?_
      rintro _ h39 ⟨rfl,g38⟩
      refine mP 511 [6,7,8] [.tuple #[.agg (rc rb0 (0:Int) false false (.slice none 0 0)).toArray,.int .i64 214],.agg (rc rb0 (0:Int) false false (.slice none 0 0)).toArray,.int .i64 214] ?_
      replace m21:=m21.x g38
      refine mV 1023 767 9 0 (rc rb0 (0:Int) false false (.slice none 0 0)) (rc rb0 (0:Int) false false (.slice none 0 0)) m21 fun h40 g41 zq=> ?_
      replace m21:=zq
      refine mP 2047 [10] [.int .i64 214] ?_
      refine mE [(6,.int .i64 214)] fun a hF=> ?_
      refine bK ?_
      refine tK ?_
      refine cS ?_
      refine qP [(74,.bool false)] hF fun a hF=> ?_
      refine cF 74 hF ?_
      refine cN ?_
      refine tK ?_
      refine qP [(4,.int .i64 214)] hF fun a hF=> ?_
      refine cR ?_
      refine rT 4 (.int .i64 214) hF ?_
      replace e0:=(e0.ext g38).grew g41 (sep.l 0)
      rw[chg_no hok (by omega) hf (z:=214) (by first|exact chgO_gone|exact chgO_held hk hk5|exact chgO_soon hk hk5 ht) (by decide)];exact⟨rfl,⟨_,_,_,_,_,_,md.ext e0⟩,RG.ofExt e0⟩
     ·skip
      refine cD [0,0,2,6,14,31,63,127,127,255,1023] 10 mixed hF ?_
      refine mR 1 1 0 m21 ?_
      refine mP 15 [1,2,3] [pV rb,pV rb,.pointer (some ⟨rb,2,none⟩)] ?_
      replace e0:=(e0.ext g20).grew g23 (sep.l 0)
      refine mO 31 17 4 2 (.int .i64 M.t) (e0.blk hm) ?_
      refine mG0 63 63 5 (rdel_soon _ ob oe [] ca cc M.t ht) ?_
      rintro _ h43 ⟨rfl,g42⟩
      refine mP 511 [6,7,8] [.tuple #[.agg (rc rb0 (0:Int) false false (.slice none 0 0)).toArray,.int .i64 214],.agg (rc rb0 (0:Int) false false (.slice none 0 0)).toArray,.int .i64 214] ?_
      replace m21:=m21.x g42
      refine mV 1023 767 9 0 (rc rb0 (0:Int) false false (.slice none 0 0)) (rc rb0 (0:Int) false false (.slice none 0 0)) m21 fun h44 g45 zq=> ?_
      replace m21:=zq
      refine mP 2047 [10] [.int .i64 214] ?_
      refine mE [(6,.int .i64 214)] fun a hF=> ?_
      refine bK ?_
      refine tK ?_
      refine cS ?_
      refine qP [(74,.bool false)] hF fun a hF=> ?_
      refine cF 74 hF ?_
      refine cN ?_
      refine tK ?_
      refine qP [(4,.int .i64 214)] hF fun a hF=> ?_
      refine cR ?_
      refine rT 4 (.int .i64 214) hF ?_
      replace e0:=(e0.ext g42).grew g45 (sep.l 0)
      rw[chg_no hok (by omega) hf (z:=214) (by first|exact chgO_gone|exact chgO_held hk hk5|exact chgO_soon hk hk5 ht) (by decide)];exact⟨rfl,⟨_,_,_,_,_,_,md.ext e0⟩,RG.ofExt e0⟩
     ·skip
      refine cD [0,0,2,6,14,31,63,127,127,255,1023] 10 mixed hF ?_
      refine mR 1 1 0 m21 ?_
      refine mP 15 [1,2,3] [pV rb,pV rb,.pointer (some ⟨rb,2,none⟩)] ?_
      replace e0:=(e0.ext g20).grew g23 (sep.l 0)
      refine mO 31 17 4 2 (.int .i64 M.t) (e0.blk hm) ?_
      refine mG0 63 63 5 (rdel_ok _ ob oe [] ca cc M.t ht) ?_
      rintro _ h47 ⟨rfl,g46⟩
      refine mP 511 [6,7,8] [.tuple #[.agg (rc ob oe false true (.slice none 0 0)).toArray,.int .i64 0],.agg (rc ob oe false true (.slice none 0 0)).toArray,.int .i64 0] ?_
      replace m21:=m21.x g46
      refine mV 1023 767 9 0 (rc ob oe false true (.slice none 0 0)) (rc ob oe false true (.slice none 0 0)) m21 fun h48 g49 zq=> ?_
      replace m21:=zq
      refine mP 2047 [10] [.int .i64 0] ?_
      refine mE [(6,.int .i64 0)] fun a hF=> ?_
      refine bK ?_
      refine tK ?_
      refine cS ?_
      refine qP [(74,.bool true)] hF fun a hF=> ?_
      refine cT 74 hF ?_
      refine rS hF ?_
      refine tR 2 m21 ?_
      replace sep:=((sep.up g23.size).up g46.size).up g49.size
      replace e0:=(e0.ext g46).grew g49 (sep.l 0)
      replace m3:=(m3.x g46).y g49 (sep.bp 1 0)
      refine tG 3 (rset_sat _ rb M A B _ _ oc ea ec es (md.ext e0) oe false true none 0 (Row.nil _ 4) hE) ?_
      rintro _ h50 ⟨hfin,gm⟩
      have gk:=(RG.ofExt e0).then gm
      refine sE [] fun a hF=> ?_
      refine tK ?_
      refine qP [(4,.int .i64 0)] hF fun a hF=> ?_
      refine cR ?_
      refine rT 4 (.int .i64 0) hF ?_
      rw[chg_ok hok (by omega) hf (o':=⟨ob,oe,false,true,od⟩) (by first|exact chgO_lock hk.1 |exact chgO_hold hk5|exact chgO_del hk hk5 ht)];exact⟨rfl,hfin,gk⟩
end Go.Proofs.YtegkejcglfgpmaaGreatDoor
end
section
namespace Go.Proofs.YtegkejcglfgpmaaGreatDoor
open Go Go.Lane Go.Sha
theorem rincl_q(h:Heap)(L:List Hs)(va:Option Addr)(vc n:Nat)(hL:HR h va vc n L)(hn:n≤1099511627000)(i:Int)(p:List Hs)(e:Int)(hz:inclZ L i=(p,e)):Sat Tryz.prog 85 #[.slice va n vc,.int .i64 i] h fun v h'=>∃ad cap,v= .tuple #[.slice ad p.length cap,.int .i64 e]∧Own h' (.slice ad p.length cap) 39 p.length 32 (hcs p)∧(∀k,ad.map (fun(x:Addr)=>x.block)=some k→h.size ≤k)∧Ext h h':=
 (rincl_at h L va vc n hL hn i p e hz).mono fun v h' ⟨s,hv,ad,cap,hs,o,hge,g⟩=>by
  subst hs
  exact⟨ad,cap,hv,o,hge,g⟩
theorem rroot_q(h:Heap)(L:List Hs)(va:Option Addr)(vc n:Nat)(hL:HR h va vc n L)(hn:n≤1099511627000):Sat Tryz.prog 42 #[.slice va n vc] h fun v h'=>v= .agg ((hl (rbh (root L))).map bv).toArray ∧Ext h h':=by
 rw[hl_rbh (root_len hL.2.1)];exact rroot_sat h L va vc n hL hn
noncomputable def b40:Code:=Tryz.f40.body.getD .skip
set_option maxHeartbeats 1000000 in
theorem rask_sat {W:Nat→Prop}(h:Heap)(rb:Nat)(M:Md)(T:List RO)(oa:Option Addr)(oc:Nat)(ea:Option Addr)(ec:Nat)(es:List Value)(md:RModA W h rb M T oa oc ea ec es)(kd n:Int)(s:ByteArray)(pa:Option Addr)(on pc:Nat)(ka:Option Addr)(kn kc:Nat)(hsz:s.size ≤9223372036854775807)(hE:M.E.length ≤1099511627)(A0:An)(hA0:askM M kd s=A0):Sat Tryz.prog 40 #[.pointer (some ⟨rb,0,none⟩),.agg #[.int .i64 kd,.string s,.slice pa on pc,.int .i64 n,.slice ka kn kc]] h fun v h'=>AnsAt h' v A0∧Ext h h':=by
 subst hA0
 have hm:=md.hm
 have hbr:=blk_lt hm
 have hLn:=md.ln
 have e0:=Ext.refl h
 have sep:Sep h.size h.size []:=Sep.nil _ _
 refine sat_in Tryz.func40 65 fun a hF=> ?_
 refine qS hF ?_
 refine tN 0 (pV h.size) #[.int .i64 kd,.string s,.slice pa on pc,.int .i64 n,.slice ka kn kc] 35 fun h1 g2 m3=> ?_
 replace sep:=sep.nw e0.size m3
 refine tN 1 (pV h1.size) ((asc (0:Int) (.slice none 0 0) rb0 (0:Int) false false (.slice none 0 0) (0:Int) rb0 (0:Int) (.slice none 0 0)).toArray) 47 fun h4 g5 m6=> ?_
 replace e0:=e0.ext g2
 replace sep:=sep.nw e0.size m6
 refine sT [(3,pV h.size),(4,pV h1.size)] fun a hF=> ?_
 refine cS ?_
 rcases md.cases3 s with hok|⟨hok,hf,A,B,rfl,hA,hB⟩|⟨hok,A,x,B,rfl,hA,rfl,hf⟩
 ·skip
  refine rS hF ?_
  replace m3:=m3.x g5
  refine tO 2 1 m3 ?_
  replace e0:=e0.ext g5
  refine tC 3 (.tuple #[.int .i64 0,.int .i64 210]) (Does.call (f:=80) (args:= #[pV rb,.string s]) (by kernel_rfl) (rfind_sat _ rb M T oa oc ea ec es (md.ext e0) s hsz 0 210 (.inl ⟨hok,rfl,rfl⟩) hE)) ?_
  refine sE [(5,.int .i64 0),(6,.int .i64 210)] fun a hF=> ?_
  refine tK ?_
  refine cS ?_
  refine qP [(18,.bool true)] hF fun a hF=> ?_
  refine cT 18 hF ?_
  refine qS hF ?_
  refine tV0 2 (asc (210:Int) (.slice none 0 0) rb0 (0:Int) false false (.slice none 0 0) (0:Int) rb0 (0:Int) (.slice none 0 0)) m6 fun h7 g8 zq=> ?_
  replace m6:=zq
  refine sT [] fun a hF=> ?_
  refine cR (yT ?_)
  refine rB m6 hF ?_
  replace e0:=e0.grew g8 (sep.l 0)
  rw[askM_id hok];exact⟨ansC _ 210,e0⟩
 ·skip
  refine rS hF ?_
  replace m3:=m3.x g5
  refine tO 2 1 m3 ?_
  replace e0:=e0.ext g5
  refine tC 3 (.tuple #[.int .i64 0,.int .i64 211]) (Does.call (f:=80) (args:= #[pV rb,.string s]) (by kernel_rfl) (rfind_sat _ rb M (A++B) oa oc ea ec es (md.ext e0) s hsz 0 211 (.inr (.inl ⟨hok,⟨_,.no hA hB⟩,rfl,rfl⟩)) hE)) ?_
  refine sE [(5,.int .i64 0),(6,.int .i64 211)] fun a hF=> ?_
  refine tK ?_
  refine cS ?_
  refine qP [(18,.bool true)] hF fun a hF=> ?_
  refine cT 18 hF ?_
  refine qS hF ?_
  refine tV0 2 (asc (211:Int) (.slice none 0 0) rb0 (0:Int) false false (.slice none 0 0) (0:Int) rb0 (0:Int) (.slice none 0 0)) m6 fun h9 g10 zq=> ?_
  replace m6:=zq
  refine sT [] fun a hF=> ?_
  refine cR (yT ?_)
  refine rB m6 hF ?_
  replace e0:=e0.grew g10 (sep.l 0)
  rw[askM_none hok hf];exact⟨ansC _ 211,e0⟩
 ·skip
  have hAl:A.length <(A++x::B).length :=ro_lt
  obtain⟨k1,k2,k3,k4⟩:=md.ob x (by simp)
  refine rS hF ?_
  replace m3:=m3.x g5
  refine tO 2 1 m3 ?_
  replace e0:=e0.ext g5
  refine tC 3 (.tuple #[nV A.length,.int .i64 0]) (Does.call (f:=80) (args:= #[pV rb,.string x.o.b.id]) (by kernel_rfl) (rfind_sat _ rb M (A++x::B) oa oc ea ec es (md.ext e0) x.o.b.id hsz A.length 0 (.inr (.inr ⟨hok,.yes hA rfl,rfl⟩)) hE)) ?_
  refine sE [(5,nV A.length),(6,.int .i64 0)] fun a hF=> ?_
  refine tK ?_
  refine cS ?_
  refine qP [(18,.bool false)] hF fun a hF=> ?_
  refine cF 18 hF ?_
  refine cN ?_
  refine tK ?_
  refine cS ?_
  have hFn:=hF
  obtain⟨ao,rfl,hcap_ao⟩:=md.row.1.someA (by omega)
  have hF:=hFn;clear hFn
  ·skip
   refine rS hF ?_
   refine tO 3 0 (e0.blk hm) ?_
   refine tI 5 ao ((A++x::B).length) 40 A.length (A.length *40) ?_
   refine tC 6 (.agg (obx x.o.b x.o.e x.o.ho x.o.go (.slice x.ca 0 x.cc) (.slice x.ba x.o.dt.length x.bc)).toArray) (Calm.load (T:=97) (p:=(Addr.add ao (A.length *40))) (by kernel_rfl) (Row.ro (md.row.1.ext e0) ro_mid (by kernel_rfl) rfl)) ?_
   refine tN 7 (pV h4.size) ((obx rb0 (0:Int) false false (.slice none 0 0) (.slice none 0 0)).toArray) 97 fun h11 g12 m13=> ?_
   replace sep:=sep.nw e0.size m13
   refine tV0 8 (obx x.o.b x.o.e x.o.ho x.o.go (.slice x.ca 0 x.cc) (.slice x.ba x.o.dt.length x.bc)) m13 fun h14 g15 zq=> ?_
   replace m13:=zq
   refine sE [(7,pV h4.size)] fun a hF=> ?_
   refine tK ?_
   refine cS ?_
   refine qS hF ?_
   replace m3:=(m3.x g12).y g15 (sep.bp 2 0)
   refine tO 1 0 m3 ?_
   refine sT [(29,.int .i64 kd)] fun a hF=> ?_
   refine cB 0 ?_
   refine qP [(30,.bool (decide (kd=(3:Int))))] hF fun a hF=> ?_
   refine cJ 30 hF (fun hc16=> ?_) fun hc16=> ?_
   ·skip
    refine qS hF ?_
    refine tQ 1 0 (rc x.o.b x.o.e x.o.ho x.o.go (.slice x.ca 0 x.cc)) m13 ?_
    refine tG 2 (rstat_sat _ x.o.b x.o.e x.o.ho x.o.go (.slice x.ca 0 x.cc)) ?_
    rintro _ h18 ⟨rfl,g17⟩
    replace m6:=((m6.x g12).y g15 (sep.bp 1 0)).x g17
    refine tV0 4 (asc (0:Int) (.slice none 0 0) x.o.b x.o.e x.o.ho x.o.go (.slice none 0 0) (0:Int) rb0 (0:Int) (.slice none 0 0)) m6 fun h19 g20 zq=> ?_
    replace m6:=zq
    refine sT [] fun a hF=> ?_
    refine cR (yB (yT ?_))
    refine rB m6 hF ?_
    replace e0:=(((e0.ext g12).grew g15 (sep.l 0)).ext g17).grew g20 (sep.l 1)
    rw[askM_stat hok hf hc16];exact⟨ansR_mk rfl (Own.nil _ _ _) (Own.nil _ _ _) (Own.nil _ _ _) All32.nil,e0⟩
   ·skip
    refine qP [(36,.bool (decide (kd=(16:Int))))] hF fun a hF=> ?_
    refine cJ 36 hF (fun hc21=> ?_) fun hc21=> ?_
    ·skip
     refine cS ?_
     refine cD [0,1,0,4,12,31,63,127,127,255,1023] 9 mixed hF ?_
     refine mP 13 [0,2,3] [pV rb,pV h4.size,.pointer (some ⟨h4.size,34,none⟩)] ?_
     refine mO 29 16 4 34 (.int .i64 x.o.b.idx) m13 ?_
     replace e0:=(e0.ext g12).grew g15 (sep.l 0)
     refine mFp 31 3 1 [4] (Does.call (f:=43) (args:= #[.pointer (some ⟨rb,0,none⟩)]) (by kernel_rfl) (rleaves_sat _ rb M (A++x::B) _ oc ea ec es (md.ext e0) hE)) ?_
     rintro _ h26 ⟨ad22,cap23,rfl,own_l,hg25,g24⟩
     replace sep:=(sep.up g15.size).co g24 hg25 own_l e0.size
     replace m13:=m13.x g24
     refine⟨?_,?_⟩
     ·intro j hj
      simp only[List.mem_cons,List.not_mem_nil,or_false] at hj
      subst hj
      exact goodOf (Calm.load (T:=3) (p:=⟨h4.size,34,none⟩) (by kernel_rfl) (Loads.one (k:=1) (by kernel_rfl) ((hcell_blk m13).trans (rfl))))
     obtain⟨p,hz⟩:=incl_in (md.ix _ _ k1)
     refine mG0 63 63 5 (rincl_q _ (ledH M.E) _ _ M.E.length (HR.of own_l (ledH_32 _)) (by omega) x.o.b.idx p 0 hz) ?_
     rintro _ h31 ⟨ad27,cap28,rfl,own_p,hg30,g29⟩
     replace e0:=e0.ext g24
     replace sep:=sep.co g29 hg30 own_p e0.size
     refine mP 2047 [6,7,8,9,10] [.tuple #[.slice ad27 p.length cap28,.int .i64 0],.slice ad27 p.length cap28,.int .i64 0,.slice ad27 p.length cap28,.int .i64 0] ?_
     refine mE [(8,.slice ad27 p.length cap28)] fun a hF=> ?_
     refine tK ?_
     refine qS hF ?_
     replace m13:=m13.x g29
     refine tO 2 34 m13 ?_
     replace m6:=(((m6.x g12).y g15 (sep.bp 3 2)).x g24).x g29
     refine tV0 5 (asc (0:Int) (.slice none 0 0) rb0 (0:Int) false false (.slice none 0 0) (0:Int) rb0 x.o.b.idx (.slice ad27 p.length cap28)) m6 fun h32 g33 zq=> ?_
     replace m6:=zq
     refine sT [] fun a hF=> ?_
     refine cR (yB (yT ?_))
     refine rB m6 hF ?_
     have hpp:(inclZ (ledH M.E) x.o.b.idx).1 =p:=by rw[hz]
     replace e0:=(e0.ext g29).grew g33 (sep.l 3)
     replace own_p:=own_p.k g33 (sep.ap 0 3)
     rw[askM_prove hok hf hc21 hz];exact⟨ansR_mk rfl (Own.nil _ _ _) (Own.nil _ _ _) own_p (hpp▸inclZ_32 (ledH_32 _) _),e0⟩
    ·skip
     refine cN ?_
     refine bK ?_
     refine tK ?_
     refine cS ?_
     refine qS hF ?_
     refine tO 2 37 m13 ?_
     refine sT [(54,.bool x.o.go)] fun a hF=> ?_
     refine cC 54 x.o.go hF (fun hc34=> ?_) (fun hc34=> ?_)
     ·skip
      have hgo:=hc34
      refine qS hF ?_
      replace m6:=(m6.x g12).y g15 (sep.bp 1 0)
      refine tV0 1 (asc (213:Int) (.slice none 0 0) rb0 (0:Int) false false (.slice none 0 0) (0:Int) rb0 (0:Int) (.slice none 0 0)) m6 fun h35 g36 zq=> ?_
      replace m6:=zq
      refine sT [] fun a hF=> ?_
      refine cR (yT ?_)
      refine rB m6 hF ?_
      replace e0:=((e0.ext g12).grew g15 (sep.l 0)).grew g36 (sep.l 1)
      rw[askM_gone hok hf hc16 hc21 hgo];exact⟨ansC _ 213,e0⟩
     ·skip
      have hgo:=hc34
      refine cN ?_
      refine tK ?_
      refine cS ?_
      refine qS hF ?_
      refine tO 1 0 m3 ?_
      refine sT [(58,.bool (decide (kd=(2:Int))))] fun a hF=> ?_
      refine cJ 58 hF (fun hc37=> ?_) fun hc37=> ?_
      ·skip
       refine qS hF ?_
       refine tN 0 (.slice (some ⟨h14.size,0,none⟩) 0 0) #[] 5 fun h38 g39 m40=> ?_
       replace e0:=(e0.ext g12).grew g15 (sep.l 0)
       replace sep:=(sep.up g15.size).nw e0.size m40
       have own_v:Own h38 (.slice (some ⟨h14.size,0,none⟩) 0 0) 5 ([]:List UInt8).length 1 (([]:List UInt8).map bv):=Own.empty 1 m40
       replace sep:Sep h.size h38.size [(some ⟨h14.size,0,none⟩:Option Addr).map (·.block),some (h4.size),some (h1.size),some (h.size)]:=sep
       replace m6:=((m6.x g12).y g15 (sep.bp 2 1)).x g39
       replace e0:=e0.ext g39
       replace m3:=m3.x g39
       replace m13:=m13.x g39
       clear m40
       refine tO 2 39 m13 ?_
       refine tP 3 (0+x.o.dt.length) 1 (x.o.dt.map bv) own_v (k4.1.1.ext e0) (ones_map _) (fun ad41 cap42 h43 own_v g44 hb45=> ?_)
       have s46:=sep
       replace sep:=sep.sa g44 0 hb45 own_v e0.size;clear hb45
       replace m6:=m6.y g44 (s46.bp 2 0)
       refine tV0 5 (asc (0:Int) (.slice ad41 (0+x.o.dt.length) cap42) rb0 (0:Int) false false (.slice none 0 0) (0:Int) rb0 (0:Int) (.slice none 0 0)) m6 fun h47 g48 zq=> ?_
       replace m6:=zq
       refine sT [] fun a hF=> ?_
       refine cR (yT ?_)
       refine rB m6 hF ?_
       replace own_v:=own_v.k g48 (sep.ap 0 2)
       rw[Nat.zero_add] at own_v
       replace e0:=(e0.grew g44 (s46.l 0)).grew g48 (sep.l 2)
       rw[askM_get hok hf hc37 hgo,Nat.zero_add];exact⟨ansR_mk rfl own_v (Own.nil _ _ _) (Own.nil _ _ _) All32.nil,e0⟩
      ·skip
       refine cN ?_
       refine tK ?_
       refine qS hF ?_
       replace m6:=(m6.x g12).y g15 (sep.bp 1 0)
       refine tV0 1 (asc (0:Int) (.slice none 0 0) rb0 (0:Int) false false (.slice none 0 0) (0:Int) rb0 (0:Int) (.slice none 0 0)) m6 fun h49 g50 zq=> ?_
       replace m6:=zq
       refine sT [] fun a hF=> ?_
       refine cR ?_
       refine rB m6 hF ?_
       replace e0:=((e0.ext g12).grew g15 (sep.l 0)).grew g50 (sep.l 1)
       rw[askM_else hok hf hc16 hc21 hc37 hgo];exact⟨ansC _ 0,e0⟩
end Go.Proofs.YtegkejcglfgpmaaGreatDoor
end
