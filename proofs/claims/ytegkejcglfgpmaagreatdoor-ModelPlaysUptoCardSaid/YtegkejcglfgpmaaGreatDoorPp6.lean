/- The walks and the plain laws, part 6: RF, Plays, RG, PlaysL, RP, ModelPlaysCard. Conditions: those that each theorem names. -/
import Derived.Test.YtegkejcglfgpmaaGreatDoorPp5
section
namespace Go.Proofs.YtegkejcglfgpmaaGreatDoor
open Go Go.Lane Go.Sha
noncomputable def b18:Code:=Tryz.f18.body.getD .skip
theorem rdue_q{W:Nat→Prop}{h0:Heap}(h:Heap)(rb:Nat)(M:Md)(T:List RO)(oa:Option Addr)(oc:Nat)(ea:Option Addr)(ec:Nat)(es:List Value)(md:RModA W h0 rb M T oa oc ea ec es)(va:Option Addr)(vc:Nat)(hr:Row h (.slice va T.length vc) T.length 39 (rrow (T.map rcO)))(hE:M.E.length ≤1099511627):Sat Tryz.prog 41 #[.slice va T.length vc,.int .i64 M.t] h fun v h'=>∃ad cap,v= .slice ad (dueM M).length cap∧Own h' (.slice ad (dueM M).length cap) 9 (dueM M).length 1 ((dueM M).map Value.string)∧(∀k,ad.map (fun(x:Addr)=>x.block)=some k→h.size ≤k)∧Ext h h':=by
 have hl:(T.map rcO).length =T.length :=List.length_map _
 have hLn:=md.ln
 have:=rdue_sat h (T.map rcO) va vc M.t (by rw[hl];exact hr) (by rw[hl];omega)
 rw[hl] at this
 exact this.mono fun v h' ⟨S,ad,cap,hp,hs,e,o,hge,g⟩=>by
  have e2:=md.dueE hp hs
  have e3:S.length =(dueM M).length :=by rw[e2];simp[ids]
  rw[←e2,e3] at o
  rw[e3] at e
  exact⟨ad,cap,e,o,hge,g⟩
set_option maxHeartbeats 2000000 in
theorem rdo_sat {W:Nat→Prop}(h:Heap)(rb:Nat)(M:Md)(T:List RO)(oa:Option Addr)(oc:Nat)(ea:Option Addr)(ec:Nat)(es:List Value)(md:RModA W h rb M T oa oc ea ec es)(hW:∀k,W k→k<h.size)(kd n:Int)(s:ByteArray)(l:List UInt8)(pa:Option Addr)(pc:Nat)(ka:Option Addr)(kn kc:Nat)(hr:Row h (.slice pa l.length pc) l.length 1 (l.map bv))(hsz:s.size ≤9223372036854775807)(hE:M.E.length ≤1099511627):Sat Tryz.prog 18 #[.pointer (some ⟨rb,0,none⟩),.agg #[.int .i64 kd,.string s,.slice pa l.length pc,.int .i64 n,.slice ka kn kc]] h fun v h'=>AnsAt h' v (step M kd n s l).2 ∧RModW W h' rb (step M kd n s l).1 ∧RG rb h h':=by
 have hm:=md.hm
 have hbr:=blk_lt hm
 have hLn:=md.ln
 have e0:=Ext.refl h
 have sep:Sep h.size h.size []:=Sep.nil _ _
 refine sat_in Tryz.func18 133 fun a hF=> ?_
 refine qS hF ?_
 refine tN 0 (pV h.size) #[.int .i64 kd,.string s,.slice pa l.length pc,.int .i64 n,.slice ka kn kc] 35 fun h1 g2 m3=> ?_
 have lt4:=blk_lt m3
 have zs5:=e0.size
 replace sep:=sep.nw e0.size m3
 refine tN 1 (pV h1.size) ((asc (0:Int) (.slice none 0 0) rb0 (0:Int) false false (.slice none 0 0) (0:Int) rb0 (0:Int) (.slice none 0 0)).toArray) 47 fun h6 g7 m8=> ?_
 have lt9:=blk_lt m8
 replace e0:=e0.ext g2
 have zs10:=e0.size
 replace sep:=sep.nw e0.size m8
 refine sT [(3,pV h.size),(4,pV h1.size)] fun a hF=> ?_
 refine cS ?_
 refine qS hF ?_
 replace m3:=m3.x g7
 refine tO 1 0 m3 ?_
 refine sT [(9,.int .i64 kd)] fun a hF=> ?_
 refine cB 0 ?_
 refine qP [(11,.bool (decide (kd=(1:Int))))] hF fun a hF=> ?_
 refine cJ 11 hF (fun hc11=> ?_) fun hc11=> ?_
 ·skip
  refine qS hF ?_
  refine tO 2 1 m3 ?_
  refine tO 4 2 m3 ?_
  replace e0:=e0.ext g7
  refine tG 5 (rput_sat _ rb M T oa oc ea ec es (md.ext e0) (fun k hk=>Nat.lt_of_lt_of_le (hW k hk) e0.size) s hsz l pa pc (hr.ext e0) hE) ?_
  rintro _ h12 ⟨rfl,hmod,gm⟩
  have gk:RG rb h h12:=(RG.ofExt e0).then gm
  replace m8:h12[h1.size]? =_:=(gm.2 _ (blk_lt m8) (by omega)).trans m8
  replace sep:=sep.up gm.1
  refine tV0 7 (asc ((putM M s l).2) (.slice none 0 0) rb0 (0:Int) false false (.slice none 0 0) (0:Int) rb0 (0:Int) (.slice none 0 0)) m8 fun h13 g14 zq=> ?_
  replace hmod:=hmod.put1 g14 m8 (by decide) (by omega)
  replace m8:=zq
  refine sT [] fun a hF=> ?_
  refine cR (yB (yT ?_))
  refine rB m8 hF ?_
  replace gk:=gk.thenO g14 (fun x e=> .inr (by cases e;omega))
  rw[step_put hc11];exact⟨ansC _ _,hmod,gk⟩
 ·skip
  refine cS ?_
  refine qP [(20,.bool (decide (kd=(4:Int))))] hF fun a hF=> ?_
  refine cJ 20 hF (fun hc15=> ?_) fun hc15=> ?_
  ·skip
   refine cN ?_
   refine tK ?_
   refine cJ 20 hF (fun hx16=> ?_) fun hx16=>absurd hc15 hx16
   refine qS hF ?_
   refine tR 1 m3 ?_
   replace e0:=e0.ext g7
   refine tG 2 (rchange_sat _ rb M T oa oc ea ec es (md.ext e0) kd n s pa l.length pc ka kn kc hsz hE) ?_
   rintro _ h17 ⟨rfl,hmod,gm⟩
   have gk:RG rb h h17:=(RG.ofExt e0).then gm
   replace m8:h17[h1.size]? =_:=(gm.2 _ (blk_lt m8) (by omega)).trans m8
   replace sep:=sep.up gm.1
   refine tV0 4 (asc ((chg M kd n s).2) (.slice none 0 0) rb0 (0:Int) false false (.slice none 0 0) (0:Int) rb0 (0:Int) (.slice none 0 0)) m8 fun h18 g19 zq=> ?_
   replace hmod:=hmod.put1 g19 m8 (by decide) (by omega)
   replace m8:=zq
   refine sT [] fun a hF=> ?_
   refine cR (yB (yT ?_))
   refine rB m8 hF ?_
   replace gk:=gk.thenO g19 (fun x e=> .inr (by cases e;omega))
   rw[step_chg (by omega)];exact⟨ansC _ _,hmod,gk⟩
  ·skip
   refine qP [(20,.bool (decide (kd=(5:Int))))] hF fun a hF=> ?_
   refine cJ 20 hF (fun hc20=> ?_) fun hc20=> ?_
   ·skip
    refine cN ?_
    refine tK ?_
    refine cJ 20 hF (fun hx21=> ?_) fun hx21=>absurd hc20 hx21
    refine qS hF ?_
    refine tR 1 m3 ?_
    replace e0:=e0.ext g7
    refine tG 2 (rchange_sat _ rb M T oa oc ea ec es (md.ext e0) kd n s pa l.length pc ka kn kc hsz hE) ?_
    rintro _ h22 ⟨rfl,hmod,gm⟩
    have gk:RG rb h h22:=(RG.ofExt e0).then gm
    replace m8:h22[h1.size]? =_:=(gm.2 _ (blk_lt m8) (by omega)).trans m8
    replace sep:=sep.up gm.1
    refine tV0 4 (asc ((chg M kd n s).2) (.slice none 0 0) rb0 (0:Int) false false (.slice none 0 0) (0:Int) rb0 (0:Int) (.slice none 0 0)) m8 fun h23 g24 zq=> ?_
    replace hmod:=hmod.put1 g24 m8 (by decide) (by omega)
    replace m8:=zq
    refine sT [] fun a hF=> ?_
    refine cR (yB (yT ?_))
    refine rB m8 hF ?_
    replace gk:=gk.thenO g24 (fun x e=> .inr (by cases e;omega))
    rw[step_chg (by omega)];exact⟨ansC _ _,hmod,gk⟩
   ·skip
    refine rP [(20,.bool (decide (kd=(6:Int))))] hF fun a hF=> ?_
    refine tK ?_
    refine cJ 20 hF (fun hc25=> ?_) fun hc25=> ?_
    ·skip
     refine qS hF ?_
     refine tR 1 m3 ?_
     replace e0:=e0.ext g7
     refine tG 2 (rchange_sat _ rb M T oa oc ea ec es (md.ext e0) kd n s pa l.length pc ka kn kc hsz hE) ?_
     rintro _ h26 ⟨rfl,hmod,gm⟩
     have gk:RG rb h h26:=(RG.ofExt e0).then gm
     replace m8:h26[h1.size]? =_:=(gm.2 _ (blk_lt m8) (by omega)).trans m8
     replace sep:=sep.up gm.1
     refine tV0 4 (asc ((chg M kd n s).2) (.slice none 0 0) rb0 (0:Int) false false (.slice none 0 0) (0:Int) rb0 (0:Int) (.slice none 0 0)) m8 fun h27 g28 zq=> ?_
     replace hmod:=hmod.put1 g28 m8 (by decide) (by omega)
     replace m8:=zq
     refine sT [] fun a hF=> ?_
     refine cR (yB (yT ?_))
     refine rB m8 hF ?_
     replace gk:=gk.thenO g28 (fun x e=> .inr (by cases e;omega))
     rw[step_chg (by omega)];exact⟨ansC _ _,hmod,gk⟩
    ·skip
     refine cS ?_
     refine qP [(28,.bool (decide (kd=(2:Int))))] hF fun a hF=> ?_
     refine cJ 28 hF (fun hc29=> ?_) fun hc29=> ?_
     ·skip
      refine cN ?_
      refine tK ?_
      refine cJ 28 hF (fun hx30=> ?_) fun hx30=>absurd hc29 hx30
      refine qS hF ?_
      refine tR 1 m3 ?_
      obtain⟨A,hA⟩:∃A,askM M kd s=A:=⟨_,rfl⟩
      replace e0:=e0.ext g7
      refine tG 2 (rask_sat _ rb M T oa oc ea ec es (md.ext e0) kd n s pa l.length pc ka kn kc hsz hE A hA) ?_
      rintro _ h31 ⟨⟨qa,qc,ia,ic,pa2,pc2,rfl,r1,r2,r3,r4⟩,g⟩
      replace e0:=e0.ext g
      replace m3:=m3.x g
      replace m8:=m8.x g
      replace sep:=sep.up g.size
      clear g
      refine tV0 3 (asc A.c (.slice qa A.b.length qc) A.sx A.se A.sh A.sg (.slice ia A.i.length ic) A.n A.y A.k (.slice pa2 A.p.length pc2)) m8 fun h32 g33 zq=> ?_
      replace r1:=r1.put1 g33 m8 (by decide)
      replace r2:=r2.put1 g33 m8 (by decide)
      replace r3:=r3.put1 g33 m8 (by decide)
      replace m8:=zq
      refine sT [] fun a hF=> ?_
      refine cR (yB (yT ?_))
      refine rB m8 hF ?_
      replace e0:=e0.grew g33 (sep.l 0)
      rw[step_ask (by omega),hA];exact⟨⟨_,_,_,_,_,_,rfl,r1,r2,r3,r4⟩,⟨_,_,_,_,_,_,md.ext e0⟩,RG.ofExt e0⟩
     ·skip
      refine qP [(28,.bool (decide (kd=(3:Int))))] hF fun a hF=> ?_
      refine cJ 28 hF (fun hc34=> ?_) fun hc34=> ?_
      ·skip
       refine cN ?_
       refine tK ?_
       refine cJ 28 hF (fun hx35=> ?_) fun hx35=>absurd hc34 hx35
       refine qS hF ?_
       refine tR 1 m3 ?_
       obtain⟨A,hA⟩:∃A,askM M kd s=A:=⟨_,rfl⟩
       replace e0:=e0.ext g7
       refine tG 2 (rask_sat _ rb M T oa oc ea ec es (md.ext e0) kd n s pa l.length pc ka kn kc hsz hE A hA) ?_
       rintro _ h36 ⟨⟨qa,qc,ia,ic,pa2,pc2,rfl,r1,r2,r3,r4⟩,g⟩
       replace e0:=e0.ext g
       replace m3:=m3.x g
       replace m8:=m8.x g
       replace sep:=sep.up g.size
       clear g
       refine tV0 3 (asc A.c (.slice qa A.b.length qc) A.sx A.se A.sh A.sg (.slice ia A.i.length ic) A.n A.y A.k (.slice pa2 A.p.length pc2)) m8 fun h37 g38 zq=> ?_
       replace r1:=r1.put1 g38 m8 (by decide)
       replace r2:=r2.put1 g38 m8 (by decide)
       replace r3:=r3.put1 g38 m8 (by decide)
       replace m8:=zq
       refine sT [] fun a hF=> ?_
       refine cR (yB (yT ?_))
       refine rB m8 hF ?_
       replace e0:=e0.grew g38 (sep.l 0)
       rw[step_ask (by omega),hA];exact⟨⟨_,_,_,_,_,_,rfl,r1,r2,r3,r4⟩,⟨_,_,_,_,_,_,md.ext e0⟩,RG.ofExt e0⟩
      ·skip
       refine qP [(28,.bool (decide (kd=(16:Int))))] hF fun a hF=> ?_
       refine cJ 28 hF (fun hc39=> ?_) fun hc39=> ?_
       ·skip
        refine cN ?_
        refine tK ?_
        refine cJ 28 hF (fun hx40=> ?_) fun hx40=>absurd hc39 hx40
        refine qS hF ?_
        refine tR 1 m3 ?_
        obtain⟨A,hA⟩:∃A,askM M kd s=A:=⟨_,rfl⟩
        replace e0:=e0.ext g7
        refine tG 2 (rask_sat _ rb M T oa oc ea ec es (md.ext e0) kd n s pa l.length pc ka kn kc hsz hE A hA) ?_
        rintro _ h41 ⟨⟨qa,qc,ia,ic,pa2,pc2,rfl,r1,r2,r3,r4⟩,g⟩
        replace e0:=e0.ext g
        replace m3:=m3.x g
        replace m8:=m8.x g
        replace sep:=sep.up g.size
        clear g
        refine tV0 3 (asc A.c (.slice qa A.b.length qc) A.sx A.se A.sh A.sg (.slice ia A.i.length ic) A.n A.y A.k (.slice pa2 A.p.length pc2)) m8 fun h42 g43 zq=> ?_
        replace r1:=r1.put1 g43 m8 (by decide)
        replace r2:=r2.put1 g43 m8 (by decide)
        replace r3:=r3.put1 g43 m8 (by decide)
        replace m8:=zq
        refine sT [] fun a hF=> ?_
        refine cR (yB (yT ?_))
        refine rB m8 hF ?_
        replace e0:=e0.grew g43 (sep.l 0)
        rw[step_ask (by omega),hA];exact⟨⟨_,_,_,_,_,_,rfl,r1,r2,r3,r4⟩,⟨_,_,_,_,_,_,md.ext e0⟩,RG.ofExt e0⟩
       ·skip
        refine rP [(28,.bool (decide (kd=(15:Int))))] hF fun a hF=> ?_
        refine tK ?_
        refine cJ 28 hF (fun hc44=> ?_) fun hc44=> ?_
        ·skip
         refine qS hF ?_
         refine tR 1 m3 ?_
         obtain⟨A,hA⟩:∃A,askM M kd s=A:=⟨_,rfl⟩
         replace e0:=e0.ext g7
         refine tG 2 (rask_sat _ rb M T oa oc ea ec es (md.ext e0) kd n s pa l.length pc ka kn kc hsz hE A hA) ?_
         rintro _ h45 ⟨⟨qa,qc,ia,ic,pa2,pc2,rfl,r1,r2,r3,r4⟩,g⟩
         replace e0:=e0.ext g
         replace m3:=m3.x g
         replace m8:=m8.x g
         replace sep:=sep.up g.size
         clear g
         refine tV0 3 (asc A.c (.slice qa A.b.length qc) A.sx A.se A.sh A.sg (.slice ia A.i.length ic) A.n A.y A.k (.slice pa2 A.p.length pc2)) m8 fun h46 g47 zq=> ?_
         replace r1:=r1.put1 g47 m8 (by decide)
         replace r2:=r2.put1 g47 m8 (by decide)
         replace r3:=r3.put1 g47 m8 (by decide)
         replace m8:=zq
         refine sT [] fun a hF=> ?_
         refine cR (yB (yT ?_))
         refine rB m8 hF ?_
         replace e0:=e0.grew g47 (sep.l 0)
         rw[step_ask (by omega),hA];exact⟨⟨_,_,_,_,_,_,rfl,r1,r2,r3,r4⟩,⟨_,_,_,_,_,_,md.ext e0⟩,RG.ofExt e0⟩
        ·skip
         refine cS ?_
         refine qP [(36,.bool (decide (kd=(7:Int))))] hF fun a hF=> ?_
         refine cJ 36 hF (fun hc48=> ?_) fun hc48=> ?_
         ·skip
          refine cN ?_
          refine tK ?_
          refine cJ 36 hF (fun hx49=> ?_) fun hx49=>absurd hc48 hx49
          refine qS hF ?_
          refine tN 0 (.slice (some ⟨h6.size,0,none⟩) 0 0) #[] 9 fun h50 g51 m52=> ?_
          have lt53:=blk_lt m52
          replace e0:=e0.ext g7
          have zs54:=e0.size
          replace sep:=sep.nw e0.size m52
          have own_i:Own h50 (.slice (some ⟨h6.size,0,none⟩) 0 0) 9 ([]:List ByteArray).length 1 (([]:List ByteArray).map Value.string):=Own.empty 1 m52
          replace sep:Sep h.size h50.size [(some ⟨h6.size,0,none⟩:Option Addr).map (·.block),some (h1.size),some (h.size)]:=sep
          replace e0:=e0.ext g51
          replace m3:=m3.x g51
          replace m8:=m8.x g51
          clear m52 lt53 zs54
          refine sT [(5,.slice (some ⟨h6.size,0,none⟩) 0 0)] fun a hF=> ?_
          refine qS hF ?_
          refine tN 0 (.slice (some ⟨h50.size,0,none⟩) 0 0) #[] 95 fun h55 g56 m57=> ?_
          have lt58:=blk_lt m57
          have zs59:=e0.size
          replace sep:=sep.nw e0.size m57
          have own_r:Own h55 (.slice (some ⟨h50.size,0,none⟩) 0 0) 95 ([]:List Rec).length 39 (rrow []):=Own.empty 39 m57
          replace sep:Sep h.size h55.size [(some ⟨h50.size,0,none⟩:Option Addr).map (·.block),(some ⟨h6.size,0,none⟩:Option Addr).map (·.block),some (h1.size),some (h.size)]:=sep
          replace e0:=e0.ext g56
          replace own_i:=own_i.ext g56
          replace m3:=m3.x g56
          replace m8:=m8.x g56
          clear m57 lt58 zs59
          refine sT [(6,.slice (some ⟨h50.size,0,none⟩) 0 0)] fun a hF=> ?_
          refine cS ?_
          refine qP [(7,.int .i64 0)] hF fun a hF=> ?_
          refine cB 1 ?_
          refine cL (fun m a h'=>∃k:Nat,∃ni:Nat,∃ia:Option Addr,∃ic:Nat,∃ra:Option Addr,∃rd:Nat,m=T.length - k∧(Ext h h')∧(h'[h.size]? =some (.cells #[.int .i64 kd,.string s,.slice pa l.length pc,.int .i64 n,.slice ka kn kc] 35))∧(h'[h1.size]? =some (.cells (asc (0:Int) (.slice none 0 0) rb0 (0:Int) false false (.slice none 0 0) (0:Int) rb0 (0:Int) (.slice none 0 0)).toArray 47))∧(k≤T.length)∧((live ((T.take k).map rcO)).length =ni)∧(ni≤k)∧(Own h' (.slice ia ni ic) 9 ni 1 ((live ((T.take k).map rcO)).map Value.string))∧(Own h' (.slice ra k rd) 95 k 39 (rrow ((T.take k).map rcO)))∧(Sep h.size h'.size [ra.map (·.block),ia.map (·.block),some (h1.size),some (h.size)])∧(Fr a 133 [(0,.pointer (some ⟨rb,0,none⟩)),(3,.pointer (some ⟨h.size,0,none⟩)),(4,.pointer (some ⟨h1.size,0,none⟩)),(5,.slice ia ni ic),(6,.slice ra k rd),(7,.int .i64 ((k:Nat):Int))])) (T.length - 0) ⟨0,0,(some ⟨h6.size,0,none⟩),0,(some ⟨h50.size,0,none⟩),0,rfl,e0,m3,m8,(Nat.zero_le _),rfl,(Nat.le_refl _),own_i,own_r,sep,hF.to⟩ ?_
          clear hF a
          clear e0
          clear m3
          clear m8
          clear own_i
          clear own_r
          clear sep
          rintro m a h60 ⟨k,ni,ia,ic,ra,rd,rfl,e0,m3,m8,hk,hni,hnk,own_i,own_r,sep,hF⟩
          refine cS ?_
          refine qS hF ?_
          refine tO 4 0 (e0.blk hm) ?_
          refine sT [(47,.bool (decide (((k:Nat):Int)<((T.length :Nat):Int))))] fun a hF=> ?_
          refine cJ 47 hF (fun hc61=> ?_) fun hc61=> ?_
          ·skip
           have hkn:k<T.length :=by omega
           obtain⟨x,hx⟩:∃x,T[k]? =some x:=⟨_,List.getElem?_eq_getElem hkn⟩
           have hFn:=hF
           obtain⟨ao,rfl,hcap_ao⟩:=md.row.1.someA (by omega)
           have hF:=hFn;clear hFn
           refine cN ?_
           refine tK ?_
           refine cS ?_
           refine cB 2 ?_
           refine qS hF ?_
           refine tO 4 0 (e0.blk hm) ?_
           refine tI 6 ao T.length 40 k (k*40) ?_
           refine t1 7 (.pointer (some (Addr.add ao (k*40)))) (.pointer (some ((Addr.add ao (k*40)).add 0))) (by rw[add_add,Nat.add_zero]) ?_
           refine tC 8 (.agg (rc x.o.b x.o.e x.o.ho x.o.go (.slice x.ca 0 x.cc)).toArray) (Calm.load (T:=95) (p:=(Addr.add ao (k*40))) (by kernel_rfl) (Row.ror (md.row.1.ext e0) hx (by kernel_rfl) rfl)) ?_
           refine tN 9 (.slice (some ⟨h60.size,0,none⟩) 1 1) ((rc x.o.b x.o.e x.o.ho x.o.go (.slice x.ca 0 x.cc)).toArray) 95 fun h62 g63 m64=> ?_
           have lt65:=blk_lt m64
           have zs66:=e0.size
           replace sep:=sep.nw e0.size m64
           replace own_r:=own_r.ext g63
           refine tP 10 (k+1) 104 (rrow (((T.take k).map rcO)++[rcO x])) own_r (Row.one39 (x:=x) m64) (rrow_one _) (fun ad67 cap68 h69 own_r g70 hb71=> ?_) (ys:=(rrow ([rcO x]))) (hZ:=by first|rfl|exact List.flatMap_append.symm |simp[rrow])
           replace e0:=e0.ext g63
           have s72:=sep
           replace sep:=sep.sa g70 1 hb71 own_r e0.size;clear hb71
           refine sT [(6,.slice ad67 (k+1) cap68)] fun a hF=> ?_
           refine qS hF ?_
           replace e0:=e0.grew g70 (s72.l 1)
           refine tO 3 0 (e0.blk hm) ?_
           refine tI 5 ao T.length 40 k (k*40) ?_
           refine t1 6 (.pointer (some (Addr.add ao (k*40)))) (.pointer (some ((Addr.add ao (k*40)).add 0))) (by rw[add_add,Nat.add_zero]) ?_
           refine t1 7 (.pointer (some (Addr.add ao ((k*40)+37)))) (.pointer (some ((Addr.add ao (k*40)).add 37))) (by rw[add_add]) ?_
           refine tC 8 (.bool x.o.go) (Calm.load (T:=4) (p:=(Addr.add ao ((k*40)+37))) (by kernel_rfl) (Loads.one (k:=1) (by kernel_rfl) (Row.rogo (md.row.1.ext e0) hx))) ?_
           refine sT [(70,.bool (!x.o.go))] fun a hF=> ?_
           refine cC 70 (!x.o.go) hF (fun hc73=> ?_) (fun hc73=> ?_)
           ·skip
            have hgo:x.o.go =false:=by simpa using hc73
            refine rS hF ?_
            refine tO 4 0 (e0.blk hm) ?_
            refine tI 6 ao T.length 40 k (k*40) ?_
            refine t1 7 (.pointer (some (Addr.add ao (k*40)))) (.pointer (some ((Addr.add ao (k*40)).add 0))) (by rw[add_add,Nat.add_zero]) ?_
            refine t1 8 (.pointer (some (Addr.add ao (k*40)))) (.pointer (some ((Addr.add ao (k*40)).add 0))) (by rw[add_add,Nat.add_zero]) ?_
            refine tC 9 (.string x.o.b.id) (Calm.load (T:=9) (p:=(Addr.add ao (k*40))) (by kernel_rfl) (Loads.one (k:=1) (by kernel_rfl) (Row.roid (md.row.1.ext e0) hx))) ?_
            refine tN 10 (.slice (some ⟨h69.size,0,none⟩) 1 1) #[.string x.o.b.id] 9 fun h74 g75 m76=> ?_
            have lt77:=blk_lt m76
            have zs78:=e0.size
            replace sep:=sep.nw e0.size m76
            replace own_i:=((own_i.ext g63).k g70 (s72.ap 2 1)).ext g75
            refine tP 11 (ni+1) 16 (((live ((T.take k).map rcO))++[x.o.b.id]).map Value.string) own_i (Row.blk (n:=1) (sz:=1) (l:=[.string x.o.b.id]) m76 rfl) (List.all_eq_true.1 (by rfl)) (fun ad79 cap80 h81 own_i g82 hb83=> ?_) (ys:=(([x.o.b.id]).map Value.string))
            replace e0:=e0.ext g75
            have s84:=sep
            replace sep:=sep.sa g82 3 hb83 own_i e0.size;clear hb83
            refine sE [(5,.slice ad79 (ni+1) cap80)] fun a hF=> ?_
            refine bK ?_
            refine tK ?_
            refine rS hF ?_
            refine tA 1 k 1 ?_
            refine sE [(7,nV (k+1))] fun a hF=> ?_
            clear m64 lt65 zs66
            clear m76 lt77 zs78
            replace m3:=(((m3.x g63).y g70 (s72.bp 4 1)).x g75).y g82 (s84.bp 5 3)
            replace m8:=(((m8.x g63).y g70 (s72.bp 3 1)).x g75).y g82 (s84.bp 4 3)
            replace own_r:=(own_r.ext g75).k g82 (s84.ap 2 3)
            replace e0:=e0.grew g82 (s84.l 3)
            replace sep:=sep.sub (l':=[ad67.map (·.block),ad79.map (·.block),some (h1.size),some (h.size)]) (.cons _ (.cons _ (.cons_cons _ (.cons_cons _ (.cons_cons _ (.cons_cons _ (.slnil)))))))
            rw[←ro_next hx] at own_r
            rw[←live_here hx hgo] at own_i
            have hni2:=congrArg List.length (live_here hx hgo)
            rw[List.length_append,hni] at hni2
            show ∃m',m'<_∧_
            refine⟨_,?_,(k+1),(ni+1),ad79,cap80,ad67,cap68,rfl,e0,m3,m8,(by omega),hni2,(by omega),own_i,own_r,sep,hF.to⟩
            omega
           ·skip
            have hgo:x.o.go =true:=by simpa using hc73
            refine cN ?_
            refine bK ?_
            refine tK ?_
            refine rS hF ?_
            refine tA 1 k 1 ?_
            refine sE [(7,nV (k+1))] fun a hF=> ?_
            clear m64 lt65 zs66
            replace own_i:=(own_i.ext g63).k g70 (s72.ap 2 1)
            replace m3:=(m3.x g63).y g70 (s72.bp 4 1)
            replace m8:=(m8.x g63).y g70 (s72.bp 3 1)
            replace sep:=sep.sub (l':=[ad67.map (·.block),ia.map (·.block),some (h1.size),some (h.size)]) (.cons _ (.cons_cons _ (.cons_cons _ (.cons_cons _ (.cons_cons _ (.slnil))))))
            rw[←ro_next hx] at own_r
            rw[←live_gone hx hgo] at own_i
            have hni2:=(congrArg List.length (live_gone hx hgo)).trans hni
            show ∃m',m'<_∧_
            refine⟨_,?_,(k+1),ni,ia,ic,ad67,cap68,rfl,e0,m3,m8,(by omega),hni2,(by omega),own_i,own_r,sep,hF.to⟩
            omega
          ·skip
           refine cX 1 (xT (xT (xB ?_)))
           refine tK ?_
           refine cS ?_
           refine cS ?_
           obtain rfl:k=T.length :=by omega
           rw[List.take_length] at own_r own_i hni
           have hTl:(T.map rcO).length =T.length :=List.length_map _
           ·skip
            refine rS hF ?_
            refine tO 1 0 m3 ?_
            refine eF 2 kd 8 ?_
            refine sE [(85,.bool false)] fun a hF=> ?_
            refine tK ?_
            refine cF 85 hF ?_
            refine cN ?_
            refine tK ?_
            refine qS hF ?_
            refine tV0 2 (asc (0:Int) (.slice none 0 0) rb0 (0:Int) false false (.slice ia ni ic) (0:Int) rb0 (0:Int) (.slice none 0 0)) m8 fun h85 g86 zq=> ?_
            replace m8:=zq
            refine sT [] fun a hF=> ?_
            refine cR (yB (yT ?_))
            refine rB m8 hF ?_
            replace e0:=e0.grew g86 (sep.l 2)
            replace own_i:=own_i.k g86 (sep.ap 1 2)
            rw[step_ids hc48,md.idsE];rw[←hni] at own_i⊢;exact⟨ansR_mk rfl (Own.nil _ _ _) own_i (Own.nil _ _ _) All32.nil,⟨_,_,_,_,_,_,md.ext e0⟩,RG.ofExt e0⟩
         ·skip
          refine rP [(36,.bool (decide (kd=(8:Int))))] hF fun a hF=> ?_
          refine tK ?_
          refine cJ 36 hF (fun hc87=> ?_) fun hc87=> ?_
          ·skip
           refine qS hF ?_
           refine tN 0 (.slice (some ⟨h6.size,0,none⟩) 0 0) #[] 9 fun h88 g89 m90=> ?_
           have lt91:=blk_lt m90
           replace e0:=e0.ext g7
           have zs92:=e0.size
           replace sep:=sep.nw e0.size m90
           have own_i:Own h88 (.slice (some ⟨h6.size,0,none⟩) 0 0) 9 ([]:List ByteArray).length 1 (([]:List ByteArray).map Value.string):=Own.empty 1 m90
           replace sep:Sep h.size h88.size [(some ⟨h6.size,0,none⟩:Option Addr).map (·.block),some (h1.size),some (h.size)]:=sep
           replace e0:=e0.ext g89
           replace m3:=m3.x g89
           replace m8:=m8.x g89
           clear m90 lt91 zs92
           refine sT [(5,.slice (some ⟨h6.size,0,none⟩) 0 0)] fun a hF=> ?_
           refine qS hF ?_
           refine tN 0 (.slice (some ⟨h88.size,0,none⟩) 0 0) #[] 95 fun h93 g94 m95=> ?_
           have lt96:=blk_lt m95
           have zs97:=e0.size
           replace sep:=sep.nw e0.size m95
           have own_r:Own h93 (.slice (some ⟨h88.size,0,none⟩) 0 0) 95 ([]:List Rec).length 39 (rrow []):=Own.empty 39 m95
           replace sep:Sep h.size h93.size [(some ⟨h88.size,0,none⟩:Option Addr).map (·.block),(some ⟨h6.size,0,none⟩:Option Addr).map (·.block),some (h1.size),some (h.size)]:=sep
           replace e0:=e0.ext g94
           replace own_i:=own_i.ext g94
           replace m3:=m3.x g94
           replace m8:=m8.x g94
           clear m95 lt96 zs97
           refine sT [(6,.slice (some ⟨h88.size,0,none⟩) 0 0)] fun a hF=> ?_
           refine cS ?_
           refine qP [(7,.int .i64 0)] hF fun a hF=> ?_
           refine cB 1 ?_
           refine cL (fun m a h'=>∃k:Nat,∃ni:Nat,∃ia:Option Addr,∃ic:Nat,∃ra:Option Addr,∃rd:Nat,m=T.length - k∧(Ext h h')∧(h'[h.size]? =some (.cells #[.int .i64 kd,.string s,.slice pa l.length pc,.int .i64 n,.slice ka kn kc] 35))∧(h'[h1.size]? =some (.cells (asc (0:Int) (.slice none 0 0) rb0 (0:Int) false false (.slice none 0 0) (0:Int) rb0 (0:Int) (.slice none 0 0)).toArray 47))∧(k≤T.length)∧((live ((T.take k).map rcO)).length =ni)∧(ni≤k)∧(Own h' (.slice ia ni ic) 9 ni 1 ((live ((T.take k).map rcO)).map Value.string))∧(Own h' (.slice ra k rd) 95 k 39 (rrow ((T.take k).map rcO)))∧(Sep h.size h'.size [ra.map (·.block),ia.map (·.block),some (h1.size),some (h.size)])∧(Fr a 133 [(0,.pointer (some ⟨rb,0,none⟩)),(3,.pointer (some ⟨h.size,0,none⟩)),(4,.pointer (some ⟨h1.size,0,none⟩)),(5,.slice ia ni ic),(6,.slice ra k rd),(7,.int .i64 ((k:Nat):Int))])) (T.length - 0) ⟨0,0,(some ⟨h6.size,0,none⟩),0,(some ⟨h88.size,0,none⟩),0,rfl,e0,m3,m8,(Nat.zero_le _),rfl,(Nat.le_refl _),own_i,own_r,sep,hF.to⟩ ?_
           clear hF a
           clear e0
           clear m3
           clear m8
           clear own_i
           clear own_r
           clear sep
           rintro m a h98 ⟨k,ni,ia,ic,ra,rd,rfl,e0,m3,m8,hk,hni,hnk,own_i,own_r,sep,hF⟩
           refine cS ?_
           refine qS hF ?_
           refine tO 4 0 (e0.blk hm) ?_
           refine sT [(47,.bool (decide (((k:Nat):Int)<((T.length :Nat):Int))))] fun a hF=> ?_
           refine cJ 47 hF (fun hc99=> ?_) fun hc99=> ?_
           ·skip
            have hkn:k<T.length :=by omega
            obtain⟨x,hx⟩:∃x,T[k]? =some x:=⟨_,List.getElem?_eq_getElem hkn⟩
            have hFn:=hF
            obtain⟨ao,rfl,hcap_ao⟩:=md.row.1.someA (by omega)
            have hF:=hFn;clear hFn
            refine cN ?_
            refine tK ?_
            refine cS ?_
            refine cB 2 ?_
            refine qS hF ?_
            refine tO 4 0 (e0.blk hm) ?_
            refine tI 6 ao T.length 40 k (k*40) ?_
            refine t1 7 (.pointer (some (Addr.add ao (k*40)))) (.pointer (some ((Addr.add ao (k*40)).add 0))) (by rw[add_add,Nat.add_zero]) ?_
            refine tC 8 (.agg (rc x.o.b x.o.e x.o.ho x.o.go (.slice x.ca 0 x.cc)).toArray) (Calm.load (T:=95) (p:=(Addr.add ao (k*40))) (by kernel_rfl) (Row.ror (md.row.1.ext e0) hx (by kernel_rfl) rfl)) ?_
            refine tN 9 (.slice (some ⟨h98.size,0,none⟩) 1 1) ((rc x.o.b x.o.e x.o.ho x.o.go (.slice x.ca 0 x.cc)).toArray) 95 fun h100 g101 m102=> ?_
            have lt103:=blk_lt m102
            have zs104:=e0.size
            replace sep:=sep.nw e0.size m102
            replace own_r:=own_r.ext g101
            refine tP 10 (k+1) 104 (rrow (((T.take k).map rcO)++[rcO x])) own_r (Row.one39 (x:=x) m102) (rrow_one _) (fun ad105 cap106 h107 own_r g108 hb109=> ?_) (ys:=(rrow ([rcO x]))) (hZ:=by first|rfl|exact List.flatMap_append.symm |simp[rrow])
            replace e0:=e0.ext g101
            have s110:=sep
            replace sep:=sep.sa g108 1 hb109 own_r e0.size;clear hb109
            refine sT [(6,.slice ad105 (k+1) cap106)] fun a hF=> ?_
            refine qS hF ?_
            replace e0:=e0.grew g108 (s110.l 1)
            refine tO 3 0 (e0.blk hm) ?_
            refine tI 5 ao T.length 40 k (k*40) ?_
            refine t1 6 (.pointer (some (Addr.add ao (k*40)))) (.pointer (some ((Addr.add ao (k*40)).add 0))) (by rw[add_add,Nat.add_zero]) ?_
            refine t1 7 (.pointer (some (Addr.add ao ((k*40)+37)))) (.pointer (some ((Addr.add ao (k*40)).add 37))) (by rw[add_add]) ?_
            refine tC 8 (.bool x.o.go) (Calm.load (T:=4) (p:=(Addr.add ao ((k*40)+37))) (by kernel_rfl) (Loads.one (k:=1) (by kernel_rfl) (Row.rogo (md.row.1.ext e0) hx))) ?_
            refine sT [(70,.bool (!x.o.go))] fun a hF=> ?_
            refine cC 70 (!x.o.go) hF (fun hc111=> ?_) (fun hc111=> ?_)
            ·skip
             have hgo:x.o.go =false:=by simpa using hc111
             refine rS hF ?_
             refine tO 4 0 (e0.blk hm) ?_
             refine tI 6 ao T.length 40 k (k*40) ?_
             refine t1 7 (.pointer (some (Addr.add ao (k*40)))) (.pointer (some ((Addr.add ao (k*40)).add 0))) (by rw[add_add,Nat.add_zero]) ?_
             refine t1 8 (.pointer (some (Addr.add ao (k*40)))) (.pointer (some ((Addr.add ao (k*40)).add 0))) (by rw[add_add,Nat.add_zero]) ?_
             refine tC 9 (.string x.o.b.id) (Calm.load (T:=9) (p:=(Addr.add ao (k*40))) (by kernel_rfl) (Loads.one (k:=1) (by kernel_rfl) (Row.roid (md.row.1.ext e0) hx))) ?_
             refine tN 10 (.slice (some ⟨h107.size,0,none⟩) 1 1) #[.string x.o.b.id] 9 fun h112 g113 m114=> ?_
             have lt115:=blk_lt m114
             have zs116:=e0.size
             replace sep:=sep.nw e0.size m114
             replace own_i:=((own_i.ext g101).k g108 (s110.ap 2 1)).ext g113
             refine tP 11 (ni+1) 16 (((live ((T.take k).map rcO))++[x.o.b.id]).map Value.string) own_i (Row.blk (n:=1) (sz:=1) (l:=[.string x.o.b.id]) m114 rfl) (List.all_eq_true.1 (by rfl)) (fun ad117 cap118 h119 own_i g120 hb121=> ?_) (ys:=(([x.o.b.id]).map Value.string))
             replace e0:=e0.ext g113
             have s122:=sep
             replace sep:=sep.sa g120 3 hb121 own_i e0.size;clear hb121
             refine sE [(5,.slice ad117 (ni+1) cap118)] fun a hF=> ?_
             refine bK ?_
             refine tK ?_
             refine rS hF ?_
             refine tA 1 k 1 ?_
             refine sE [(7,nV (k+1))] fun a hF=> ?_
             clear m102 lt103 zs104
             clear m114 lt115 zs116
             replace m3:=(((m3.x g101).y g108 (s110.bp 4 1)).x g113).y g120 (s122.bp 5 3)
             replace m8:=(((m8.x g101).y g108 (s110.bp 3 1)).x g113).y g120 (s122.bp 4 3)
             replace own_r:=(own_r.ext g113).k g120 (s122.ap 2 3)
             replace e0:=e0.grew g120 (s122.l 3)
             replace sep:=sep.sub (l':=[ad105.map (·.block),ad117.map (·.block),some (h1.size),some (h.size)]) (.cons _ (.cons _ (.cons_cons _ (.cons_cons _ (.cons_cons _ (.cons_cons _ (.slnil)))))))
             rw[←ro_next hx] at own_r
             rw[←live_here hx hgo] at own_i
             have hni2:=congrArg List.length (live_here hx hgo)
             rw[List.length_append,hni] at hni2
             show ∃m',m'<_∧_
             refine⟨_,?_,(k+1),(ni+1),ad117,cap118,ad105,cap106,rfl,e0,m3,m8,(by omega),hni2,(by omega),own_i,own_r,sep,hF.to⟩
             omega
            ·skip
             have hgo:x.o.go =true:=by simpa using hc111
             refine cN ?_
             refine bK ?_
             refine tK ?_
             refine rS hF ?_
             refine tA 1 k 1 ?_
             refine sE [(7,nV (k+1))] fun a hF=> ?_
             clear m102 lt103 zs104
             replace own_i:=(own_i.ext g101).k g108 (s110.ap 2 1)
             replace m3:=(m3.x g101).y g108 (s110.bp 4 1)
             replace m8:=(m8.x g101).y g108 (s110.bp 3 1)
             replace sep:=sep.sub (l':=[ad105.map (·.block),ia.map (·.block),some (h1.size),some (h.size)]) (.cons _ (.cons_cons _ (.cons_cons _ (.cons_cons _ (.cons_cons _ (.slnil))))))
             rw[←ro_next hx] at own_r
             rw[←live_gone hx hgo] at own_i
             have hni2:=(congrArg List.length (live_gone hx hgo)).trans hni
             show ∃m',m'<_∧_
             refine⟨_,?_,(k+1),ni,ia,ic,ad105,cap106,rfl,e0,m3,m8,(by omega),hni2,(by omega),own_i,own_r,sep,hF.to⟩
             omega
           ·skip
            refine cX 1 (xT (xT (xB ?_)))
            refine tK ?_
            refine cS ?_
            refine cS ?_
            obtain rfl:k=T.length :=by omega
            rw[List.take_length] at own_r own_i hni
            have hTl:(T.map rcO).length =T.length :=List.length_map _
            ·skip
             refine rS hF ?_
             refine tO 1 0 m3 ?_
             refine eT 2 kd 8 ?_
             refine sE [(85,.bool true)] fun a hF=> ?_
             refine tK ?_
             refine cT 85 hF ?_
             refine rS hF ?_
             refine tO 4 2 (e0.blk hm) ?_
             refine tG 5 (rdue_q _ rb M T oa oc ea ec es md ra rd own_r.row hE) ?_
             rintro _ h125 ⟨ad123,cap124,rfl,ownx,hge,g⟩
             have hlo:=e0.size
             have sepo:=sep
             replace e0:=e0.ext g
             replace own_i:=own_i.ext g
             replace own_r:=own_r.ext g
             replace m3:=m3.x g
             replace m8:=m8.x g
             replace sep:=sep.up g.size
             replace sep:=sepo.cons (x:=ad123.map (fun(x:Addr)=>x.block)) g.size hlo (fun k e=>⟨hge k e,ownx.lt (by rw[blkOf_slice];exact e)⟩)
             have own_x:=ownx;clear ownx sepo hlo hge g
             refine sE [(5,.slice ad123 ((dueM M).length) cap124)] fun a hF=> ?_
             refine tK ?_
             refine qS hF ?_
             refine tV0 2 (asc (0:Int) (.slice none 0 0) rb0 (0:Int) false false (.slice ad123 ((dueM M).length) cap124) (0:Int) rb0 (0:Int) (.slice none 0 0)) m8 fun h126 g127 zq=> ?_
             replace m8:=zq
             refine sT [] fun a hF=> ?_
             refine cR (yB (yT ?_))
             refine rB m8 hF ?_
             replace e0:=e0.grew g127 (sep.l 3)
             replace own_x:=own_x.k g127 (sep.ap 0 3)
             rw[step_due hc87];exact⟨ansR_mk rfl (Own.nil _ _ _) own_x (Own.nil _ _ _) All32.nil,⟨_,_,_,_,_,_,md.ext e0⟩,RG.ofExt e0⟩
          ·skip
           refine qP [(94,.bool (decide (kd=(9:Int))))] hF fun a hF=> ?_
           refine cJ 94 hF (fun hc128=> ?_) fun hc128=> ?_
           ·skip
            refine cS ?_
            refine cD [0,1,3,7,15,0,32,96,255,511,1023] 28 mixed hF ?_
            refine mP 7 [0,1,2] [pV rb,pV rb,.pointer (some ⟨rb,1,none⟩)] ?_
            replace e0:=e0.ext g7
            refine mO 15 8 3 1 (.slice ea M.E.length ec) (e0.blk hm) ?_
            refine mP 63 [4,5] [nV M.E.length,pV rb] ?_
            refine mFp 127 96 6 [3] (Does.call (f:=43) (args:= #[.pointer (some ⟨rb,0,none⟩)]) (by kernel_rfl) (rleaves_sat _ rb M T oa oc ea ec es (md.ext e0) hE)) ?_
            rintro _ h133 ⟨ad129,cap130,rfl,own_l,hg132,g131⟩
            replace sep:=sep.co g131 hg132 own_l e0.size
            replace e0:=e0.ext g131
            refine⟨?_,?_⟩
            ·intro j hj
             simp only[List.mem_cons,List.not_mem_nil,or_false] at hj
             subst hj
             exact goodOf (Calm.load (T:=67) (p:=⟨rb,1,none⟩) (by kernel_rfl) (Loads.one (k:=1) (by kernel_rfl) ((hcell_blk (e0.blk hm)).trans rfl)))
            refine mFp 255 224 7 [3] (Does.call (f:=42) (args:= #[.slice ad129 M.E.length cap130]) (by kernel_rfl) (rroot_q _ (ledH M.E) _ _ M.E.length (HR.of own_l (ledH_32 _)) (by omega))) ?_
            rintro _ h135 ⟨rfl,g134⟩
            replace e0:=e0.ext g134
            refine⟨?_,?_⟩
            ·intro j hj
             simp only[List.mem_cons,List.not_mem_nil,or_false] at hj
             subst hj
             exact goodOf (Calm.load (T:=67) (p:=⟨rb,1,none⟩) (by kernel_rfl) (Loads.one (k:=1) (by kernel_rfl) ((hcell_blk (e0.blk hm)).trans rfl)))
            refine mP 1023 [8,9] [.agg (hdc ((M.E.length :Nat):Int) (rbh (root (ledH M.E)))).toArray,.agg (asc (0:Int) (.slice none 0 0) rb0 (0:Int) false false (.slice none 0 0) ((M.E.length :Nat):Int) (rbh (root (ledH M.E))) (0:Int) (.slice none 0 0)).toArray] ?_
            replace m8:=(m8.x g131).x g134
            refine mV 2047 2047 10 0 (asc (0:Int) (.slice none 0 0) rb0 (0:Int) false false (.slice none 0 0) ((M.E.length :Nat):Int) (rbh (root (ledH M.E))) (0:Int) (.slice none 0 0)) (asc (0:Int) (.slice none 0 0) rb0 (0:Int) false false (.slice none 0 0) ((M.E.length :Nat):Int) (rbh (root (ledH M.E))) (0:Int) (.slice none 0 0)) m8 fun h136 g137 zq=> ?_
            replace m8:=zq
            refine mE [] fun a hF=> ?_
            refine tK ?_
            refine cR (yB (yT ?_))
            refine rB m8 hF ?_
            replace e0:=e0.grew g137 (sep.l 1)
            rw[step_head hc128];exact⟨ansR_mk rfl (Own.nil _ _ _) (Own.nil _ _ _) (Own.nil _ _ _) All32.nil,⟨_,_,_,_,_,_,md.ext e0⟩,RG.ofExt e0⟩
           ·skip
            refine qP [(106,.bool (decide (kd=(10:Int))))] hF fun a hF=> ?_
            refine cJ 106 hF (fun hc138=> ?_) fun hc138=> ?_
            ·skip
             refine qS hF ?_
             refine tO 1 3 m3 ?_
             refine sT [(110,.bool (decide ((0:Int)<n)))] fun a hF=> ?_
             refine cJ 110 hF (fun hc139=> ?_) fun hc139=> ?_
             ·skip
              refine cD [0,0,2,6,14,0,32,0,128,384,896,1920,4064,8190,16383,32767,65535] 31 mixed hF ?_
              refine mP 15 [0,1,2,3] [pV rb,pV rb,pV rb,.pointer (some ⟨rb,2,none⟩)] ?_
              replace e0:=e0.ext g7
              refine mO 31 16 4 2 (.int .i64 M.t) (e0.blk hm) ?_
              refine mP 63 [5] [.pointer (some ⟨h.size,3,none⟩)] ?_
              refine mO 127 80 6 3 (.int .i64 n) m3 ?_
              refine mP 1023 [7,8,9] [pV rb,pV rb,.pointer (some ⟨rb,2,none⟩)] ?_
              refine mO 2047 1104 10 2 (.int .i64 M.t) (e0.blk hm) ?_
              refine m1 4095 11 (.int .i64 (1099511627776 - M.t)) (.int .i64 (IntKind.i64.wrap ((1099511627776:Int) - M.t))) (congrArg (Value.int .i64) (w64 (by have:=md.t0;have:=md.t1;omega) (by have:=md.t0;have:=md.t1;omega))) ?_
              refine m1 8191 12 (.int .i64 (min n (1099511627776 - M.t))) (.int .i64 (if (1099511627776 - M.t)<n then (1099511627776 - M.t) else n)) (congrArg (Value.int .i64) (by have:=md.t0;have:=md.t1;omega)) ?_
              refine m1 16383 13 (.int .i64 (M.t +min n (1099511627776 - M.t))) (.int .i64 (IntKind.i64.wrap (M.t +min n (1099511627776 - M.t)))) (congrArg (Value.int .i64) (w64 (by have:=md.t0;have:=md.t1;omega) (by have:=md.t0;have:=md.t1;omega))) ?_
              refine mP 65535 [14,15] [pV rb,.pointer (some ⟨rb,2,none⟩)] ?_
              have hmo:=e0.blk hm
              refine mF0 131071 131071 16 (Does.store (b:=rb) (off:=2) (vs:=[.int .i64 (M.t +min n (1099511627776 - M.t))]) (l:=[.slice oa T.length oc,.slice ea M.E.length ec,.int .i64 M.t]) (by kernel_rfl) hmo (of_decide_eq_true (by kernel_rfl)) (List.all_eq_true.1 (by kernel_rfl))) ?_
              rintro _ h140 ⟨rfl,hh⟩
              have gt:=hput_gr hh
              have hmn:h140[rb]? =some (.cells ([.slice oa T.length oc,.slice ea M.E.length ec,.int .i64 (M.t +min n (1099511627776 - M.t))]).toArray 86):=hput_at (off:=2) (vs:=[.int .i64 (M.t +min n (1099511627776 - M.t))]) (l:=[.slice oa T.length oc,.slice ea M.E.length ec,.int .i64 M.t]) hh (by kernel_rfl) hmo
              have ht0:=md.t0;have ht1:=md.t1
              have gm:RG rb _ h140:=RG.one (Ext.refl _) gt
              have hmod:RModW W h140 rb ⟨M.f,M.E,(M.t +min n (1099511627776 - M.t))⟩:=⟨_,_,_,_,_,_,(md.ext e0).tick gm hmn (by omega) (by omega)⟩
              have gk:RG rb h h140:=(RG.ofExt e0).then gm
              replace m8:h140[h1.size]? =_:=(gm.2 _ (blk_lt m8) (by omega)).trans m8
              replace sep:=sep.up gm.1
              refine mE [] fun a hF=> ?_
              refine bK ?_
              refine tK ?_
              refine qS hF ?_
              refine tV0 1 (asc (0:Int) (.slice none 0 0) rb0 (0:Int) false false (.slice none 0 0) (0:Int) rb0 (0:Int) (.slice none 0 0)) m8 fun h141 g142 zq=> ?_
              replace hmod:=hmod.put1 g142 m8 (by decide) (by omega)
              replace m8:=zq
              refine sT [] fun a hF=> ?_
              refine cR ?_
              refine rB m8 hF ?_
              replace gk:=gk.thenO g142 (fun x e=> .inr (by cases e;omega))
              rw[step_tick hc138,show max 0 n=n by omega];exact⟨ansC _ 0,hmod,gk⟩
             ·skip
              refine cN ?_
              refine bK ?_
              refine tK ?_
              refine qS hF ?_
              refine tV0 1 (asc (0:Int) (.slice none 0 0) rb0 (0:Int) false false (.slice none 0 0) (0:Int) rb0 (0:Int) (.slice none 0 0)) m8 fun h143 g144 zq=> ?_
              replace m8:=zq
              refine sT [] fun a hF=> ?_
              refine cR ?_
              refine rB m8 hF ?_
              replace e0:=(e0.ext g7).grew g144 (sep.l 0)
              rw[step_tick hc138,show M.t +min (max 0 n) (1099511627776 - M.t)=M.t by have:=md.t1;omega];exact⟨ansC _ 0,⟨_,_,_,_,_,_,md.ext e0⟩,RG.ofExt e0⟩
            ·skip
             refine cS ?_
             refine qP [(127,.bool (decide (kd=(11:Int))))] hF fun a hF=> ?_
             refine cJ 127 hF (fun hc145=> ?_) fun hc145=> ?_
             ·skip
              refine cN ?_
              refine tK ?_
              refine cJ 127 hF (fun hx146=> ?_) fun hx146=>absurd hc145 hx146
              refine cN ?_
              refine bK ?_
              refine tK ?_
              refine qS hF ?_
              refine tV0 1 (asc (0:Int) (.slice none 0 0) rb0 (0:Int) false false (.slice none 0 0) (0:Int) rb0 (0:Int) (.slice none 0 0)) m8 fun h147 g148 zq=> ?_
              replace m8:=zq
              refine sT [] fun a hF=> ?_
              refine cR ?_
              refine rB m8 hF ?_
              replace e0:=(e0.ext g7).grew g148 (sep.l 0)
              rw[step_still (by omega)];exact⟨ansC _ 0,⟨_,_,_,_,_,_,md.ext e0⟩,RG.ofExt e0⟩
             ·skip
              refine qP [(127,.bool (decide (kd=(12:Int))))] hF fun a hF=> ?_
              refine cJ 127 hF (fun hc149=> ?_) fun hc149=> ?_
              ·skip
               refine cN ?_
               refine tK ?_
               refine cJ 127 hF (fun hx150=> ?_) fun hx150=>absurd hc149 hx150
               refine cN ?_
               refine bK ?_
               refine tK ?_
               refine qS hF ?_
               refine tV0 1 (asc (0:Int) (.slice none 0 0) rb0 (0:Int) false false (.slice none 0 0) (0:Int) rb0 (0:Int) (.slice none 0 0)) m8 fun h151 g152 zq=> ?_
               replace m8:=zq
               refine sT [] fun a hF=> ?_
               refine cR ?_
               refine rB m8 hF ?_
               replace e0:=(e0.ext g7).grew g152 (sep.l 0)
               rw[step_still (by omega)];exact⟨ansC _ 0,⟨_,_,_,_,_,_,md.ext e0⟩,RG.ofExt e0⟩
              ·skip
               refine qP [(127,.bool (decide (kd=(13:Int))))] hF fun a hF=> ?_
               refine cJ 127 hF (fun hc153=> ?_) fun hc153=> ?_
               ·skip
                refine cN ?_
                refine tK ?_
                refine cJ 127 hF (fun hx154=> ?_) fun hx154=>absurd hc153 hx154
                refine cN ?_
                refine bK ?_
                refine tK ?_
                refine qS hF ?_
                refine tV0 1 (asc (0:Int) (.slice none 0 0) rb0 (0:Int) false false (.slice none 0 0) (0:Int) rb0 (0:Int) (.slice none 0 0)) m8 fun h155 g156 zq=> ?_
                replace m8:=zq
                refine sT [] fun a hF=> ?_
                refine cR ?_
                refine rB m8 hF ?_
                replace e0:=(e0.ext g7).grew g156 (sep.l 0)
                rw[step_still (by omega)];exact⟨ansC _ 0,⟨_,_,_,_,_,_,md.ext e0⟩,RG.ofExt e0⟩
               ·skip
                refine rP [(127,.bool (decide (kd=(14:Int))))] hF fun a hF=> ?_
                refine tK ?_
                refine cJ 127 hF (fun hc157=> ?_) fun hc157=> ?_
                ·skip
                 refine cN ?_
                 refine bK ?_
                 refine tK ?_
                 refine qS hF ?_
                 refine tV0 1 (asc (0:Int) (.slice none 0 0) rb0 (0:Int) false false (.slice none 0 0) (0:Int) rb0 (0:Int) (.slice none 0 0)) m8 fun h158 g159 zq=> ?_
                 replace m8:=zq
                 refine sT [] fun a hF=> ?_
                 refine cR ?_
                 refine rB m8 hF ?_
                 replace e0:=(e0.ext g7).grew g159 (sep.l 0)
                 rw[step_still (by omega)];exact⟨ansC _ 0,⟨_,_,_,_,_,_,md.ext e0⟩,RG.ofExt e0⟩
                ·skip
                 refine qS hF ?_
                 refine tV0 1 (asc (1:Int) (.slice none 0 0) rb0 (0:Int) false false (.slice none 0 0) (0:Int) rb0 (0:Int) (.slice none 0 0)) m8 fun h160 g161 zq=> ?_
                 replace m8:=zq
                 refine sT [] fun a hF=> ?_
                 refine cR (yB (yT ?_))
                 refine rB m8 hF ?_
                 replace e0:=(e0.ext g7).grew g161 (sep.l 0)
                 rw[step_no (by omega) (by omega) (by omega) (by omega) (by omega) (by omega) (by omega) (by omega)];exact⟨ansC _ 1,⟨_,_,_,_,_,_,md.ext e0⟩,RG.ofExt e0⟩
end Go.Proofs.YtegkejcglfgpmaaGreatDoor
end
section
namespace Go.Sha
open Go Go.Lane
/-! ### an answer's own rows, written over -/
section
variable {h h':Heap} {a b c:Option Addr} {n m q ca cb cc E F G sz tz uz:Nat} {xs ys zs:List Value}
theorem own_diff(o:Own h (.slice a n ca) E n sz xs)(p:Own h (.slice b m cb) F m tz ys)(hE:E≠F):∀k,a.map (fun(x:Addr)=>x.block)=some k→b.map (fun(x:Addr)=>x.block)≠some k:=by
  intro k h1 h2
  rcases o.2 with⟨e,_⟩|⟨g,off,cap,l,e,hg,_⟩
  · simp only[Value.slice.injEq] at e;rw[e.1] at h1;cases h1
  · rcases p.2 with ⟨e2, _⟩ | ⟨g2, off2, cap2, l2, e2, hg2, _⟩
    · simp only[Value.slice.injEq] at e2;rw[e2.1] at h2;cases h2
    · simp only [Value.slice.injEq] at e e2
      rw[e.1] at h1;rw[e2.1] at h2
      cases h1;cases h2
      rw[hg] at hg2;cases hg2;exact hE rfl
theorem own_sep3(o:Own h (.slice a n ca) E n sz xs)(p:Own h (.slice b m cb) F m tz ys)(r:Own h (.slice c q cc) G q uz zs)(h1:E≠F)(h2:E≠G)(h3:F≠G):Sep 0 h.size [a.map (fun(x:Addr)=>x.block),b.map (fun(x:Addr)=>x.block),c.map (fun(x:Addr)=>x.block)]:=by
  refine⟨?_, ?_⟩
  · intro x hx k e
    refine⟨Nat.zero_le _, ?_⟩
    simp only[List.mem_cons,List.not_mem_nil,or_false] at hx
    rcases hx with rfl|rfl|rfl
    · exact o.lt (by rw[blkOf_slice];exact e)
    · exact p.lt (by rw[blkOf_slice];exact e)
    · exact r.lt (by rw[blkOf_slice];exact e)
  · refine List.pairwise_cons.2 ⟨?_, List.pairwise_cons.2 ⟨?_, List.pairwise_cons.2 ⟨by simp, List.Pairwise.nil⟩⟩⟩
    · intro y hy k e
      simp only[List.mem_cons,List.not_mem_nil,or_false] at hy
      rcases hy with rfl|rfl
      · exact own_diff o p h1 k e
      · exact own_diff o r h2 k e
    · intro y hy k e
      simp only[List.mem_cons,List.not_mem_nil,or_false] at hy
      subst hy
      exact own_diff p r h3 k e
end
/-! ### beside both models: what is written past a mark -/
section
variable {lo:Nat} {h h':Heap} {b p rb c:Nat} {M:Md} {o:Option Nat} {v:Value} {n sz E:Nat} {xs:List Value}
theorem gr_of(g:Grew o h h'):Gr (fun i=>o=some i) h h':=⟨g.1,fun k hk hn=>g.2 k hk fun e=>hn e.symm⟩
theorem ModW.newer(m:ModW (fun k=>lo≤k) h b p M)(g:Grew o h h')(ho:∀i,o=some i→lo≤i)(hb:b<lo)(hp:p<lo):ModW (fun k=>lo≤k) h' b p M:=
  m.fr (F:=fun i=>o=some i) (gr_of g) (fun k hk=> .inr (ho k hk)) (fun e=>by have:=ho _ e;omega) fun e=>by have:=ho _ e;omega
theorem RModW.newB{cs:Array Value}{E:TypeId}{fr:Nat×Nat}(m:RModW (fun k=>lo≤k) h rb M)(g:Grew (some c) h h')(k:h[c]? =some (.cells cs E fr))(hE:E≠97)(hc:lo≤c)(hb:rb<lo):RModW (fun k=>lo≤k) h' rb M:=
  m.fr (F:=fun i=>some c=some i) (gr_of g) (fun i e=>by cases e;exact⟨.inr hc,NonT.cells k hE⟩) fun e=>by cases e;omega
theorem own_nonT{X:TypeId}(own:Own h v E n sz xs)(hE:E≠X){k:Nat}(e:blkOf v=some k):NonT X h k:=by
  rcases own.2 with⟨rfl,_⟩|⟨q,off,cap,l,rfl,q2,_⟩
  · cases e
  · simp only[blkOf,Option.some.injEq] at e;subst e;exact NonT.cells q2 hE
theorem RModW.newO(m:RModW (fun k=>lo≤k) h rb M)(g:Grew o h h')(own:Own h v E n sz xs)(hv:blkOf v=o)(hE:E≠97)(ho:∀i,o=some i→lo≤i)(hb:rb<lo):RModW (fun k=>lo≤k) h' rb M:=
  m.fr (F:=fun i=>o=some i) (gr_of g) (fun i e=>⟨.inr (ho i e),own_nonT own hE (hv.trans e)⟩) fun e=>by have:=ho _ e;omega
theorem _root_.Go.Lane.Own.rg{W:Nat→Prop}(own:Own h v E n sz xs)(g:RG rb h h')(m:RModW W h rb M)(hE:E≠86):Own h' v E n sz xs:=by
  obtain⟨_,_,_,_,_,_,m⟩:=m
  rcases own.2 with⟨rfl,h0⟩|⟨q,off,cap,l,rfl,q2,r⟩
  · exact⟨own.1, .inl ⟨rfl,h0⟩⟩
  · refine ⟨own.1, .inr ⟨q, off, cap, l, rfl, ?_, r⟩⟩
    rw[g.2 q (blk_lt q2) (fun e=>by have:=m.hm;rw[←e,q2] at this;cases this;exact hE rfl)];exact q2
def F3(mb mp rb i:Nat):Prop:=i=mb∨i=mp∨i=rb
def WR(lo c e k:Nat):Prop:=(lo≤k∧k<c)∨e≤k
def WP(lo c e:Nat)(qa ia pa:Option Addr)(k:Nat):Prop:=(lo≤k∧k<c)∨AF qa ia pa k∨e≤k
variable {mb mp:Nat} {h0:Heap} {qa ia pa:Option Addr} {F:Nat→Prop}
theorem ModW.wp{m:Nat}(d:ModW (fun k=>(lo≤k∧k<m)∨AF qa ia pa k) h b p M):ModW (WP lo m h.size qa ia pa) h b p M:=d.more fun _ e=>e.elim (fun a=> .inl (.inl a)) (Or.rec (fun a=> .inl (.inr a)) .inr)
theorem RModW.wr{m:Nat}(d:RModW (fun k=>lo≤k∧k<m) h rb M):RModW (WR lo m h.size) h rb M:=d.more fun _ e=>e
theorem g3_mg(g:Gr (F3 mb mp rb) h0 h)(k:MG mb mp h h'):Gr (F3 mb mp rb) h0 h':=⟨Nat.le_trans g.1 k.1,fun i hi hn=>(k.2 i (Nat.lt_of_lt_of_le hi g.1) fun e=>hn (e.elim .inl fun e=> .inr (.inl e))).trans (g.2 i hi hn)⟩
theorem g3_rg(g:Gr (F3 mb mp rb) h0 h)(k:RG rb h h'):Gr (F3 mb mp rb) h0 h':=⟨Nat.le_trans g.1 k.1,fun i hi hn=>(k.2 i (Nat.lt_of_lt_of_le hi g.1) fun e=>hn (.inr (.inr e))).trans (g.2 i hi hn)⟩
theorem g3_nw(g:Gr (F3 mb mp rb) h0 h)(k:Gr F h h')(hF:∀i,F i→h0.size ≤i):Gr (F3 mb mp rb) h0 h':=⟨Nat.le_trans g.1 k.1,fun i hi hn=>(k.2 i (Nat.lt_of_lt_of_le hi g.1) fun e=>by have:=hF i e;omega).trans (g.2 i hi hn)⟩
theorem Sep.nf{n:Nat}{l:List (Option Nat)}(s:Sep lo n l)(i j:Nat){x y:Option Nat}(hx:l[i]? =some x:=by rfl)(hy:l[j]? =some y:=by rfl)(hij:i≠j:=by decide):∀k,x=some k→¬y=some k:=fun k e=>s.ne hx hy hij k e
theorem _root_.Go.Lane.Own.le{ad:Option Addr}{n m:Nat}(o:Own h (.slice ad n m) E n sz xs):n≤9223372036854775807:=by
  rcases o.2 with⟨_,e⟩|⟨g,off,cap,l,_,_,h1,h2,_⟩
  · omega
  · unfold maxLen at h2;omega
end
section
variable {lo:Nat} {h:Heap} {a b c:Option Addr} {n m q ca cb cc E F G sz tz uz:Nat} {xs ys zs:List Value}
theorem af_lt(o:Own h (.slice a n ca) E n sz xs)(p:Own h (.slice b m cb) F m tz ys)(r:Own h (.slice c q cc) G q uz zs):∀k,AF a b c k→k<h.size :=fun k e=>by
  rcases e with e|e|e
  · exact o.lt (by rw[blkOf_slice];exact e)
  · exact p.lt (by rw[blkOf_slice];exact e)
  · exact r.lt (by rw[blkOf_slice];exact e)
theorem af_nonT{X:TypeId}(o:Own h (.slice a n ca) E n sz xs)(p:Own h (.slice b m cb) F m tz ys)(r:Own h (.slice c q cc) G q uz zs)(h1:E≠X)(h2:F≠X)(h3:G≠X):∀k,AF a b c k→NonT X h k:=fun k e=>by
  rcases e with e|e|e
  · exact own_nonT o h1 (by rw[blkOf_slice];exact e)
  · exact own_nonT p h2 (by rw[blkOf_slice];exact e)
  · exact own_nonT r h3 (by rw[blkOf_slice];exact e)
theorem af_sep(o:Own h (.slice a n ca) E n sz xs)(p:Own h (.slice b m cb) F m tz ys)(r:Own h (.slice c q cc) G q uz zs)(h1:E≠F)(h2:E≠G)(h3:F≠G)(hg:∀k,AF a b c k→lo≤k):Sep lo h.size [a.map (fun(x:Addr)=>x.block),b.map (fun(x:Addr)=>x.block),c.map (fun(x:Addr)=>x.block)]:=by
  have s:=own_sep3 o p r h1 h2 h3
  refine⟨fun x hx k e=>⟨hg k ?_,(s.1 x hx k e).2⟩,s.2⟩
  simp only[List.mem_cons,List.not_mem_nil,or_false] at hx
  rcases hx with rfl|rfl|rfl
  · exact .inl e
  · exact .inr (.inl e)
  · exact .inr (.inr e)
end
end Go.Sha
end
section
namespace Go.Proofs.YtegkejcglfgpmaaGreatDoor
open Go Go.Lane Go.Sha
noncomputable def b22:Code:=Tryz.f22.body.getD .skip
theorem spoil_a(h:Heap)(A:An)(qa ia pa:Option Addr)(qc ic pc:Nat)(B I Q:List Value)(own_b:Own h (.slice qa A.b.length qc) 5 A.b.length 1 B)(own_i:Own h (.slice ia A.i.length ic) 9 A.i.length 1 I)(own_p:Own h (.slice pa A.p.length pc) 39 A.p.length 32 Q)(hb:A.b.length ≤9223372036854775807)(hi:A.i.length ≤9223372036854775807)(hp:A.p.length ≤9223372036854775807):Sat Tryz.prog 22 #[.agg (asc A.c (.slice qa A.b.length qc) A.sx A.se A.sh A.sg (.slice ia A.i.length ic) A.n A.y A.k (.slice pa A.p.length pc)).toArray] h fun _ h'=>Gr (AF qa ia pa) h h':=by
 have g0:=Gr.start (AF qa ia pa) h
 have sep:=own_sep3 own_b own_i own_p (by decide) (by decide) (by decide)
 refine sat_in Tryz.func22 39 fun a hF=> ?_
 refine qS hF ?_
 refine tN 0 (pV h.size) ((asc A.c (.slice qa A.b.length qc) A.sx A.se A.sh A.sg (.slice ia A.i.length ic) A.n A.y A.k (.slice pa A.p.length pc)).toArray) 47 fun h1 g2 m3=> ?_
 replace sep:=sep.nw (Nat.zero_le _) m3
 refine sT [(1,pV h.size)] fun a hF=> ?_
 refine cS ?_
 refine qP [(2,.int .i64 0)] hF fun a hF=> ?_
 refine cB 0 ?_
 replace own_b:=own_b.ext g2
 replace own_i:=own_i.ext g2
 replace own_p:=own_p.ext g2
 replace g0:=g0.ext g2
 refine cL (fun m a h'=>∃k:Nat,∃Bx:List Value,m=A.b.length - k∧(Gr (AF qa ia pa) h h')∧(h'[h.size]? =some (.cells (asc A.c (.slice qa A.b.length qc) A.sx A.se A.sh A.sg (.slice ia A.i.length ic) A.n A.y A.k (.slice pa A.p.length pc)).toArray 47))∧(k≤A.b.length)∧(Own h' (.slice qa A.b.length qc) 5 A.b.length 1 Bx)∧(Own h' (.slice ia A.i.length ic) 9 A.i.length 1 I)∧(Own h' (.slice pa A.p.length pc) 39 A.p.length 32 Q)∧(Sep 0 h'.size [some (h.size),qa.map (·.block),ia.map (·.block),pa.map (·.block)])∧(Fr a 39 [(1,.pointer (some ⟨h.size,0,none⟩)),(2,.int .i64 ((k:Nat):Int))])) (A.b.length - 0) ⟨0,B,rfl,g0,m3,(Nat.zero_le _),own_b,own_i,own_p,sep,hF.to⟩ ?_
 clear hF a
 clear g0
 clear m3
 clear own_b
 clear own_i
 clear own_p
 clear sep
 rintro m a h4 ⟨k,Bx,rfl,g0,m3,hk,own_b,own_i,own_p,sep,hF⟩
 refine cS ?_
 refine qS hF ?_
 refine tO 2 1 m3 ?_
 refine sT [(9,.bool (decide (((k:Nat):Int)<((A.b.length :Nat):Int))))] fun a hF=> ?_
 refine cJ 9 hF (fun hc5=> ?_) fun hc5=> ?_
 ·skip
  have hFn:=hF
  obtain⟨ab,rfl,hcap_ab⟩:=own_b.someA (by omega)
  have hF:=hFn;clear hFn
  refine cN ?_
  refine tK ?_
  refine cS ?_
  refine cB 1 ?_
  refine rS hF ?_
  refine tO 1 1 m3 ?_
  refine tI 3 ab A.b.length 1 k k ?_
  refine tF 4 (Does.storeOwn (a:=ab) (q:=k) (vs:=[.int .u8 99]) (by kernel_rfl) own_b (by show k+1≤_*1;omega) (List.all_eq_true.1 (by rfl))) ?_
  rintro _ h7 ⟨rfl,own_b,g6⟩
  refine sE [] fun a hF=> ?_
  refine bK ?_
  refine tK ?_
  refine rS hF ?_
  refine tA 1 k 1 ?_
  refine sE [(2,nV (k+1))] fun a hF=> ?_
  show ∃m',m'<_∧_
  replace g0:=g0.thenO g6 (fun i e=> .inl (.inl e))
  replace own_i:=own_i.k g6 (sep.ap 2 1)
  replace own_p:=own_p.k g6 (sep.ap 3 1)
  replace m3:=m3.y g6 (sep.bp 0 1)
  replace sep:=sep.up g6.size
  refine⟨_,?_,(k+1),(splice Bx (k) [.int .u8 99]),rfl,g0,m3,(by omega),own_b,own_i,own_p,sep,hF.to⟩
  omega
 ·skip
  refine cX 0 (xT (xT (xB ?_)))
  refine tK ?_
  refine cS ?_
  refine qP [(3,.int .i64 0)] hF fun a hF=> ?_
  refine cB 2 ?_
  refine cL (fun m a h'=>∃k:Nat,∃Ix:List Value,m=A.i.length - k∧(Gr (AF qa ia pa) h h')∧(h'[h.size]? =some (.cells (asc A.c (.slice qa A.b.length qc) A.sx A.se A.sh A.sg (.slice ia A.i.length ic) A.n A.y A.k (.slice pa A.p.length pc)).toArray 47))∧(k≤A.i.length)∧(Own h' (.slice qa A.b.length qc) 5 A.b.length 1 Bx)∧(Own h' (.slice ia A.i.length ic) 9 A.i.length 1 Ix)∧(Own h' (.slice pa A.p.length pc) 39 A.p.length 32 Q)∧(Sep 0 h'.size [some (h.size),qa.map (·.block),ia.map (·.block),pa.map (·.block)])∧(Fr a 39 [(1,.pointer (some ⟨h.size,0,none⟩)),(3,.int .i64 ((k:Nat):Int))])) (A.i.length - 0) ⟨0,I,rfl,g0,m3,(Nat.zero_le _),own_b,own_i,own_p,sep,hF.to⟩ ?_
  clear hF a
  clear g0
  clear m3
  clear own_b
  clear own_i
  clear own_p
  clear sep
  rintro m a h8 ⟨k,Ix,rfl,g0,m3,hk,own_b,own_i,own_p,sep,hF⟩
  refine cS ?_
  refine qS hF ?_
  refine tO 2 39 m3 ?_
  refine sT [(20,.bool (decide (((k:Nat):Int)<((A.i.length :Nat):Int))))] fun a hF=> ?_
  refine cJ 20 hF (fun hc9=> ?_) fun hc9=> ?_
  ·skip
   have hFn:=hF
   obtain⟨ai,rfl,hcap_ai⟩:=own_i.someA (by omega)
   have hF:=hFn;clear hFn
   refine cN ?_
   refine tK ?_
   refine cS ?_
   refine cB 3 ?_
   refine rS hF ?_
   refine tO 1 39 m3 ?_
   refine tI 3 ai A.i.length 1 k k ?_
   refine tF 4 (Does.storeOwn (a:=ai) (q:=k) (vs:=[.string (ByteArray.mk #[115,112,111,105,108,116])]) (by kernel_rfl) own_i (by show k+1≤_*1;omega) (List.all_eq_true.1 (by rfl))) ?_
   rintro _ h11 ⟨rfl,own_i,g10⟩
   refine sE [] fun a hF=> ?_
   refine bK ?_
   refine tK ?_
   refine rS hF ?_
   refine tA 1 k 1 ?_
   refine sE [(3,nV (k+1))] fun a hF=> ?_
   show ∃m',m'<_∧_
   replace g0:=g0.thenO g10 (fun i e=> .inl (.inr <| .inl e))
   replace own_b:=own_b.k g10 (sep.ap 1 2)
   replace own_p:=own_p.k g10 (sep.ap 3 2)
   replace m3:=m3.y g10 (sep.bp 0 2)
   replace sep:=sep.up g10.size
   refine⟨_,?_,(k+1),(splice Ix (k) [.string (ByteArray.mk #[115,112,111,105,108,116])]),rfl,g0,m3,(by omega),own_b,own_i,own_p,sep,hF.to⟩
   omega
  ·skip
   refine cX 2 (xT (xT (xB ?_)))
   refine tK ?_
   refine qP [(4,.int .i64 0)] hF fun a hF=> ?_
   refine cB 4 ?_
   refine cL (fun m a h'=>∃k:Nat,∃Qx:List Value,m=A.p.length - k∧(Gr (AF qa ia pa) h h')∧(h'[h.size]? =some (.cells (asc A.c (.slice qa A.b.length qc) A.sx A.se A.sh A.sg (.slice ia A.i.length ic) A.n A.y A.k (.slice pa A.p.length pc)).toArray 47))∧(k≤A.p.length)∧(Own h' (.slice qa A.b.length qc) 5 A.b.length 1 Bx)∧(Own h' (.slice ia A.i.length ic) 9 A.i.length 1 Ix)∧(Own h' (.slice pa A.p.length pc) 39 A.p.length 32 Qx)∧(Sep 0 h'.size [some (h.size),qa.map (·.block),ia.map (·.block),pa.map (·.block)])∧(Fr a 39 [(1,.pointer (some ⟨h.size,0,none⟩)),(4,.int .i64 ((k:Nat):Int))])) (A.p.length - 0) ⟨0,Q,rfl,g0,m3,(Nat.zero_le _),own_b,own_i,own_p,sep,hF.to⟩ ?_
   clear hF a
   clear g0
   clear m3
   clear own_b
   clear own_i
   clear own_p
   clear sep
   rintro m a h12 ⟨k,Qx,rfl,g0,m3,hk,own_b,own_i,own_p,sep,hF⟩
   refine cS ?_
   refine qS hF ?_
   refine tO 2 74 m3 ?_
   refine sT [(31,.bool (decide (((k:Nat):Int)<((A.p.length :Nat):Int))))] fun a hF=> ?_
   refine cJ 31 hF (fun hc13=> ?_) fun hc13=> ?_
   ·skip
    have hFn:=hF
    obtain⟨ap,rfl,hcap_ap⟩:=own_p.someA (by omega)
    have hF:=hFn;clear hFn
    refine cN ?_
    refine tK ?_
    refine cS ?_
    refine cB 5 ?_
    refine rS hF ?_
    refine tO 1 74 m3 ?_
    refine tI 4 ap A.p.length 32 k (k*32) ?_
    refine tF 5 (Does.storeOwn (a:=ap) (q:=k*32) (vs:=(List.replicate 32 (.int .u8 0))) (by kernel_rfl) own_p (by show k*32+32≤_*32;omega) (List.all_eq_true.1 (by rfl))) ?_
    rintro _ h15 ⟨rfl,own_p,g14⟩
    refine sE [] fun a hF=> ?_
    refine bK ?_
    refine tK ?_
    refine rS hF ?_
    refine tA 1 k 1 ?_
    refine sE [(4,nV (k+1))] fun a hF=> ?_
    show ∃m',m'<_∧_
    replace g0:=g0.thenO g14 (fun i e=> .inl (.inr <| .inr e))
    replace own_b:=own_b.k g14 (sep.ap 1 3)
    replace own_i:=own_i.k g14 (sep.ap 2 3)
    replace m3:=m3.y g14 (sep.bp 0 3)
    replace sep:=sep.up g14.size
    refine⟨_,?_,(k+1),(splice Qx (k*32) (List.replicate 32 (.int .u8 0))),rfl,g0,m3,(by omega),own_b,own_i,own_p,sep,hF.to⟩
    omega
   ·skip
    refine cX 4 (xT (xT (xB ?_)))
    refine n0 hF ?_
    exact g0
end Go.Proofs.YtegkejcglfgpmaaGreatDoor
end
section
namespace Go.Proofs.YtegkejcglfgpmaaGreatDoor
open Go Go.Lane Go.Sha
theorem do_p{W:Nat→Prop}(h:Heap)(mb mp:Nat)(M:Md)(m:ModW W h mb mp M)(hW:∀k,W k→k<h.size)(kd n:Int)(s:ByteArray)(l:List UInt8)(oa:Option Addr)(oc:Nat)(ka:Option Addr)(kn kc:Nat)(hr:Row h (.slice oa l.length oc) l.length 1 (l.map bv))(hsz:s.size ≤9223372036854775807)(kt:Ktab h)(hE:M.E.length ≤1099511627)(N:Md)(X:An)(hs:step M kd n s l=(N,X)):
    Sat Tryz.prog 17 #[.pointer (some ⟨mb,0,none⟩), .agg #[.int .i64 kd, .string s, .slice oa l.length oc, .int .i64 n, .slice ka kn kc]] h fun v h'=>∃qa qc ia ic pa pc,v=anv X (.slice qa X.b.length qc) (.slice ia X.i.length ic) (.slice pa X.p.length pc)∧
      Own h' (.slice qa X.b.length qc) 5 X.b.length 1 (X.b.map bv)∧Own h' (.slice ia X.i.length ic) 9 X.i.length 1 (X.i.map Value.string)∧Own h' (.slice pa X.p.length pc) 39 X.p.length 32 (hcs X.p)∧All32 X.p ∧(∀k,AF qa ia pa k→h.size ≤k)∧ModW (fun k=>W k∨AF qa ia pa k) h' mb mp N∧MG mb mp h h':=by
  obtain⟨L,ck,ea,ec,es,md⟩:=m
  refine(do_a h mb mp M L ck ea ec es md hW kd n s l oa oc ka kn kc hr hsz kt hE).mono fun v h' ⟨a,g⟩=> ?_
  rw[hs] at a
  obtain⟨qa,qc,ia,ic,pa,pc,e,r1,r2,r3,r4,r5,r6⟩:=a
  exact⟨qa,qc,ia,ic,pa,pc,e,r1,r2,r3,r4,r5,r6,g⟩
theorem rdo_p{W:Nat→Prop}(h:Heap)(rb:Nat)(M:Md)(m:RModW W h rb M)(hW:∀k,W k→k<h.size)(kd n:Int)(s:ByteArray)(l:List UInt8)(oa:Option Addr)(oc:Nat)(ka:Option Addr)(kn kc:Nat)(hr:Row h (.slice oa l.length oc) l.length 1 (l.map bv))(hsz:s.size ≤9223372036854775807)(hE:M.E.length ≤1099511627)(N:Md)(X:An)(hs:step M kd n s l=(N,X)):
    Sat Tryz.prog 18 #[.pointer (some ⟨rb,0,none⟩), .agg #[.int .i64 kd, .string s, .slice oa l.length oc, .int .i64 n, .slice ka kn kc]] h fun v h'=>∃qa qc ia ic pa pc,v=anv X (.slice qa X.b.length qc) (.slice ia X.i.length ic) (.slice pa X.p.length pc)∧
      RowE h' (.slice qa X.b.length qc) X.b.length 1 (X.b.map bv)∧RowE h' (.slice ia X.i.length ic) X.i.length 1 (X.i.map Value.string)∧RowE h' (.slice pa X.p.length pc) X.p.length 32 (hcs X.p)∧All32 X.p ∧RModW W h' rb N∧RG rb h h':=by
  obtain⟨T,ra,rc,ea,ec,es,md⟩:=m
  refine(rdo_sat h rb M T ra rc ea ec es md hW kd n s l oa oc ka kn kc hr hsz hE).mono fun v h' ⟨a,m',g⟩=> ?_
  rw[hs] at a m'
  obtain⟨qa,qc,ia,ic,pa,pc,e,r1,r2,r3,r4⟩:=a
  exact⟨qa,qc,ia,ic,pa,pc,e,r1,r2,r3,r4,m',g⟩
theorem rnow_p{W:Nat→Prop}(h:Heap)(rb:Nat)(M:Md)(m:RModW W h rb M):Sat Tryz.prog 21 #[.pointer (some ⟨rb,0,none⟩)] h fun v h'=>v= .int .i64 M.t ∧h'=h:=by
  obtain⟨T,ra,rc,ea,ec,es,md⟩:=m
  exact rnow_a h rb M T ra rc ea ec es md
end Go.Proofs.YtegkejcglfgpmaaGreatDoor
end
section
namespace Go.Proofs.YtegkejcglfgpmaaGreatDoor
open Go Go.Lane Go.Sha
noncomputable def b6:Code:=Tryz.f6.body.getD .skip
set_option maxHeartbeats 2000000 in
theorem plays_sat(h:Heap)(L:List OpR)(la:Option Addr)(lc:Nat)(hll:Row h (.slice la L.length lc) L.length 5 (oprow L))(ho:∀o∈L,OpAt h o∧o.l.length ≤1048576)(hlb:L.length ≤1048576)(kt:Ktab h):Sat Tryz.prog 6 #[.slice la L.length lc] h fun v h'=>v= .bool true∧Ext h h':=by
 have kt0:=kt
 have e0:=Ext.refl h
 have h0s:=kt.lt
 have sep:Sep h.size h.size []:=Sep.nil _ _
 refine sat_in Tryz.func6 80 fun a hF=> ?_
 refine qP [] hF fun a hF=> ?_
 refine qS hF ?_
 refine tG 0 (shown_sat _ kt) ?_
 rintro _ h2 ⟨rfl,g1⟩
 refine sT [(3,.bool true)] fun a hF=> ?_
 refine cS ?_
 refine qP [(13,.bool false)] hF fun a hF=> ?_
 refine cF 13 hF ?_
 refine cN ?_
 refine tK ?_
 refine qS hF ?_
 replace e0:=e0.ext g1
 refine tG 0 (new_m _ (by have:=e0.size;omega)) ?_
 rintro _ h3 ⟨mb,mp,rfl,hM,hb1,hp1,g⟩
 have hse:=e0.size
 replace kt:=kt.ext g1
 replace sep:=sep.up g1.size
 replace e0:=e0.ext g
 replace kt:=kt.ext g
 replace sep:=sep.up g.size
 clear g
 have hk1:=hM.kb
 have sz1:h3.size ≤h3.size :=Nat.le_refl _
 refine sT [(4,pV mb)] fun a hF=> ?_
 refine qS hF ?_
 refine tG 0 (rnew_m _ (by have:=e0.size;omega)) ?_
 rintro _ h4 ⟨rb,rfl,hR,hr1,g⟩
 have hsr:=e0.size
 replace e0:=e0.ext g
 replace kt:=kt.ext g
 replace sz1:=Nat.le_trans sz1 g.size
 replace hM:=hM.ext g
 replace sep:=sep.up g.size
 clear g
 have hk2:=hR.kb
 have sz2:h4.size ≤h4.size :=Nat.le_refl _
 refine sT [(5,pV rb)] fun a hF=> ?_
 refine cS ?_
 refine qP [(6,.int .i64 0)] hF fun a hF=> ?_
 refine cB 0 ?_
 refine cL (fun m a h'=>∃k:Nat,∃R:Md,m=L.length - k∧(Ext h h')∧(Ktab h')∧(k≤L.length)∧(R.E.length ≤k)∧(Mod h' mb mp R)∧(RModW (fun _=>False) h' rb R)∧(h3.size ≤h'.size)∧(h4.size ≤h'.size)∧(Fr a 80 [(0,.slice la L.length lc),(3,.bool true),(4,.pointer (some ⟨mb,0,none⟩)),(5,.pointer (some ⟨rb,0,none⟩)),(6,.int .i64 ((k:Nat):Int))])) (L.length - 0) ⟨0,M0,rfl,e0,kt,(by omega),(Nat.le_refl _),hM,hR,sz1,sz2,hF.to⟩ ?_
 clear hF a
 clear e0
 clear kt
 clear hM
 clear hR
 clear sz1
 clear sz2
 rintro m a h5 ⟨k,R,rfl,e0,kt,hk,hEk,hM,hR,sz1,sz2,hF⟩
 refine cS ?_
 refine qP [(19,.bool (decide (((k:Nat):Int)<((L.length :Nat):Int))))] hF fun a hF=> ?_
 refine cJ 19 hF (fun hc6=> ?_) fun hc6=> ?_
 ·skip
  have hkn:k<L.length :=by omega
  have hFn:=hF
  obtain⟨al,rfl,hcap_al⟩:=hll.someA (by omega)
  have hF:=hFn;clear hFn
  obtain⟨x,hx⟩:∃x,L.getD k op0=x:=⟨_,rfl⟩
  obtain⟨hox,hxl⟩:OpAt h x∧x.l.length ≤1048576:=hx▸opAt_of ho hkn
  have hbm:=hM.kb;have hbr:=hR.kb;have hse:=e0.size
  have ex {h':Heap} (g:Gr (F3 mb mp rb) h5 h'):Ext h h':=Gr.toExt e0 g (by rintro i (e|e|e)<;>omega)
  have g1:Gr (F3 mb mp rb) h5 h5:=Gr.start _ _
  replace hM:ModW (fun k=>h5.size ≤k) h5 mb mp R:=hM.more fun _ e=> .inr e
  replace hR:RModW (fun k=>h5.size ≤k) h5 rb R:=hR.more fun _ e=> .inr e
  clear kt sep;have sep:Sep h5.size h5.size []:=Sep.nil _ _
  have szr:=Nat.le_refl h5.size
  refine cN ?_
  refine tK ?_
  refine cS ?_
  refine cB 1 ?_
  refine qS hF ?_
  refine tI 2 al L.length 5 k (k*5) ?_
  refine tC 3 (.agg #[.int .i64 x.kd,.string x.s,.slice x.oa x.l.length x.oc,.int .i64 x.n,.slice x.ka x.kn x.kc]) (Calm.load (T:=35) (p:=(Addr.add al (k*5))) (by kernel_rfl) (op_load hx (hll.ext (ex g1)) (by kernel_rfl) hkn (by first|rfl|omega))) ?_
  refine tN 4 (pV h5.size) #[.int .i64 0,.string ByteArray.empty,.slice none 0 0,.int .i64 0,.slice none 0 0] 35 fun h7 g8 m9=> ?_
  have lt10:=blk_lt m9
  have zs11:=szr
  replace sep:=sep.nw szr m9
  replace szr:=Nat.le_trans szr g8.size
  refine tV0 5 [.int .i64 x.kd,.string x.s,.slice x.oa x.l.length x.oc,.int .i64 x.n,.slice x.ka x.kn x.kc] m9 fun h12 g13 zq=> ?_
  replace szr:=Nat.le_trans szr g13.1
  replace hR:=hR.ext g8
  replace hR:=RModW.newB hR g13 m9 (by decide) ((sep.l 0) _ rfl) hbr
  replace m9:=zq
  refine sT [(7,pV h5.size)] fun a hF=> ?_
  refine qS hF ?_
  refine tN 0 (.slice (some ⟨h12.size,0,none⟩) 0 0) #[] 5 fun h14 g15 m16=> ?_
  have lt17:=blk_lt m16
  have zs18:=szr
  replace sep:=(sep.up g13.size).nw szr m16
  replace szr:=Nat.le_trans szr g15.size
  have own_y:Own h14 (.slice (some ⟨h12.size,0,none⟩) 0 0) 5 ([]:List UInt8).length 1 (([]:List UInt8).map bv):=Own.empty 1 m16
  replace sep:Sep h5.size h14.size [(some ⟨h12.size,0,none⟩:Option Addr).map (·.block),some (h5.size)]:=sep
  replace g1:=((g1.ext g8).thenO g13 (fun i e=> .inr ((sep.l 1) i e))).ext g15
  replace hM:=(ModW.newer (hM.ext g8) g13 (fun i e=>(sep.l 1) i e) hbm.1 hbm.2).ext g15
  replace hR:=hR.ext g15
  replace m9:=m9.x g15
  clear m16 lt17 zs18
  refine tI 3 al L.length 5 k (k*5) ?_
  refine t1 4 (.pointer (some (Addr.add al ((k*5)+2)))) (.pointer (some ((Addr.add al (k*5)).add 2))) (by rw[add_add]) ?_
  refine tC 5 (.slice x.oa x.l.length x.oc) (Calm.load (T:=32) (p:=(Addr.add al ((k*5)+2))) (by kernel_rfl) (Loads.one (k:=1) (by kernel_rfl) (op_bytes hx (hll.ext (ex g1)) hkn))) ?_
  refine tP 6 x.l.length 1 (x.l.map bv) own_y ((hox.ext (ex g1)).1) (ones_map _) (fun ad19 cap20 h21 ownx g22 hb23=> ?_)
  have hlo:=szr
  replace szr:=Nat.le_trans szr g22.1
  replace hR:=RModW.newO hR g22 own_y (blkOf_slice ..) (by decide) (fun i e=>(sep.l 0) i e) hbr
  have s24:=sep
  replace sep:=sep.sa g22 0 hb23 ownx hlo;clear hb23 hlo
  replace own_y:=ownx;clear ownx
  replace m9:=m9.y g22 (s24.bp 1 0)
  refine tV 8 2 [.slice ad19 x.l.length cap20] [.int .i64 x.kd,.string x.s,.slice ad19 x.l.length cap20,.int .i64 x.n,.slice x.ka x.kn x.kc] m9 fun h25 g26 zq=> ?_
  replace szr:=Nat.le_trans szr g26.1
  replace hR:=RModW.newB hR g26 m9 (by decide) ((sep.l 1) _ rfl) hbr
  replace m9:=zq
  refine sT [] fun a hF=> ?_
  refine qS hF ?_
  refine tR 1 m9 ?_
  obtain⟨N,X,hs⟩:∃N X,step R x.kd x.n x.s x.l =(N,X):=⟨_,_,rfl⟩
  replace hM:=ModW.newer (ModW.newer hM g22 (fun i e=>(s24.l 0) i e) hbm.1 hbm.2) g26 (fun i e=>(sep.l 1) i e) hbm.1 hbm.2
  have hwb:X.i.length ≤R.E.length ∧X.p.length ≤R.E.length :=by have:=step_bnd hM.mod x.kd x.n x.s x.l;rw[hs] at this;exact this
  replace own_y:=own_y.k g26 (sep.ap 0 1)
  have hyc:∀k,ad19.map (fun(x:Addr)=>x.block)=some k→h5.size ≤k∧k<h25.size :=fun k e=>⟨(sep.l 0) k e,own_y.lt (by rw[blkOf_slice];exact e)⟩
  replace g1:=(g1.thenO g22 (fun i e=> .inr ((s24.l 0) i e))).thenO g26 (fun i e=> .inr ((sep.l 1) i e))
  replace sep:=sep.up g26.size
  have hM1:ModW (fun k=>h5.size ≤k∧k<h25.size) h25 mb mp R:=hM.less fun _ e=>e.1
  refine tG 2 (do_p _ mb mp R hM1 (fun _ e=>e.2) x.kd x.n x.s x.l _ _ x.ka x.kn x.kc own_y.row hox.2 (kt0.ext (ex g1)) (by omega) N X hs) ?_
  rintro _ h33 ⟨qa27,qc28,ia29,ic30,pa31,pc32,rfl,own_b,own_i,own_p,x32,hgA,hM2,gm⟩
  have hM:ModW (WP h5.size h25.size h33.size qa27 ia29 pa31) h33 mb mp N:=hM2.wp
  replace own_y:=Gr.own gm own_y (by rw[blkOf_slice];exact hM1.mod.nown own_y (by decide))
  replace m9:=gm.blk m9 (by omega) (by omega)
  replace sep:=sep.app (af_sep own_b own_i own_p (by decide) (by decide) (by decide) hgA) gm.1 szr
  replace hR:=hR.mg gm hM1.mod;replace g1:=g3_mg g1 gm;have hgB:∀k,AF qa27 ia29 pa31 k→h5.size ≤k:=fun k e=>Nat.le_trans szr (hgA k e);replace szr:=Nat.le_trans szr gm.1;clear hM1 hM2 gm
  refine tN 3 (pV h33.size) ((asc (0:Int) (.slice none 0 0) rb0 (0:Int) false false (.slice none 0 0) (0:Int) rb0 (0:Int) (.slice none 0 0)).toArray) 47 fun h34 g35 m36=> ?_
  have lt37:=blk_lt m36
  have zs38:=szr
  replace sep:=sep.nw szr m36
  replace szr:=Nat.le_trans szr g35.size
  refine tV0 4 (asc X.c (.slice qa27 X.b.length qc28) X.sx X.se X.sh X.sg (.slice ia29 X.i.length ic30) X.n X.y X.k (.slice pa31 X.p.length pc32)) m36 fun h39 g40 zq=> ?_
  replace szr:=Nat.le_trans szr g40.1
  replace hM:=hM.ext g35
  replace hM:=hM.put1 g40 m36 (by decide) (by omega)
  replace hR:=hR.ext g35
  replace hR:=RModW.newB hR g40 m36 (by decide) ((sep.l 0) _ rfl) hbr
  replace m36:=zq
  refine sT [(8,pV h33.size)] fun a hF=> ?_
  refine qS hF ?_
  refine tI 3 al L.length 5 k (k*5) ?_
  replace g1:=(g1.ext g35).thenO g40 (fun i e=> .inr ((sep.l 0) i e))
  refine tC 4 (.agg #[.int .i64 x.kd,.string x.s,.slice x.oa x.l.length x.oc,.int .i64 x.n,.slice x.ka x.kn x.kc]) (Calm.load (T:=35) (p:=(Addr.add al (k*5))) (by kernel_rfl) (op_load hx (hll.ext (ex g1)) (by kernel_rfl) hkn (by first|rfl|omega))) ?_
  replace own_y:=(own_y.ext g35).k g40 (sep.ap 4 0)
  replace own_p:=(own_p.ext g35).k g40 (sep.ap 3 0)
  replace own_i:=(own_i.ext g35).k g40 (sep.ap 2 0)
  replace own_b:=(own_b.ext g35).k g40 (sep.ap 1 0)
  replace m9:=(m9.x g35).y g40 (sep.bp 5 0)
  replace sep:=sep.up g40.size
  have hR1:RModW (fun k=>h5.size ≤k∧k<h39.size) h39 rb R:=hR.less fun _ e=>e.1
  have hAF:∀k,AF qa27 ia29 pa31 k→h5.size ≤k∧k<h39.size :=fun k e=>⟨hgB k e,af_lt own_b own_i own_p k e⟩
  have hyd:∀k,ad19.map (fun(x:Addr)=>x.block)=some k→k<h39.size :=fun k e=>own_y.lt (by rw[blkOf_slice];exact e)
  refine tG 5 (rdo_p _ rb R hR1 (fun _ e=>e.2) x.kd x.n x.s x.l _ _ x.ka x.kn x.kc (hox.ext (ex g1)).1 hox.2 (by omega) N X hs) ?_
  rintro _ h47 ⟨qa41,qc42,ia43,ic44,pa45,pc46,rfl,r_b,r_i,r_p,y32,hR2,gr⟩
  replace hM:=hM.rg gr hR1;replace g1:=g3_rg g1 gr;replace szr:=Nat.le_trans szr gr.1
  replace own_y:=own_y.rg gr hR1 (by decide)
  replace own_b:=own_b.rg gr hR1 (by decide)
  replace own_i:=own_i.rg gr hR1 (by decide)
  replace own_p:=own_p.rg gr hR1 (by decide)
  replace m9:=gr.blk m9 (by omega)
  replace m36:=gr.blk m36 (by omega)
  have hR:=hR2.wr;replace sep:=sep.up gr.1;clear hR1 hR2 gr
  refine tN 6 (pV h47.size) ((asc (0:Int) (.slice none 0 0) rb0 (0:Int) false false (.slice none 0 0) (0:Int) rb0 (0:Int) (.slice none 0 0)).toArray) 47 fun h48 g49 m50=> ?_
  have lt51:=blk_lt m50
  have zs52:=szr
  replace sep:=sep.nw szr m50
  replace szr:=Nat.le_trans szr g49.size
  refine tV0 7 (asc X.c (.slice qa41 X.b.length qc42) X.sx X.se X.sh X.sg (.slice ia43 X.i.length ic44) X.n X.y X.k (.slice pa45 X.p.length pc46)) m50 fun h53 g54 zq=> ?_
  replace szr:=Nat.le_trans szr g54.1
  replace hM:=hM.ext g49
  replace hM:=hM.put1 g54 m50 (by decide) (by omega)
  replace hR:=hR.ext g49
  replace hR:=hR.put1 g54 m50 ⟨by decide,by decide⟩ (by omega)
  replace r_b:=r_b.ext g49
  replace r_b:=r_b.put1 g54 m50 (by decide)
  replace r_i:=r_i.ext g49
  replace r_i:=r_i.put1 g54 m50 (by decide)
  replace r_p:=r_p.ext g49
  replace r_p:=r_p.put1 g54 m50 (by decide)
  replace m50:=zq
  refine sT [(9,pV h47.size)] fun a hF=> ?_
  refine cS ?_
  refine cS ?_
  refine cD [0,0,3,7,15,31,63,31,255,511,1023,2047,4095,8191,16383,4095,4095,102399,233471,495615,1019903,2097151,4194303] 13 mixed hF ?_
  replace m36:=(m36.x g49).y g54 (sep.bp 1 0)
  refine mR 1 1 0 m36 ?_
  refine mR 3 3 1 m50 ?_
  replace own_p:=(own_p.ext g49).k g54 (sep.ap 4 0)
  replace own_i:=(own_i.ext g49).k g54 (sep.ap 3 0)
  replace own_b:=(own_b.ext g49).k g54 (sep.ap 2 0)
  refine mG0 7 7 2 (same_ans _ _ _ X ⟨_,_,_,_,_,_,rfl,RowE.of own_b (by decide),RowE.of own_i (by decide),RowE.of own_p (by decide),x32⟩ ⟨_,_,_,_,_,_,rfl,r_b,r_i,r_p,y32⟩ (by omega) (by omega)) ?_
  rintro _ h56 ⟨rfl,g55⟩
  replace szr:=Nat.le_trans szr g55.size
  refine mP 63 [3,4,5] [.bool false,.bool false,pV mb] ?_
  replace hM:=hM.ext g55
  refine mL 127 67 6 (.int .i64 N.t) (Does.call (f:=20) (args:= #[.pointer (some ⟨mb,0,none⟩)]) (by kernel_rfl) (now_M _ mb mp N hM.mod)) ?_
  refine mP 255 [7] [pV rb] ?_
  replace hR:=hR.ext g55
  refine mL 511 323 8 (.int .i64 N.t) (Does.call (f:=21) (args:= #[.pointer (some ⟨rb,0,none⟩)]) (by kernel_rfl) (rnow_p _ rb N hR)) ?_
  refine uF1 1023 9 N.t N.t ?_
  refine mP 8191 [10,11,12] [.bool false,.bool false,.pointer (some ⟨h5.size,2,none⟩)] ?_
  replace m9:=((m9.x g49).y g54 (sep.bp 6 0)).x g55
  refine mO 16383 8515 13 2 (.slice ad19 x.l.length cap20) m9 ?_
  replace own_y:=((own_y.ext g49).k g54 (sep.ap 5 0)).ext g55
  refine mL 32767 24899 14 (.string (ByteArray.mk x.l.toArray)) (Calm.str (l:=x.l) (by kernel_rfl) own_y.row) ?_
  refine mP 131071 [15,16] [.slice (some al) L.length lc,nV k] ?_
  refine mI 262143 17 al L.length 5 k (k*5) ?_
  refine m1 524287 18 (.pointer (some (Addr.add al ((k*5)+2)))) (.pointer (some ((Addr.add al (k*5)).add 2))) (by rw[add_add]) ?_
  replace g1:=((g1.ext g49).thenO g54 (fun i e=> .inr ((sep.l 0) i e))).ext g55
  refine mL 1048575 549187 19 (.slice x.oa x.l.length x.oc) (Calm.load (T:=32) (p:=(Addr.add al ((k*5)+2))) (by kernel_rfl) (Loads.one (k:=1) (by kernel_rfl) (op_bytes hx (hll.ext (ex g1)) hkn))) ?_
  refine mL 2097151 1597763 20 (.string (ByteArray.mk x.l.toArray)) (Calm.str (l:=x.l) (by kernel_rfl) (hox.ext (ex g1)).1) ?_
  refine m1 4194303 21 (.bool false) (.bool (!((ByteArray.mk x.l.toArray).toList ==(ByteArray.mk x.l.toArray).toList))) (congrArg (fun b=>Value.bool (!b)) (beq_self_eq_true _)) ?_
  refine mP 8388607 [22] [.bool false] ?_
  refine mE [(65,.bool false)] fun a hF=> ?_
  refine tK ?_
  refine cF 65 hF ?_
  refine cN ?_
  refine tK ?_
  refine cS ?_
  refine qP [(10,.int .i64 0)] hF fun a hF=> ?_
  refine cB 2 ?_
  replace sep:=(sep.up g54.size).up g55.size
  replace own_p:=own_p.ext g55
  replace own_i:=own_i.ext g55
  replace own_b:=own_b.ext g55
  replace r_b:=r_b.ext g55
  replace r_i:=r_i.ext g55
  replace r_p:=r_p.ext g55
  replace m36:=m36.x g55
  replace m50:=m50.x g55
  have gy:Gr (fun i=>ad19.map (fun(x:Addr)=>x.block)=some i) h56 h56:=Gr.start _ _
  have sepL:=sep;have own_z:=own_y;have mz:=m9
  refine cL (fun m a h'=>∃k2:Nat,∃Y:List Value,m=x.l.length - k2∧(h'[h5.size]? =some (.cells #[.int .i64 x.kd,.string x.s,.slice ad19 x.l.length cap20,.int .i64 x.n,.slice x.ka x.kn x.kc] 35))∧(k2≤x.l.length)∧(Gr (fun i=>ad19.map (fun(x:Addr)=>x.block)=some i) h56 h')∧(Own h' (.slice ad19 x.l.length cap20) 5 x.l.length 1 Y)∧(Sep h5.size h'.size [some (h47.size),some (h33.size),qa27.map (·.block),ia29.map (·.block),pa31.map (·.block),ad19.map (·.block),some (h5.size)])∧(Fr a 80 [(0,.slice (some al) L.length lc),(3,.bool true),(4,.pointer (some ⟨mb,0,none⟩)),(5,.pointer (some ⟨rb,0,none⟩)),(6,.int .i64 ((k:Nat):Int)),(7,.pointer (some ⟨h5.size,0,none⟩)),(8,.pointer (some ⟨h33.size,0,none⟩)),(10,.int .i64 ((k2:Nat):Int))])) (x.l.length - 0) ⟨0,(x.l.map bv),rfl,m9,(Nat.zero_le _),gy,own_y,sep,hF.to⟩ ?_
  clear hF a
  clear m9
  clear gy
  clear own_y
  clear sep
  rintro m a h57 ⟨k2,Y,rfl,m9,hk2,gy,own_y,sep,hF⟩
  refine cS ?_
  refine qS hF ?_
  refine tO 2 2 m9 ?_
  refine sT [(70,.bool (decide (((k2:Nat):Int)<((x.l.length :Nat):Int))))] fun a hF=> ?_
  refine cJ 70 hF (fun hc58=> ?_) fun hc58=> ?_
  ·skip
   have hFn:=hF
   obtain⟨ay,rfl,hcap_ay⟩:=own_y.someA (by omega)
   have hF:=hFn;clear hFn
   refine cN ?_
   refine tK ?_
   refine cS ?_
   refine cB 3 ?_
   refine rS hF ?_
   refine tO 1 2 m9 ?_
   refine tI 3 ay x.l.length 1 k2 k2 ?_
   refine tF 4 (Does.storeOwn (a:=ay) (q:=k2) (vs:=[.int .u8 99]) (by kernel_rfl) own_y (by show k2+1≤_*1;omega) (List.all_eq_true.1 (by rfl))) ?_
   rintro _ h60 ⟨rfl,own_y,g59⟩
   refine sE [] fun a hF=> ?_
   refine bK ?_
   refine tK ?_
   refine rS hF ?_
   refine tA 1 k2 1 ?_
   refine sE [(10,nV (k2+1))] fun a hF=> ?_
   show ∃m',m'<_∧_
   replace gy:=gy.thenO g59 (fun i e=> .inl e)
   replace m9:=m9.y g59 (sep.bp 6 5)
   replace sep:=sep.up g59.size
   refine⟨_,?_,(k2+1),(splice Y k2 [.int .u8 99]),rfl,m9,(by omega),gy,own_y,sep,hF.to⟩
   omega
  ·skip
   have hyn:=fun k e=>own_nonT own_z (by decide:5≠97) (k:=k) (by rw[blkOf_slice];exact e)
   replace hM:=hM.fr gy (fun k e=> .inr (.inl (hyc k e))) (fun e=>by have:=hyc _ e;omega) (fun e=>by have:=hyc _ e;omega)
   replace hR:=hR.fr gy (fun k e=>⟨.inr (.inl ⟨(hyc k e).1,hyd k e⟩),hyn k e⟩) (fun e=>by have:=hyc _ e;omega)
   replace g1:=g3_nw g1 gy fun k e=>(hyc k e).1
   replace own_b:=Gr.own gy own_b (by rw[blkOf_slice];exact sepL.nf 2 5)
   replace own_i:=Gr.own gy own_i (by rw[blkOf_slice];exact sepL.nf 3 5)
   replace own_p:=Gr.own gy own_p (by rw[blkOf_slice];exact sepL.nf 4 5)
   replace m36:=gy.blk m36 ((sepL.nf 1 5) _ rfl)
   refine cX 2 (xT (xT (xB ?_)))
   refine tK ?_
   refine rS hF ?_
   refine tR 0 m36 ?_
   refine tG 1 (spoil_a _ X qa27 ia29 pa31 qc28 ic30 pc32 _ _ _ own_b own_i own_p own_b.le own_i.le own_p.le) ?_
   rintro _ h61 gs
   have hAn:=af_nonT own_b own_i own_p (by decide:_≠97) (by decide) (by decide)
   replace hM:=hM.fr gs (fun k e=> .inr (.inr (.inl e))) (fun e=>by have:=hgB _ e;omega) (fun e=>by have:=hgB _ e;omega)
   replace hR:=hR.fr gs (fun k e=>⟨.inr (.inl (hAF k e)),hAn k e⟩) (fun e=>by have:=hgB _ e;omega)
   replace g1:=g3_nw g1 gs hgB
   refine sE [] fun a hF=> ?_
   refine bK ?_
   refine tK ?_
   refine rS hF ?_
   refine tA 1 k 1 ?_
   refine sE [(6,nV (k+1))] fun a hF=> ?_
   have e0b:=ex g1;have ktb:=kt0.ext e0b;have sz1b:=Nat.le_trans sz1 g1.1;have sz2b:=Nat.le_trans sz2 g1.1
   have hEb:=step_E R x.kd x.n x.s x.l;rw[hs] at hEb
   have hMb:Mod h61 mb mp N:=hM.less fun _ e=>e.elim
   have hRb:RModW (fun _=>False) h61 rb N:=hR.less fun _ e=>e.elim
   show ∃m',m'<_∧_
   refine⟨_,?_,(k+1),N,rfl,e0b,ktb,(by omega),(Nat.le_trans hEb (Nat.succ_le_succ hEk)),hMb,hRb,sz1b,sz2b,hF.to⟩
   omega
 ·skip
  refine cX 0 (xT (xT (xB ?_)))
  refine tK ?_
  refine qP [(2,.bool true)] hF fun a hF=> ?_
  refine cR ?_
  refine rT 2 (.bool true) hF ?_
  exact⟨rfl,e0⟩
end Go.Proofs.YtegkejcglfgpmaaGreatDoor
end
section
namespace Go.Proofs.YtegkejcglfgpmaaGreatDoor.modelPlays
open Go.ChangeShapes Go.WideShapes Go.ChangeAt Go.RowKit
set_option maxRecDepth 100000 in
/-- WHAT THE WALK GIVES, for every argument and every world that holds the table. -/
theorem contract(H:Type)(enc:TypeId×Value→H)(W:World)(base:Nat)(args:Array Value)(ds gs:List (DataW H))(before:List MemPlace)
    (hval:∀(j:Nat) t v,Tryz.f6.params[j]? =some t→args[j]? =some v→Value.okWide Tryz.prog W .any base t v)
    (hW:DataW.Whole enc Tryz.prog Tryz.f6.params.toList Rows.modelPlaysSpec.vars false W args.toList ds gs before) (hk:Rows.uptoSmall H (ds++gs)=true) (hL:laidMetH Tryz.prog Rows.modelPlaysUptoRow.laid W):
    Calls Tryz.prog 6 args W fun e W'=>∃v,e= .returned v∧Rows.modelPlaysSpec.post enc Tryz.prog Tryz.f6 false true false false W args v W':=by
  have hW':=hW
  obtain⟨p,q,hA0,hV,rfl,hfz,hnd⟩:=hW
  have hA:DataW.TrodAll enc Tryz.prog W 0 (fun _=>true) true Tryz.f6.params.toList args.toList ds p:=hA0
  rw[show Tryz.f6.params.toList =[22] from rfl] at hA
  obtain⟨v0,vs0,d0,ds0,p0,q0,hargs,rfl,rfl,h0,r0⟩:=trodAll_cons hA
  obtain⟨rfl,rfl,rfl⟩:=trodAll_nil r0
  obtain rfl:args= #[v0]:=by cases args;simp_all
  obtain⟨rfl,rfl⟩:=trodVars_none hV
  have hbulk:=bulks.bound hk
  simp only[List.append_nil,Rows.uptoBulkAll] at hbulk
  have kt:Sha.Ktab W.heap :=ktab_of hL
  have hO:opOk Tryz.prog 35 3 9 32 5 33:=⟨by kernel_rfl,by kernel_rfl,by kernel_rfl,by kernel_rfl,by kernel_rfl,by kernel_rfl,by kernel_rfl,by kernel_rfl,by kernel_rfl,by kernel_rfl,by kernel_rfl,by kernel_rfl⟩
  obtain⟨la,lc,L,rfl,hl,ho,hlb⟩:=open_opl hO (by kernel_rfl) (hval 0 22 v0 rfl rfl) h0
  refine(plays_sat W.heap L la lc hl (fun o h=>⟨(ho o h).1,by have:=(ho o h).2;omega⟩) (by omega) kt W rfl).mono fun e W' ⟨v,he,sm,hv,ex⟩=> ?_
  subst hv
  exact⟨_,he,law_post laidOut rfl (by kernel_rfl) (fun t ht=>by
    simp only[show Tryz.f6.params.toList =[22] from rfl,List.mem_cons,List.not_mem_nil,or_false] at ht
    subst ht
    exact⟨by kernel_rfl,of_decide_eq_true (by kernel_rfl)⟩) rfl rfl rfl rfl hW' (below_of sm ex)⟩
noncomputable def laidWorld(os:Os):World:=
  {World.holding Tryz.prog os ⟨#[], #[],[]⟩ with heap:=(World.holding Tryz.prog os ⟨#[], #[],[]⟩).heap.modify 0 fun
      | .cells _ t frozen=> .cells (Sha.K64.map Sha.wv).toArray t frozen
      |o=>o}
theorem laid_met(os:Os):laidMet Tryz.prog Rows.modelPlaysUptoRow.laid ((laidWorld os).forCall (fun _ _=>0) ⟨#[], #[.slice none 0 0],[]⟩).memory :=
  laidMet_of_run' 8 (by kernel_rfl) (by kernel_rfl)
theorem reads(os:Os){H:Type}(enc:TypeId×Value→H):∃places,DataW.whole enc Tryz.prog ((laidWorld os).forCall (fun _ _=>0) ⟨#[], #[.slice none 0 0],[]⟩).memory Tryz.f6.params.toList Rows.modelPlaysSpec.vars false (#[.slice none 0 0]:Array Value).toList 8=some ([.nil],[],places):=
  ⟨[],by kernel_rfl⟩
set_option maxRecDepth 100000 in
theorem liftedUpto(os:Os)(started:os.Started)(H:Type)(enc:TypeId×Value→H)(F:Stop.Interp):
    ReturnsInHanded {} Tryz.checked os 6 .any ((Rows.OpenSpec.upto Rows.modelPlaysSpec).preRow enc Tryz.prog Tryz.f6 Rows.modelPlaysUptoRow.domain false Rows.modelPlaysUptoRow.laid) (((Rows.OpenSpec.upto Rows.modelPlaysSpec).at F).post enc Tryz.prog Tryz.f6 false true false false):=by
  obtain⟨places,hx⟩:=reads os enc
  refine returnsInHanded_of_row (C:=Tryz.checked) (s:=Rows.OpenSpec.upto Rows.modelPlaysSpec) own started (by kernel_rfl) Tryz.func6
    (witness_row_at (enc:=enc) (C:=Tryz.checked) false (laidWorld os) #[.slice none 0 0] rfl (by kernel_rfl) (by kernel_rfl) (by kernel_rfl)
      (OpenSpec.preRow_of_cond 8 hx (by kernel_rfl) (fun k hk=>by cases hk;kernel_rfl) (by kernel_rfl) (laid_met os))) ?_
  intro W base args ds gs before hval hW _ hc _ hL _ _
  exact contract H enc W base args ds gs before hval hW (hc _ rfl) hL
theorem saidUpto:Rows.ModelPlaysUptoSaid :=
  OpenClaim.holds_of_cond 6 Tryz.f6 rfl rfl rfl rfl rfl rfl rfl ⟨rfl,rfl,rfl,rfl,rfl⟩ rfl rfl rfl rfl rfl (by kernel_rfl) Tryz.func6 (by kernel_rfl)
    (of_decide_eq_true (by kernel_rfl)) (by unfold Func.isWrapper;first| (rw[if_pos (by decide+kernel)];kernel_rfl)| (rw[if_neg (by decide+kernel)];exact⟨rfl,rfl⟩))
    (fun os started H enc _ F=>by rw[OpenClaim.pre_eq_preRow];exact liftedUpto os started H enc F)
theorem plain(f:FuncId)(fn:Func)(hf:Tryz.pinned.checked.prog.funcNamed "muniment/munimentlaw23.ModelPlays" =some f)(hfn:Tryz.pinned.checked.prog.funcs[f]? =some fn):
    false=Tryz.pinned.checked.prog.looks []∧∀(j:Nat) t,fn.params[j]? =some t→Tryz.pinned.checked.prog.wantsStandIn t=false:=by
  obtain rfl:f=6:=Option.some.inj ((show Tryz.prog.funcNamed "muniment/munimentlaw23.ModelPlays" =some 6 by kernel_rfl).symm.trans hf) |>.symm
  obtain rfl:fn=Tryz.f6 :=(Option.some.inj (Tryz.func6.symm.trans hfn)).symm
  refine⟨by kernel_rfl,fun j t ht=> ?_⟩
  rw[show Tryz.f6.params = #[22] from rfl] at ht
  have hm:=Array.mem_of_getElem? ht
  simp only[List.mem_toArray,List.mem_cons,List.not_mem_nil,or_false] at hm
  subst hm
  exact(show Tryz.prog.wantsStandIn 22=false by kernel_rfl)
theorem cardUpto:Rows.ModelPlaysUptoCardSaid :=
  Claim7.holds_tied_plain_at .later [] _ _ _ _ saidUpto (fun _ h=>by cases h) (by kernel_rfl) (fun _ h=>by cases h) modelPlaysUpto_row_tie rfl ⟨rfl,rfl⟩ (by kernel_rfl) rfl plain (by kernel_rfl)
end Go.Proofs.YtegkejcglfgpmaaGreatDoor.modelPlays
end
