/- The walks and the plain laws, part 6: RL, RV, RX, ModelCountsCard. Conditions: those that each theorem names. -/
import Derived.Test.YtegkejcglfgpmaaGreatDoorPc5
section
namespace Go.Proofs.YtegkejcglfgpmaaGreatDoor
open Go Go.ai Go.aK
noncomputable def b11:Code:=Tryz.f11.body.getD .skip
set_option maxHeartbeats 2000000 in
set_option maxRecDepth 10000 in
theorem sn(h:Heap)(L:List ff)(la:Option Addr)(lc:Nat)(hll:Row h (.slice la L.length lc) L.length 5 (gN L))(ho:∀o∈L,uO h o∧o.l.length ≤1048576)(hlb:L.length ≤1048576)(V:List Lk)(va:Option Addr)(vc:Nat)(hvv:Row h (.slice va V.length vc) V.length 3 (t_ V))(hv:∀x∈V,mh x)(kt:bk h):Sat Tryz.prog 11 #[.slice la L.length lc,.slice va V.length vc] h fun v h'=>∃Out ad cap,v= .slice ad L.length cap∧Out.length =L.length ∧(∀j,j<L.length →(Out.getD j fg).X =oN L V j)∧Own h' (.slice ad L.length cap) 47 L.length 75 (bA Out)∧db h' Out∧jN Out∧(∀k,ad.map (·.block)=some k→h.size ≤k)∧Ext h h':=by
 have G:=Ext.refl h
 have a5:=kt.lt
 have q:Sep h.size h.size []:=Sep.nil _ _
 refine ag Tryz.func11 169 fun a hF=>qP [] hF fun a hF=>qS hF<|tG 0 (Bh _ (by have:=G.size;omega)) ?_
 rintro _ h1 ⟨rb,rfl,J,r8,g⟩
 replace G:=G.ext g
 replace kt:=kt.ext g
 replace q:=q.up g.size
 clear g
 refine sT [(5,pV rb)] fun a hF=>qP [(6,.bool false)] hF fun a hF=>qP [(7,.bool false)] hF fun a hF=>qS hF<|tN 0 (.slice (some ⟨h1.size,0,none⟩) 0 0) #[] 47 fun h2 g3 m4=> ?_
 replace q:=q.nw G.size m4
 have d:Own h2 (.slice (some ⟨h1.size,0,none⟩) 0 0) 47 ([]:List dT).length 75 (bA []):=Own.empty 75 m4
 replace q:Sep h.size h2.size [(some ⟨h1.size,0,none⟩:Option Addr).map (·.block)]:=q
 replace G:=G.ext g3
 replace kt:=kt.ext g3
 replace J:=J.ext g3
 clear m4
 refine sT [(8,.slice (some ⟨h1.size,0,none⟩) 0 0)] fun a hF=>cS<|qP [(9,.int .i64 0)] hF fun a hF=>cB 0 ?_
 have u:db h2 []:=db.nil _
 refine cL (fun m a h'=>∃k:Nat,∃S:kj,∃Out:List dT,∃ad:Option Addr,∃cap:Nat,m=L.length - k∧(Ext h h')∧(bk h')∧(k≤L.length)∧(kY L V k=S)∧(Out.length =k)∧(∀j,j<k→(Out.getD j fg).X =oN L V j)∧(S.M.E.length ≤k)∧(bB (fun _=>False) h' rb S.M)∧(jN Out)∧(db h' Out)∧(Own h' (.slice ad k cap) 47 k 75 (bA Out))∧(Sep h.size h'.size [ad.map (·.block)])∧(Fr a 169 [(0,.slice la L.length lc),(1,.slice va V.length vc),(5,.pointer (some ⟨rb,0,none⟩)),(6,.bool S.off),(7,.bool S.aA),(8,.slice ad k cap),(9,.int .i64 ((k:Nat):Int))])) (L.length - 0) ⟨0,⟨M0,false,false⟩,[],(some ⟨h1.size,0,none⟩),0,rfl,G,kt,(Nat.zero_le _),rfl,rfl,(fun j hj=>absurd hj (Nat.not_lt_zero j)),(Nat.le_refl _),J,(fun r hr=>by cases hr),u,d,q,hF.to⟩ ?_
 clear hF a
 clear G
 clear kt
 clear J
 clear u
 clear d
 clear q
 rintro m a h7 ⟨k,S,Out,ad,cap,rfl,G,kt,hk,hS,a4,c3,r9,J,c4,u,d,q,hF⟩
 refine cS<|qP [(21,.bool (decide (((k:Nat):Int)<((L.length :Nat):Int))))] hF fun a hF=>cJ 21 hF (fun n9=> ?_) fun n9=> ?_
 ·have l6:k<L.length :=by omega
  have f7:=hF
  obtain⟨al,rfl,l7⟩:=hll.bf (by omega)
  have hF:=f7;clear f7
  obtain⟨x,hx⟩:∃x,L.getD k fG=x:=⟨_,rfl⟩
  obtain⟨c6,s0⟩:uO h x∧x.l.length ≤1048576:=hx▸tn ho l6
  obtain⟨y,hy⟩:∃y,V.getD k mc=y:=⟨_,rfl⟩
  obtain⟨N,X,hs⟩:∃N X,step S.M x.kd x.n x.s x.l =(N,X):=⟨_,_,rfl⟩
  have s2:N.E.length ≤S.M.E.length +1:=by have:=oC S.M x.kd x.n x.s x.l;rw[hs] at this;exact this
  have j8:Aq X:=by have:=vu J (by omega) x.kd x.n x.s x.l;rw[hs] at this;exact this
  have s3:=J.kb
  refine cN<|tK<|cS<|cB 1<|qS hF<|tI 2 al L.length 5 k (k*5)<|tC 3 (.agg #[.int .i64 x.kd,.string x.s,.slice x.oa x.l.length x.oc,.int .i64 x.n,.slice x.ka x.kn x.kc]) (Calm.load (T:=35) (p:=(Addr.add al (k*5))) (by kernel_rfl) (zF hx (hll.ext G) (by kernel_rfl) l6 (by first|rfl|omega))) ?_
  refine tN 4 (pV h7.size) #[.int .i64 0,.string ByteArray.empty,.slice none 0 0,.int .i64 0,.slice none 0 0] 35 fun h9 f8 t=> ?_
  replace q:=q.nw G.size t
  refine bz 5 [.int .i64 x.kd,.string x.s,.slice x.oa x.l.length x.oc,.int .i64 x.n,.slice x.ka x.kn x.kc] t fun a8 f5 zq=> ?_
  replace J:=J.ext f8
  replace J:=J.vt f5 t ⟨by decide,by decide⟩ (by decide)
  replace u:=u.ext f8
  replace u:=u.aL f5 t (by decide)
  replace t:=zq
  refine sT [(10,pV h7.size)] fun a hF=>qS hF<|tN 1 (pV a8.size) #[.int .i64 0,.int .i64 0,.int .i64 0] 80 fun s4 f6 m18=> ?_
  replace G:=(G.ext f8).grew f5 (q.l 0)
  replace q:=(q.up f5.size).nw G.size m18
  refine bz 2 [.int .i64 3,.int .i64 1,.int .i64 0] m18 fun o0 d5 zq=> ?_
  replace J:=J.ext f6
  replace J:=J.vt d5 m18 ⟨by decide,by decide⟩ (by decide)
  replace u:=u.ext f6
  replace u:=u.aL d5 m18 (by decide)
  replace m18:=zq
  refine sT [(11,pV a8.size)] fun a hF=>cS ?_
  replace kt:=(((kt.ext f8).grew f5 (q.zero 1 rfl a5)).ext f6).grew d5 (q.zero 0 rfl a5)
  replace d:=(((d.ext f8).k f5 (q.ap 2 1)).ext f6).k d5 (q.ap 2 0)
  replace G:=(G.ext f6).grew d5 (q.l 0)
  replace t:=(t.x f6).y d5 (q.bp 1 0)
  replace q:=q.up d5.size
  refine C.mono (K:=fun e a h'=>e= .normal ∧(Ext h h')∧(bk h')∧(mh y)∧(bB (fun _=>False) h' rb S.M)∧(db h' Out)∧(Own h' (.slice ad k cap) 47 k 75 (bA Out))∧(Sep h.size h'.size [some (a8.size),some (h7.size),ad.map (·.block)])∧(h'[h7.size]? =some (.cells #[.int .i64 x.kd,.string x.s,.slice x.oa x.l.length x.oc,.int .i64 x.n,.slice x.ka x.kn x.kc] 35))∧(h'[a8.size]? =some (.cells #[.int .i64 y.dark,.int .i64 y.full,.int .i64 y.work] 80))∧Fr a 169 [(0,.slice (some al) L.length lc),(1,.slice va V.length vc),(5,.pointer (some ⟨rb,0,none⟩)),(6,.bool S.off),(7,.bool S.aA),(8,.slice ad k cap),(9,.int .i64 ((k:Nat):Int)),(10,.pointer (some ⟨h7.size,0,none⟩)),(11,.pointer (some ⟨a8.size,0,none⟩))]) ?_ ?_
  ·refine qP [(32,.bool (decide (((k:Nat):Int)<((V.length :Nat):Int))))] hF fun a hF=>cJ 32 hF (fun l8=> ?_) fun l8=> ?_
   ·have f7:=hF
    obtain⟨av,rfl,l9⟩:=hvv.bf (by omega)
    have hF:=f7;clear f7
    have m0:k<V.length :=by omega
    have a9:mh y:=hy▸zS hv m0
    refine rS hF<|tI 2 av V.length 3 k (k*3)<|tC 3 (.agg #[.int .i64 y.dark,.int .i64 y.full,.int .i64 y.work]) (Calm.load (T:=80) (p:=(Addr.add av (k*3))) (by kernel_rfl) (zT hy (hvv.ext G) (by kernel_rfl) m0 (by first|rfl|omega)))<|bz 4 [.int .i64 y.dark,.int .i64 y.full,.int .i64 y.work] m18 fun s5 d6 zq=> ?_
    replace J:=J.vt d6 m18 ⟨by decide,by decide⟩ (by decide)
    replace u:=u.aL d6 m18 (by decide)
    replace m18:=zq
    refine sE [] fun a hF=> ?_
    replace G:=G.grew d6 (q.l 0)
    replace kt:=kt.grew d6 (q.zero 0 rfl a5)
    replace d:=d.k d6 (q.ap 2 0)
    replace t:=t.y d6 (q.bp 1 0)
    replace q:=q.up d6.size
    exact⟨rfl,G,kt,a9,J,u,d,q,t,m18,hF.to⟩
   ·have m3:y=mc:=hy▸Bo (by omega);have a9:mh y:=m3▸CE
    replace m18:o0[a8.size]? =some (.cells #[.int .i64 y.dark,.int .i64 y.full,.int .i64 y.work] 80):=by rw[m3];exact m18
    exact cN<|⟨rfl,G,kt,a9,J,u,d,q,t,m18,hF.to⟩
  ·clear G kt J u d t m18
   rintro e a d7 ⟨rfl,G,kt,a9,J,u,d,q,t,m18,hF⟩
   refine tK<|cS<|C.mono (K:=fun e a hJ=>e= .normal ∧d7=hJ∧∃(un:Unit),True∧Fr a 169 [(0,.slice (some al) L.length lc),(1,.slice va V.length vc),(5,.pointer (some ⟨rb,0,none⟩)),(6,.bool S.off),(7,.bool S.aA),(8,.slice ad k cap),(9,.int .i64 ((k:Nat):Int)),(10,.pointer (some ⟨h7.size,0,none⟩)),(11,.pointer (some ⟨a8.size,0,none⟩)),(12,.bool ((ar x.kd).1))]) ?_ ?_
   ·rcases(by omega:1≤x.kd ∧x.kd ≤9∨x.kd =11∨x.kd =15∨x.kd =16∨x.kd <1∨10≤x.kd ∧x.kd ≠11∧x.kd ≠15∧x.kd ≠16) with Z|Z|Z|Z|Z|Z
    ·have a0:(ar x.kd).1 =true:=by exact(if hq:x.kd =1∨x.kd =4∨x.kd =5∨x.kd =6 then (by rw[cA hq]) else (by rw[bS hq (by omega)]))
     refine rS hF<|tO 1 0 t<|tT 2 ((1:Int)≤x.kd)<|tO 5 0 t<|tT 6 (x.kd ≤(9:Int))<|t1 23 (.bool ((ar x.kd).1)) (.bool true) (congrArg Value.bool a0.symm)<|sE [(12,.bool ((ar x.kd).1))] fun a hF=> ?_
     exact⟨rfl,rfl,⟨⟩,trivial,hF.to⟩
    ·have a0:(ar x.kd).1 =true:=by exact(if hq:x.kd =1∨x.kd =4∨x.kd =5∨x.kd =6 then (by rw[cA hq]) else (by rw[bS hq (by omega)]))
     refine rS hF<|tO 1 0 t<|tT 2 ((1:Int)≤x.kd)<|tO 5 0 t<|tX 6 (x.kd ≤(9:Int))<|tO 10 0 t<|eT 11 x.kd 11 ?_
     exact t1 23 (.bool ((ar x.kd).1)) (.bool true) (congrArg Value.bool a0.symm)<|sE [(12,.bool ((ar x.kd).1))] fun a hF=>⟨rfl,rfl,⟨⟩,trivial,hF.to⟩
    ·have a0:(ar x.kd).1 =true:=by exact(if hq:x.kd =1∨x.kd =4∨x.kd =5∨x.kd =6 then (by rw[cA hq]) else (by rw[bS hq (by omega)]))
     refine rS hF<|tO 1 0 t<|tT 2 ((1:Int)≤x.kd)<|tO 5 0 t<|tX 6 (x.kd ≤(9:Int))<|tO 10 0 t<|eF 11 x.kd 11 ?_
     exact tO 15 0 t<|eT 16 x.kd 15<|t1 23 (.bool ((ar x.kd).1)) (.bool true) (congrArg Value.bool a0.symm)<|sE [(12,.bool ((ar x.kd).1))] fun a hF=>⟨rfl,rfl,⟨⟩,trivial,hF.to⟩
    ·have a0:(ar x.kd).1 =true:=by exact(if hq:x.kd =1∨x.kd =4∨x.kd =5∨x.kd =6 then (by rw[cA hq]) else (by rw[bS hq (by omega)]))
     refine rS hF<|tO 1 0 t<|tT 2 ((1:Int)≤x.kd)<|tO 5 0 t<|tX 6 (x.kd ≤(9:Int))<|tO 10 0 t<|eF 11 x.kd 11 ?_
     exact tO 15 0 t<|eF 16 x.kd 15<|tO 20 0 t<|eT 21 x.kd 16<|t1 23 (.bool ((ar x.kd).1)) (.bool true) (congrArg Value.bool a0.symm)<|sE [(12,.bool ((ar x.kd).1))] fun a hF=>⟨rfl,rfl,⟨⟩,trivial,hF.to⟩
    ·have a0:(ar x.kd).1 =false:=by rw[ei (by omega) (by omega)]
     refine rS hF<|tO 1 0 t<|tX 2 ((1:Int)≤x.kd)<|tO 10 0 t<|eF 11 x.kd 11<|tO 15 0 t<|eF 16 x.kd 15 ?_
     exact tO 20 0 t<|eF 21 x.kd 16<|t1 23 (.bool ((ar x.kd).1)) (.bool false) (congrArg Value.bool a0.symm)<|sE [(12,.bool ((ar x.kd).1))] fun a hF=>⟨rfl,rfl,⟨⟩,trivial,hF.to⟩
    ·have a0:(ar x.kd).1 =false:=by rw[ei (by omega) (by omega)]
     refine rS hF<|tO 1 0 t<|tT 2 ((1:Int)≤x.kd)<|tO 5 0 t<|tX 6 (x.kd ≤(9:Int))<|tO 10 0 t<|eF 11 x.kd 11 ?_
     exact tO 15 0 t<|eF 16 x.kd 15<|tO 20 0 t<|eF 21 x.kd 16<|t1 23 (.bool ((ar x.kd).1)) (.bool false) (congrArg Value.bool a0.symm)<|sE [(12,.bool ((ar x.kd).1))] fun a hF=>⟨rfl,rfl,⟨⟩,trivial,hF.to⟩
   ·rintro e a _ ⟨rfl,rfl,⟨⟩,l1,hF⟩
    refine tK<|cS<|C.mono (K:=fun e a hJ=>e= .normal ∧d7=hJ∧∃(un:Unit),True∧Fr a 169 [(0,.slice (some al) L.length lc),(1,.slice va V.length vc),(5,.pointer (some ⟨rb,0,none⟩)),(6,.bool S.off),(7,.bool S.aA),(8,.slice ad k cap),(9,.int .i64 ((k:Nat):Int)),(10,.pointer (some ⟨h7.size,0,none⟩)),(11,.pointer (some ⟨a8.size,0,none⟩)),(12,.bool ((ar x.kd).1)),(13,.bool ((ar x.kd).2))]) ?_ ?_
    ·rcases(by omega:x.kd =1∨x.kd =4∨x.kd =5∨x.kd =6∨¬(x.kd =1∨x.kd =4∨x.kd =5∨x.kd =6)) with Z|Z|Z|Z|Z
     ·have a0:(ar x.kd).2 =true:=by rw[cA (by omega)]
      exact rS hF<|tO 1 0 t<|eT 2 x.kd 1<|t1 18 (.bool ((ar x.kd).2)) (.bool true) (congrArg Value.bool a0.symm)<|sE [(13,.bool ((ar x.kd).2))] fun a hF=>⟨rfl,rfl,⟨⟩,trivial,hF.to⟩
     ·have a0:(ar x.kd).2 =true:=by rw[cA (by omega)]
      refine rS hF<|tO 1 0 t<|eF 2 x.kd 1<|tO 5 0 t<|eT 6 x.kd 4<|t1 18 (.bool ((ar x.kd).2)) (.bool true) (congrArg Value.bool a0.symm)<|sE [(13,.bool ((ar x.kd).2))] fun a hF=> ?_
      exact⟨rfl,rfl,⟨⟩,trivial,hF.to⟩
     ·have a0:(ar x.kd).2 =true:=by rw[cA (by omega)]
      refine rS hF<|tO 1 0 t<|eF 2 x.kd 1<|tO 5 0 t<|eF 6 x.kd 4<|tO 10 0 t<|eT 11 x.kd 5 ?_
      exact t1 18 (.bool ((ar x.kd).2)) (.bool true) (congrArg Value.bool a0.symm)<|sE [(13,.bool ((ar x.kd).2))] fun a hF=>⟨rfl,rfl,⟨⟩,trivial,hF.to⟩
     ·have a0:(ar x.kd).2 =true:=by rw[cA (by omega)]
      refine rS hF<|tO 1 0 t<|eF 2 x.kd 1<|tO 5 0 t<|eF 6 x.kd 4<|tO 10 0 t<|eF 11 x.kd 5 ?_
      exact tO 15 0 t<|eT 16 x.kd 6<|t1 18 (.bool ((ar x.kd).2)) (.bool true) (congrArg Value.bool a0.symm)<|sE [(13,.bool ((ar x.kd).2))] fun a hF=>⟨rfl,rfl,⟨⟩,trivial,hF.to⟩
     ·have a0:(ar x.kd).2 =false:=by exact(if hq:x.kd =2∨x.kd =3∨x.kd =7∨x.kd =8∨x.kd =9∨x.kd =11∨x.kd =15∨x.kd =16 then (by rw[bS Z hq]) else (by rw[ei Z hq]))
      refine rS hF<|tO 1 0 t<|eF 2 x.kd 1<|tO 5 0 t<|eF 6 x.kd 4<|tO 10 0 t<|eF 11 x.kd 5 ?_
      exact tO 15 0 t<|eF 16 x.kd 6<|t1 18 (.bool ((ar x.kd).2)) (.bool false) (congrArg Value.bool a0.symm)<|sE [(13,.bool ((ar x.kd).2))] fun a hF=>⟨rfl,rfl,⟨⟩,trivial,hF.to⟩
    ·rintro e a _ ⟨rfl,rfl,⟨⟩,l1,hF⟩
     refine tK<|qS hF<|tO 1 0 m18<|tC 2 (nV (cm y.dark 4)) (Does.call (f:=12) (args:= #[.int .i64 y.dark,.int .i64 4]) (by kernel_rfl) (zX _ y.dark a9.d1 a9.d2))<|sT [(14,nV (cm y.dark 4))] fun a hF=>cS<|C.mono (K:=fun e a hJ=>e= .normal ∧d7=hJ∧∃(un:Unit),True∧Fr a 169 [(0,.slice (some al) L.length lc),(1,.slice va V.length vc),(5,.pointer (some ⟨rb,0,none⟩)),(6,.bool ((cd x.kd x.n S.off S.aA).1)),(7,.bool ((cd x.kd x.n S.off S.aA).2)),(8,.slice ad k cap),(9,.int .i64 ((k:Nat):Int)),(10,.pointer (some ⟨h7.size,0,none⟩)),(11,.pointer (some ⟨a8.size,0,none⟩)),(12,.bool ((ar x.kd).1)),(13,.bool ((ar x.kd).2)),(14,.int .i64 (((cm y.dark 4):Nat):Int))]) ?_ ?_
     ·rcases xV S.off x.kd with b7|b7|b7|b7|b7|b7
      ·obtain⟨a6,Z⟩:=b7
       rw[a6] at hF
       have b8:(cd x.kd x.n S.off S.aA)=(false,decide (0≤x.n)):=by unfold cd;rw[a6];rw[if_pos ⟨Z,rfl⟩]
       refine cB 2<|qS hF<|tO 1 0 t<|eT 2 x.kd 12<|sT [(81,.bool true)] fun a hF=>cT 81 hF<|rS hF ?_
       refine tO 1 3 t<|sE [(7,.bool (decide ((0:Int)≤x.n)))] fun a hF=>bK<|⟨rfl,rfl,⟨⟩,trivial,?_⟩;rw[b8];exact hF.to
      ·obtain⟨a6,Z⟩:=b7
       rw[a6] at hF
       have b8:(cd x.kd x.n S.off S.aA)=(false,false):=by unfold cd;rw[a6];rw[if_neg (by rintro⟨e,_⟩;omega),if_pos Z]
       refine cB 2<|qS hF<|tO 1 0 t<|eF 2 x.kd 12<|sT [(81,.bool false)] fun a hF=>cF 81 hF<|qS hF ?_
       refine tO 1 0 t<|eT 2 x.kd 13<|sT [(92,.bool true)] fun a hF=>cT 92 hF<|qP [(6,.bool false)] hF fun a hF=>rP [(7,.bool false)] hF fun a hF=>bK ?_
       refine⟨rfl,rfl,⟨⟩,trivial,?_⟩;rw[b8];exact hF.to
      ·obtain⟨a6,Z⟩:=b7
       rw[a6] at hF
       have b8:(cd x.kd x.n S.off S.aA)=(false,S.aA):=by unfold cd;rw[a6];rw[if_neg (by rintro⟨e,e2⟩;first|omega|cases e2),if_neg (by omega)]
       refine cB 2<|qS hF<|tO 1 0 t<|eF 2 x.kd 12<|sT [(81,.bool false)] fun a hF=>cF 81 hF<|qS hF ?_
       refine tO 1 0 t<|eF 2 x.kd 13<|sT [(92,.bool false)] fun a hF=>cF 92 hF<|cN<|bK<|⟨rfl,rfl,⟨⟩,trivial,?_⟩;rw[b8];exact hF.to
      ·obtain⟨a6,Z⟩:=b7
       rw[a6] at hF
       have b8:(cd x.kd x.n S.off S.aA)=(true,S.aA):=by unfold cd;rw[a6];rw[if_neg (by rintro⟨e,e2⟩;first|omega|cases e2),if_neg (by omega)]
       refine cB 2<|qS hF<|tO 1 0 t<|eT 2 x.kd 12<|sT [(81,.bool false)] fun a hF=>cF 81 hF<|qS hF ?_
       refine tO 1 0 t<|eF 2 x.kd 13<|sT [(92,.bool false)] fun a hF=>cF 92 hF<|cN<|bK<|⟨rfl,rfl,⟨⟩,trivial,?_⟩;rw[b8];exact hF.to
      ·obtain⟨a6,Z⟩:=b7
       rw[a6] at hF
       have b8:(cd x.kd x.n S.off S.aA)=(false,false):=by unfold cd;rw[a6];rw[if_neg (by rintro⟨e,_⟩;omega),if_pos Z]
       refine cB 2<|qS hF<|tO 1 0 t<|eF 2 x.kd 12<|sT [(81,.bool false)] fun a hF=>cF 81 hF<|qS hF ?_
       refine tO 1 0 t<|eT 2 x.kd 13<|sT [(92,.bool true)] fun a hF=>cT 92 hF<|qP [(6,.bool false)] hF fun a hF=>rP [(7,.bool false)] hF fun a hF=>bK ?_
       refine⟨rfl,rfl,⟨⟩,trivial,?_⟩;rw[b8];exact hF.to
      ·obtain⟨a6,Z⟩:=b7
       rw[a6] at hF
       have b8:(cd x.kd x.n S.off S.aA)=(true,S.aA):=by unfold cd;rw[a6];rw[if_neg (by rintro⟨e,e2⟩;first|omega|cases e2),if_neg (by omega)]
       refine cB 2<|qS hF<|tO 1 0 t<|eF 2 x.kd 12<|sT [(81,.bool false)] fun a hF=>cF 81 hF<|qS hF ?_
       refine tO 1 0 t<|eF 2 x.kd 13<|sT [(92,.bool false)] fun a hF=>cF 92 hF<|cN<|bK<|⟨rfl,rfl,⟨⟩,trivial,?_⟩;rw[b8];exact hF.to
     ·rintro e a _ ⟨rfl,rfl,⟨⟩,l1,hF⟩
      refine tK<|cS<|cS<|C.mono (K:=fun e a hJ=>e= .normal ∧d7=hJ∧∃(un:Unit),True∧Fr a 169 [(0,.slice (some al) L.length lc),(1,.slice va V.length vc),(5,.pointer (some ⟨rb,0,none⟩)),(6,.bool ((cd x.kd x.n S.off S.aA).1)),(7,.bool ((cd x.kd x.n S.off S.aA).2)),(8,.slice ad k cap),(9,.int .i64 ((k:Nat):Int)),(10,.pointer (some ⟨h7.size,0,none⟩)),(11,.pointer (some ⟨a8.size,0,none⟩)),(13,.bool ((ar x.kd).2)),(14,.int .i64 (((cm y.dark 4):Nat):Int)),(106,.bool (decide (jP x S y)))]) ?_ ?_
      ·rcases zU (ar x.kd).1 (cd x.kd x.n S.off S.aA).1 (cd x.kd x.n S.off S.aA).2 (cm y.dark 4) with h1|⟨h1,h2⟩|⟨h1,h2,h3⟩|⟨h1,h2,h3,h4⟩|⟨h1,h2,h3,h4⟩
       ·have c5:¬jP x S y:=fun e=>by have e1:=h1.symm.trans e.1;cases e1
        exact rS hF<|t1 1 (.bool false) (.bool ((ar x.kd).1)) (congrArg Value.bool h1)<|t1 10 (.bool (decide (jP x S y))) (.bool false) (congrArg Value.bool (decide_eq_false c5).symm)<|sE [(106,.bool (decide (jP x S y)))] fun a hF=>⟨rfl,rfl,⟨⟩,trivial,hF.to⟩
       ·have c5:jP x S y:=⟨h1,.inl h2⟩
        exact rS hF<|t1 1 (.bool true) (.bool ((ar x.kd).1)) (congrArg Value.bool h1)<|t1 3 (.bool true) (.bool ((cd x.kd x.n S.off S.aA).1)) (congrArg Value.bool h2)<|t1 10 (.bool (decide (jP x S y))) (.bool true) (congrArg Value.bool (decide_eq_true c5).symm)<|sE [(106,.bool (decide (jP x S y)))] fun a hF=>⟨rfl,rfl,⟨⟩,trivial,hF.to⟩
       ·have c5:¬jP x S y:=fun e=>e.2.elim (fun e=>by have e1:=h2.symm.trans e;cases e1) fun e=>by have e1:=h3.symm.trans e.1;cases e1
        exact rS hF<|t1 1 (.bool true) (.bool ((ar x.kd).1)) (congrArg Value.bool h1)<|t1 3 (.bool false) (.bool ((cd x.kd x.n S.off S.aA).1)) (congrArg Value.bool h2)<|t1 5 (.bool false) (.bool ((cd x.kd x.n S.off S.aA).2)) (congrArg Value.bool h3)<|t1 10 (.bool (decide (jP x S y))) (.bool false) (congrArg Value.bool (decide_eq_false c5).symm)<|sE [(106,.bool (decide (jP x S y)))] fun a hF=>⟨rfl,rfl,⟨⟩,trivial,hF.to⟩
       ·have c5:jP x S y:=⟨h1,.inr ⟨h3,h4⟩⟩
        refine rS hF<|t1 1 (.bool true) (.bool ((ar x.kd).1)) (congrArg Value.bool h1)<|t1 3 (.bool false) (.bool ((cd x.kd x.n S.off S.aA).1)) (congrArg Value.bool h2)<|t1 5 (.bool true) (.bool ((cd x.kd x.n S.off S.aA).2)) (congrArg Value.bool h3)<|tT 7 ((((cm y.dark 4):Nat):Int)<(2:Int))<|t1 10 (.bool (decide (jP x S y))) (.bool true) (congrArg Value.bool (decide_eq_true c5).symm)<|sE [(106,.bool (decide (jP x S y)))] fun a hF=> ?_
        exact⟨rfl,rfl,⟨⟩,trivial,hF.to⟩
       ·have c5:¬jP x S y:=fun e=>e.2.elim (fun e=>by have e1:=h2.symm.trans e;cases e1) fun e=>h4 e.2
        refine rS hF<|t1 1 (.bool true) (.bool ((ar x.kd).1)) (congrArg Value.bool h1)<|t1 3 (.bool false) (.bool ((cd x.kd x.n S.off S.aA).1)) (congrArg Value.bool h2)<|t1 5 (.bool true) (.bool ((cd x.kd x.n S.off S.aA).2)) (congrArg Value.bool h3)<|tX 7 ((((cm y.dark 4):Nat):Int)<(2:Int))<|t1 10 (.bool (decide (jP x S y))) (.bool false) (congrArg Value.bool (decide_eq_false c5).symm)<|sE [(106,.bool (decide (jP x S y)))] fun a hF=> ?_
        exact⟨rfl,rfl,⟨⟩,trivial,hF.to⟩
      ·rintro e a _ ⟨rfl,rfl,⟨⟩,l1,hF⟩
       refine tK<|cJ 106 hF (fun c0=> ?_) fun c0=> ?_
       ·refine cS<|cS ?_
        rcases xW (cd x.kd x.n S.off S.aA).1 (ar x.kd).2 (cm y.dark 4) with h1|⟨h1,h2⟩|⟨h1,h2,h3⟩|⟨h1,h2,h3⟩
        ·have R:fH S x y=(⟨S.M,true,(cd x.kd x.n S.off S.aA).2⟩,cj 2):=Br c0 h1 rfl
         refine rS hF<|t1 0 (.bool true) (.bool ((cd x.kd x.n S.off S.aA).1)) (congrArg Value.bool h1)<|sE [(115,.bool false)] fun a hF=>tK<|cF 115 hF<|cN<|tK ?_
         refine qP [(6,.bool true)] hF fun a hF=>qS hF<|tN 2 (.slice (some ⟨d7.size,0,none⟩) 1 1) ((bA [aR 2]).toArray) 47 fun o1 f9 l2=> ?_
         replace q:=q.nw G.size l2
         replace G:=G.ext f9
         replace kt:=kt.ext f9
         replace d:=d.ext f9
         replace J:=J.ext f9
         replace u:=u.ext f9
         have H:db o1 (Out++[aR 2]):=u.snoc (fY _ 2)
         refine tP 3 (k+1) 192 (bA (Out++[aR 2])) d (Row.blk (n:=1) (sz:=75) (l:=bA [aR 2]) l2 rfl) (dm _) (fun g0 g1 s6 I g2 k1=> ?_) (ys:=(bA ([aR 2]))) (hZ:=by first|rfl|exact List.flatMap_append.symm |simp[bA])
         replace J:=J.eO g2 d (af ..) (by decide) (by decide) (by decide)
         replace H:=H.eO g2 d (af ..) (by decide)
         have m5:=q
         replace q:=q.sa g2 3 k1 I G.size;clear k1
         replace d:=I;clear I
         have a7:kY L V (k+1)=(⟨S.M,true,(cd x.kd x.n S.off S.aA).2⟩:kj):=by show(fH (kY L V k) (L.getD k fG) (V.getD k mc)).1 =_;rw[hS,hx,hy,R]
         have U:jN (Out++[aR 2]):=c4.snoc (Bq _)
         have W:S.M.E.length ≤k+1:=by omega
         have Y:=dU (r:=aR 2) a4 c3 (by unfold oN;rw[hS,hx,hy,R])
         refine sT [(8,.slice g0 (k+1) g1)] fun a hF=>cX 1 (xT (xB ?_))
         refine tK<|rS hF<|tA 1 k 1<|sE [(9,nV (k+1))] fun a hF=> ?_
         clear t
         clear m18
         clear l2
         replace G:=G.grew g2 (m5.l 3)
         replace kt:=kt.grew g2 (m5.zero 3 rfl a5)
         replace q:=q.sub (l':=[g0.map (·.block)]) (.cons _ (.cons _ (.cons _ (.cons_cons _ (.slnil)))))
         show ∃m',m'<_∧_
         refine⟨_,?_,(k+1),(⟨S.M,true,(cd x.kd x.n S.off S.aA).2⟩:kj),(Out++[aR 2]),g0,g1,rfl,G,kt,(by omega),a7,(by rw[List.length_append,a4];rfl),Y,W,J,U,H,d,q,hF.to⟩
         omega
        ·have R:fH S x y=(⟨S.M,true,(cd x.kd x.n S.off S.aA).2⟩,cj 2):=xZ c0 (fun e=>by have e1:=h2.symm.trans e.1;cases e1) rfl
         refine rS hF<|t1 0 (.bool false) (.bool ((cd x.kd x.n S.off S.aA).1)) (congrArg Value.bool h1)<|t1 3 (.bool false) (.bool ((ar x.kd).2)) (congrArg Value.bool h2)<|sE [(115,.bool false)] fun a hF=>tK<|cF 115 hF<|cN ?_
         refine tK<|qP [(6,.bool true)] hF fun a hF=>qS hF<|tN 2 (.slice (some ⟨d7.size,0,none⟩) 1 1) ((bA [aR 2]).toArray) 47 fun o2 g4 l3=> ?_
         replace q:=q.nw G.size l3
         replace G:=G.ext g4
         replace kt:=kt.ext g4
         replace d:=d.ext g4
         replace J:=J.ext g4
         replace u:=u.ext g4
         have H:db o2 (Out++[aR 2]):=u.snoc (fY _ 2)
         refine tP 3 (k+1) 192 (bA (Out++[aR 2])) d (Row.blk (n:=1) (sz:=75) (l:=bA [aR 2]) l3 rfl) (dm _) (fun g5 g6 s7 I g7 k2=> ?_) (ys:=(bA ([aR 2]))) (hZ:=by first|rfl|exact List.flatMap_append.symm |simp[bA])
         replace J:=J.eO g7 d (af ..) (by decide) (by decide) (by decide)
         replace H:=H.eO g7 d (af ..) (by decide)
         have m6:=q
         replace q:=q.sa g7 3 k2 I G.size;clear k2
         replace d:=I;clear I
         have a7:kY L V (k+1)=(⟨S.M,true,(cd x.kd x.n S.off S.aA).2⟩:kj):=by show(fH (kY L V k) (L.getD k fG) (V.getD k mc)).1 =_;rw[hS,hx,hy,R]
         have U:jN (Out++[aR 2]):=c4.snoc (Bq _)
         have W:S.M.E.length ≤k+1:=by omega
         have Y:=dU (r:=aR 2) a4 c3 (by unfold oN;rw[hS,hx,hy,R])
         refine sT [(8,.slice g5 (k+1) g6)] fun a hF=>cX 1 (xT (xB ?_))
         refine tK<|rS hF<|tA 1 k 1<|sE [(9,nV (k+1))] fun a hF=> ?_
         clear t
         clear m18
         clear l3
         replace G:=G.grew g7 (m6.l 3)
         replace kt:=kt.grew g7 (m6.zero 3 rfl a5)
         replace q:=q.sub (l':=[g5.map (·.block)]) (.cons _ (.cons _ (.cons _ (.cons_cons _ (.slnil)))))
         show ∃m',m'<_∧_
         refine⟨_,?_,(k+1),(⟨S.M,true,(cd x.kd x.n S.off S.aA).2⟩:kj),(Out++[aR 2]),g5,g6,rfl,G,kt,(by omega),a7,(by rw[List.length_append,a4];rfl),Y,W,J,U,H,d,q,hF.to⟩
         omega
        ·have R:fH S x y=(⟨N,true,(cd x.kd x.n S.off S.aA).2⟩,cj 2):=CF c0 h1 h2 h3 hs rfl
         refine rS hF<|t1 0 (.bool false) (.bool ((cd x.kd x.n S.off S.aA).1)) (congrArg Value.bool h1)<|t1 3 (.bool true) (.bool ((ar x.kd).2)) (congrArg Value.bool h2)<|eT 7 (((cm y.dark 4):Nat):Int) 0<|sE [(115,.bool true)] fun a hF=>tK<|cT 115 hF ?_
         refine rS hF<|tR 1 t ?_
         have p0:=J.kb
         refine tG 2 (oK _ rb S.M J x.kd x.n x.s x.l _ _ x.ka x.kn x.kc (c6.ext G).1 c6.2 (by omega) N X hs) ?_
         rintro _ m7 ⟨p1,p2,p3,p4,p5,p6,rfl,_,_,_,_,m2,gm⟩
         replace u:=u.rg gm J;replace d:=d.rg gm J (by decide)
         replace G:=Gr.dB G gm (by rintro i rfl;omega);replace kt:=kt.gr gm (by intro e;omega)
         replace q:=q.up gm.1;clear J;have J:bB (fun _=>False) m7 rb N:=m2;clear m2;clear gm
         refine sE [] fun a hF=>tK<|qP [(6,.bool true)] hF fun a hF=>qS hF<|tN 2 (.slice (some ⟨m7.size,0,none⟩) 1 1) ((bA [aR 2]).toArray) 47 fun o3 g8 l4=> ?_
         replace q:=q.nw G.size l4
         replace G:=G.ext g8
         replace kt:=kt.ext g8
         replace d:=d.ext g8
         replace J:=J.ext g8
         replace u:=u.ext g8
         have H:db o3 (Out++[aR 2]):=u.snoc (fY _ 2)
         refine tP 3 (k+1) 192 (bA (Out++[aR 2])) d (Row.blk (n:=1) (sz:=75) (l:=bA [aR 2]) l4 rfl) (dm _) (fun g9 i0 s8 I i1 k3=> ?_) (ys:=(bA ([aR 2]))) (hZ:=by first|rfl|exact List.flatMap_append.symm |simp[bA])
         replace J:=J.eO i1 d (af ..) (by decide) (by decide) (by decide)
         replace H:=H.eO i1 d (af ..) (by decide)
         have m8:=q
         replace q:=q.sa i1 3 k3 I G.size;clear k3
         replace d:=I;clear I
         have a7:kY L V (k+1)=(⟨N,true,(cd x.kd x.n S.off S.aA).2⟩:kj):=by show(fH (kY L V k) (L.getD k fG) (V.getD k mc)).1 =_;rw[hS,hx,hy,R]
         have U:jN (Out++[aR 2]):=c4.snoc (Bq _)
         have W:N.E.length ≤k+1:=by omega
         have Y:=dU (r:=aR 2) a4 c3 (by unfold oN;rw[hS,hx,hy,R])
         refine sT [(8,.slice g9 (k+1) i0)] fun a hF=>cX 1 (xT (xB ?_))
         refine tK<|rS hF<|tA 1 k 1<|sE [(9,nV (k+1))] fun a hF=> ?_
         clear t
         clear m18
         clear l4
         replace G:=G.grew i1 (m8.l 3)
         replace kt:=kt.grew i1 (m8.zero 3 rfl a5)
         replace q:=q.sub (l':=[g9.map (·.block)]) (.cons _ (.cons _ (.cons _ (.cons_cons _ (.slnil)))))
         show ∃m',m'<_∧_
         refine⟨_,?_,(k+1),(⟨N,true,(cd x.kd x.n S.off S.aA).2⟩:kj),(Out++[aR 2]),g9,i0,rfl,G,kt,(by omega),a7,(by rw[List.length_append,a4];rfl),Y,W,J,U,H,d,q,hF.to⟩
         omega
        ·have R:fH S x y=(⟨S.M,true,(cd x.kd x.n S.off S.aA).2⟩,cj 2):=xZ c0 (fun e=>h3 e.2) rfl
         refine rS hF<|t1 0 (.bool false) (.bool ((cd x.kd x.n S.off S.aA).1)) (congrArg Value.bool h1)<|t1 3 (.bool true) (.bool ((ar x.kd).2)) (congrArg Value.bool h2)<|eF 7 (((cm y.dark 4):Nat):Int) 0<|sE [(115,.bool false)] fun a hF=>tK<|cF 115 hF ?_
         refine cN<|tK<|qP [(6,.bool true)] hF fun a hF=>qS hF<|tN 2 (.slice (some ⟨d7.size,0,none⟩) 1 1) ((bA [aR 2]).toArray) 47 fun o4 i2 l5=> ?_
         replace q:=q.nw G.size l5
         replace G:=G.ext i2
         replace kt:=kt.ext i2
         replace d:=d.ext i2
         replace J:=J.ext i2
         replace u:=u.ext i2
         have H:db o4 (Out++[aR 2]):=u.snoc (fY _ 2)
         refine tP 3 (k+1) 192 (bA (Out++[aR 2])) d (Row.blk (n:=1) (sz:=75) (l:=bA [aR 2]) l5 rfl) (dm _) (fun i3 i4 s9 I i5 k4=> ?_) (ys:=(bA ([aR 2]))) (hZ:=by first|rfl|exact List.flatMap_append.symm |simp[bA])
         replace J:=J.eO i5 d (af ..) (by decide) (by decide) (by decide)
         replace H:=H.eO i5 d (af ..) (by decide)
         have m9:=q
         replace q:=q.sa i5 3 k4 I G.size;clear k4
         replace d:=I;clear I
         have a7:kY L V (k+1)=(⟨S.M,true,(cd x.kd x.n S.off S.aA).2⟩:kj):=by show(fH (kY L V k) (L.getD k fG) (V.getD k mc)).1 =_;rw[hS,hx,hy,R]
         have U:jN (Out++[aR 2]):=c4.snoc (Bq _)
         have W:S.M.E.length ≤k+1:=by omega
         have Y:=dU (r:=aR 2) a4 c3 (by unfold oN;rw[hS,hx,hy,R])
         refine sT [(8,.slice i3 (k+1) i4)] fun a hF=>cX 1 (xT (xB ?_))
         refine tK<|rS hF<|tA 1 k 1<|sE [(9,nV (k+1))] fun a hF=> ?_
         clear t
         clear m18
         clear l5
         replace G:=G.grew i5 (m9.l 3)
         replace kt:=kt.grew i5 (m9.zero 3 rfl a5)
         replace q:=q.sub (l':=[i3.map (·.block)]) (.cons _ (.cons _ (.cons _ (.cons_cons _ (.slnil)))))
         show ∃m',m'<_∧_
         refine⟨_,?_,(k+1),(⟨S.M,true,(cd x.kd x.n S.off S.aA).2⟩:kj),(Out++[aR 2]),i3,i4,rfl,G,kt,(by omega),a7,(by rw[List.length_append,a4];rfl),Y,W,J,U,H,d,q,hF.to⟩
         omega
       ·refine cN<|tK<|cS<|cS<|C.mono (K:=fun e a h'=>e= .normal ∧(Ext h h')∧(bk h')∧(bB (fun _=>False) h' rb S.M)∧(db h' Out)∧(Own h' (.slice ad k cap) 47 k 75 (bA Out))∧(Sep h.size h'.size [some (a8.size),some (h7.size),ad.map (·.block)])∧(h'[h7.size]? =some (.cells #[.int .i64 x.kd,.string x.s,.slice x.oa x.l.length x.oc,.int .i64 x.n,.slice x.ka x.kn x.kc] 35))∧(h'[a8.size]? =some (.cells #[.int .i64 y.dark,.int .i64 y.full,.int .i64 y.work] 80))∧Fr a 169 [(0,.slice (some al) L.length lc),(1,.slice va V.length vc),(5,.pointer (some ⟨rb,0,none⟩)),(6,.bool ((cd x.kd x.n S.off S.aA).1)),(7,.bool ((cd x.kd x.n S.off S.aA).2)),(8,.slice ad k cap),(9,.int .i64 ((k:Nat):Int)),(10,.pointer (some ⟨h7.size,0,none⟩)),(11,.pointer (some ⟨a8.size,0,none⟩)),(137,.bool (decide (sk x y X)))]) ?_ ?_
        ·rcases xY (ar x.kd).2 (cm y.full 5) X.c with h2|⟨h2,h3⟩|⟨h2,h3,h4⟩|⟨h2,h3,h4⟩
         ·have d8:¬sk x y X:=fun e=>by have e1:=h2.symm.trans e.1;cases e1
          exact cD [0,1,3,7,15,31,63,127,255,511,255,2047,4095,8191,16383] 25 mixed hF<|mP 1 [0] [.bool ((ar x.kd).2)]<|m1 3 1 (.bool false) (.bool ((ar x.kd).2)) (congrArg Value.bool h2)<|mP 16383 [2,3,4,5,6,7,8,9,10,11,12,13] [undef,undef,undef,undef,.bool false,.bool false,undef,undef,undef,undef,undef,undef]<|m1 32767 14 (.bool (decide (sk x y X))) (.bool false) (congrArg Value.bool (decide_eq_false d8).symm)<|mE [(137,.bool (decide (sk x y X)))] fun a hF=>⟨rfl,G,kt,J,u,d,q,t,m18,hF.to⟩
         ·have d8:¬sk x y X:=fun e=>h3 e.2.1
          refine cD [0,1,3,7,15,31,63,127,255,511,255,2047,4095,8191,16383] 25 mixed hF<|mP 1 [0] [.bool ((ar x.kd).2)]<|m1 3 1 (.bool true) (.bool ((ar x.kd).2)) (congrArg Value.bool h2)<|mP 7 [2] [.pointer (some ⟨a8.size,1,none⟩)]<|mO 15 8 3 1 (.int .i64 y.full) m18<|mL 31 24 4 (.int .i64 (((cm y.full 5):Nat):Int)) (Does.call (f:=12) (args:= #[.int .i64 y.full,.int .i64 5]) (by kernel_rfl) (kZ _ y.full a9.f1 a9.f2))<|DR 63 5 (((cm y.full 5):Nat):Int) 0 ?_
          exact mP 16383 [6,7,8,9,10,11,12,13] [.bool false,.bool false,undef,undef,undef,undef,undef,undef]<|m1 32767 14 (.bool (decide (sk x y X))) (.bool false) (congrArg Value.bool (decide_eq_false d8).symm)<|mE [(137,.bool (decide (sk x y X)))] fun a hF=>⟨rfl,G,kt,J,u,d,q,t,m18,hF.to⟩
         ·have d8:sk x y X:=⟨h2,h3,h4⟩
          refine cD [0,1,3,7,15,31,63,127,255,511,255,2047,4095,8191,16383] 25 mixed hF<|mP 1 [0] [.bool ((ar x.kd).2)]<|m1 3 1 (.bool true) (.bool ((ar x.kd).2)) (congrArg Value.bool h2)<|mP 7 [2] [.pointer (some ⟨a8.size,1,none⟩)]<|mO 15 8 3 1 (.int .i64 y.full) m18<|mL 31 24 4 (.int .i64 (((cm y.full 5):Nat):Int)) (Does.call (f:=12) (args:= #[.int .i64 y.full,.int .i64 5]) (by kernel_rfl) (kZ _ y.full a9.f1 a9.f2))<|C2 63 5 (((cm y.full 5):Nat):Int) 0 ?_
          refine mP 511 [6,7,8] [.bool true,.bool true,pV rb]<|mR 1535 1048 10 t ?_
          have o5:=J.kb
          refine gf 2047 1023 9 [10] (Does.call (f:=24) (args:= #[.pointer (some ⟨rb,0,none⟩)]) (by kernel_rfl) (qj _ rb S.M J (by omega))) ?_
          rintro _ u0 ⟨cb,rfl,hY,o6,g⟩
          replace G:=G.ext g
          replace kt:=kt.ext g
          replace d:=d.ext g
          replace J:=J.ext g
          replace u:=u.ext g
          replace t:=t.x g
          replace m18:=m18.x g
          replace q:=q.up g.size
          clear g
          refine⟨?_,?_⟩
          ·intro j hj
           simp only[List.mem_cons,List.not_mem_nil,or_false] at hj
           subst hj
           exact aD (Calm.load (T:=35) (p:=⟨h7.size,0,none⟩) (by kernel_rfl) (Loads.blk (vs:=[.int .i64 x.kd,.string x.s,.slice x.oa x.l.length x.oc,.int .i64 x.n,.slice x.ka x.kn x.kc]) (by kernel_rfl) t rfl))
          have p7:=hY.kb
          refine gv 4095 4095 11 (oK _ cb S.M hY x.kd x.n x.s x.l _ _ x.ka x.kn x.kc (c6.ext G).1 c6.2 (by omega) N X hs) ?_
          rintro _ u1 ⟨p8,p9,q0,q1,q2,q3,rfl,_,_,_,_,m2,gm⟩
          replace u:=u.rg gm hY;replace d:=d.rg gm hY (by decide)
          replace t:=gm.blk t (fun e=>hY.Bp t (by decide) e.symm)
          replace m18:=gm.blk m18 (fun e=>hY.Bp m18 (by decide) e.symm)
          replace J:=J.other gm hY (by omega);clear hY m2
          replace G:=Gr.dB G gm (by rintro i rfl;omega);replace kt:=kt.gr gm (by intro e;omega)
          replace q:=q.up gm.1;clear gm
          exact mP 8191 [12] [.int .i64 X.c]<|C2 16383 13 X.c 0<|m1 32767 14 (.bool (decide (sk x y X))) (.bool true) (congrArg Value.bool (decide_eq_true d8).symm)<|mE [(137,.bool (decide (sk x y X)))] fun a hF=>⟨rfl,G,kt,J,u,d,q,t,m18,hF.to⟩
         ·have d8:¬sk x y X:=fun e=>h4 e.2.2
          refine cD [0,1,3,7,15,31,63,127,255,511,255,2047,4095,8191,16383] 25 mixed hF<|mP 1 [0] [.bool ((ar x.kd).2)]<|m1 3 1 (.bool true) (.bool ((ar x.kd).2)) (congrArg Value.bool h2)<|mP 7 [2] [.pointer (some ⟨a8.size,1,none⟩)]<|mO 15 8 3 1 (.int .i64 y.full) m18<|mL 31 24 4 (.int .i64 (((cm y.full 5):Nat):Int)) (Does.call (f:=12) (args:= #[.int .i64 y.full,.int .i64 5]) (by kernel_rfl) (kZ _ y.full a9.f1 a9.f2))<|C2 63 5 (((cm y.full 5):Nat):Int) 0 ?_
          refine mP 511 [6,7,8] [.bool true,.bool true,pV rb]<|mR 1535 1048 10 t ?_
          have o5:=J.kb
          refine gf 2047 1023 9 [10] (Does.call (f:=24) (args:= #[.pointer (some ⟨rb,0,none⟩)]) (by kernel_rfl) (qj _ rb S.M J (by omega))) ?_
          rintro _ u2 ⟨cb,rfl,hY,o6,g⟩
          replace G:=G.ext g
          replace kt:=kt.ext g
          replace d:=d.ext g
          replace J:=J.ext g
          replace u:=u.ext g
          replace t:=t.x g
          replace m18:=m18.x g
          replace q:=q.up g.size
          clear g
          refine⟨?_,?_⟩
          ·intro j hj
           simp only[List.mem_cons,List.not_mem_nil,or_false] at hj
           subst hj
           exact aD (Calm.load (T:=35) (p:=⟨h7.size,0,none⟩) (by kernel_rfl) (Loads.blk (vs:=[.int .i64 x.kd,.string x.s,.slice x.oa x.l.length x.oc,.int .i64 x.n,.slice x.ka x.kn x.kc]) (by kernel_rfl) t rfl))
          have o7:=hY.kb
          refine gv 4095 4095 11 (oK _ cb S.M hY x.kd x.n x.s x.l _ _ x.ka x.kn x.kc (c6.ext G).1 c6.2 (by omega) N X hs) ?_
          rintro _ q4 ⟨q5,q6,q7,q8,q9,r1,rfl,_,_,_,_,m2,gm⟩
          replace u:=u.rg gm hY;replace d:=d.rg gm hY (by decide)
          replace t:=gm.blk t (fun e=>hY.Bp t (by decide) e.symm)
          replace m18:=gm.blk m18 (fun e=>hY.Bp m18 (by decide) e.symm)
          replace J:=J.other gm hY (by omega);clear hY m2
          replace G:=Gr.dB G gm (by rintro i rfl;omega);replace kt:=kt.gr gm (by intro e;omega)
          replace q:=q.up gm.1;clear gm
          exact mP 8191 [12] [.int .i64 X.c]<|DR 16383 13 X.c 0<|m1 32767 14 (.bool (decide (sk x y X))) (.bool false) (congrArg Value.bool (decide_eq_false d8).symm)<|mE [(137,.bool (decide (sk x y X)))] fun a hF=>⟨rfl,G,kt,J,u,d,q,t,m18,hF.to⟩
        ·clear G kt J u d t m18
         rintro e a n1 ⟨rfl,G,kt,J,u,d,q,t,m18,hF⟩
         refine tK<|cJ 137 hF (fun c1=> ?_) fun c1=> ?_
         ·have R:fH S x y=(⟨S.M,(cd x.kd x.n S.off S.aA).1,(cd x.kd x.n S.off S.aA).2⟩,cj 3):=zV c0 c1.1 c1.2.1 hs c1.2.2
          refine qS hF<|tN 2 (.slice (some ⟨n1.size,0,none⟩) 1 1) ((bA [aR 3]).toArray) 47 fun n2 c7 i6=> ?_
          replace q:=q.nw G.size i6
          replace G:=G.ext c7
          replace kt:=kt.ext c7
          replace d:=d.ext c7
          replace J:=J.ext c7
          replace u:=u.ext c7
          have H:db n2 (Out++[aR 3]):=u.snoc (fY _ 3)
          refine tP 3 (k+1) 192 (bA (Out++[aR 3])) d (Row.blk (n:=1) (sz:=75) (l:=bA [aR 3]) i6 rfl) (dm _) (fun d9 e8 r2 I c8 i7=> ?_) (ys:=(bA ([aR 3]))) (hZ:=by first|rfl|exact List.flatMap_append.symm |simp[bA])
          replace J:=J.eO c8 d (af ..) (by decide) (by decide) (by decide)
          replace H:=H.eO c8 d (af ..) (by decide)
          have k5:=q
          replace q:=q.sa c8 3 i7 I G.size;clear i7
          replace d:=I;clear I
          have a7:kY L V (k+1)=(⟨S.M,(cd x.kd x.n S.off S.aA).1,(cd x.kd x.n S.off S.aA).2⟩:kj):=by show(fH (kY L V k) (L.getD k fG) (V.getD k mc)).1 =_;rw[hS,hx,hy,R]
          have U:jN (Out++[aR 3]):=c4.snoc (Bq _)
          have W:S.M.E.length ≤k+1:=by omega
          have Y:=dU (r:=aR 3) a4 c3 (by unfold oN;rw[hS,hx,hy,R])
          refine sT [(8,.slice d9 (k+1) e8)] fun a hF=>cX 1 (xT (xB ?_))
          refine tK<|rS hF<|tA 1 k 1<|sE [(9,nV (k+1))] fun a hF=> ?_
          clear t
          clear m18
          clear i6
          replace G:=G.grew c8 (k5.l 3)
          replace kt:=kt.grew c8 (k5.zero 3 rfl a5)
          replace q:=q.sub (l':=[d9.map (·.block)]) (.cons _ (.cons _ (.cons _ (.cons_cons _ (.slnil)))))
          show ∃m',m'<_∧_
          refine⟨_,?_,(k+1),(⟨S.M,(cd x.kd x.n S.off S.aA).1,(cd x.kd x.n S.off S.aA).2⟩:kj),(Out++[aR 3]),d9,e8,rfl,G,kt,(by omega),a7,(by rw[List.length_append,a4];rfl),Y,W,J,U,H,d,q,hF.to⟩
          omega
         ·have j9:fH S x y=(⟨N,(cd x.kd x.n S.off S.aA).1,(cd x.kd x.n S.off S.aA).2⟩,mm x.kd X y):=ub c0 c1 hs
          refine cN<|tK<|qS hF<|tR 1 t ?_
          have o8:=J.kb
          refine tG 2 (oK _ rb S.M J x.kd x.n x.s x.l _ _ x.ka x.kn x.kc (c6.ext G).1 c6.2 (by omega) N X hs) ?_
          rintro _ i8 ⟨w,z,A,B,D,F,rfl,a1,a2,a3,k0,m2,gm⟩
          replace u:=u.rg gm J;replace d:=d.rg gm J (by decide)
          replace t:=gm.blk t (fun e=>J.Bp t (by decide) e.symm)
          replace m18:=gm.blk m18 (fun e=>J.Bp m18 (by decide) e.symm)
          replace G:=Gr.dB G gm (by rintro i rfl;omega);replace kt:=kt.gr gm (by intro e;omega)
          replace q:=q.up gm.1;clear J;have J:bB (fun _=>False) i8 rb N:=m2;clear m2;clear gm
          refine tN 3 (pV i8.size) ((cf 0).toArray) 47 fun r3 Q O=> ?_
          replace q:=q.nw G.size O
          refine bz 4 (bM X.c (.slice w X.b.length z) X.sx X.se X.sh X.sg (.slice A X.i.length B) X.n X.y X.k (.slice D X.p.length F)) O fun k6 P zq=> ?_
          replace J:=J.ext Q
          replace J:=J.vt P O ⟨by decide,by decide⟩ (by decide)
          replace u:=u.ext Q
          replace u:=u.aL P O (by decide)
          replace a1:=a1.ext Q
          replace a1:=a1.aL P O (by decide)
          replace a2:=a2.ext Q
          replace a2:=a2.aL P O (by decide)
          replace a3:=a3.ext Q
          replace a3:=a3.aL P O (by decide)
          replace O:=zq
          refine sT [(15,pV i8.size)] fun a hF=>cS<|qS hF ?_
          replace t:=(t.x Q).y P (q.bp 2 0)
          refine tO 1 0 t<|sT [(147,.bool (decide (x.kd =(11:Int))))] fun a hF=>cJ 147 hF (fun c2=> ?_) fun c2=> ?_
          ·have e3:mm x.kd X y={X with k:=((cm y.work 7:Nat):Int)}:=by unfold mm;rw[if_pos c2]
           refine rS hF ?_
           replace m18:=(m18.x Q).y P (q.bp 1 0)
           refine tO 1 2 m18<|tC 2 (nV (cm y.work 7)) (Does.call (f:=12) (args:= #[.int .i64 y.work,.int .i64 7]) (by kernel_rfl) (zY _ y.work a9.w1 a9.w2))<|tV 4 73 [nV (cm y.work 7)] (bM X.c (.slice w X.b.length z) X.sx X.se X.sh X.sg (.slice A X.i.length B) X.n X.y (((cm y.work 7):Nat):Int) (.slice D X.p.length F)) O fun n3 b0 zq=> ?_
           replace J:=J.vt b0 O ⟨by decide,by decide⟩ (by decide)
           replace u:=u.aL b0 O (by decide)
           replace a1:=a1.aL b0 O (by decide)
           replace a2:=a2.aL b0 O (by decide)
           replace a3:=a3.aL b0 O (by decide)
           replace O:=zq
           refine sE [] fun a hF=>tK<|cS<|cS ?_
           ·skip
            refine rS hF ?_
            replace t:=t.y b0 (q.bp 2 0)
            refine tO 1 0 t<|eF 2 x.kd 15<|sE [(159,.bool false)] fun a hF=>tK<|cF 159 hF<|cN<|tK ?_
            refine rS hF<|tR 1 O ?_
            have R:=j9;rw[e3] at R
            refine tN 2 (.slice (some ⟨n3.size,0,none⟩) 1 1) ((bA [(⟨{X with k:=((cm y.work 7:Nat):Int)},w,z,A,B,D,F⟩:dT)]).toArray) 47 fun n4 b2 i9=> ?_
            replace G:=((G.ext Q).grew P (q.l 0)).grew b0 (q.l 0)
            replace q:=((q.up P.size).up b0.size).nw G.size i9
            replace kt:=(((kt.ext Q).grew P (q.zero 1 rfl a5)).grew b0 (q.zero 1 rfl a5)).ext b2
            replace d:=(((d.ext Q).k P (q.ap 4 1)).k b0 (q.ap 4 1)).ext b2
            replace G:=G.ext b2
            replace J:=J.ext b2
            replace u:=u.ext b2
            replace a1:=a1.ext b2
            replace a2:=a2.ext b2
            replace a3:=a3.ext b2
            have H:db n4 (Out++[(⟨{X with k:=((cm y.work 7:Nat):Int)},w,z,A,B,D,F⟩:dT)]):=u.snoc (⟨a1,a2,a3,k0⟩)
            refine tP 3 (k+1) 192 (bA (Out++[(⟨{X with k:=((cm y.work 7:Nat):Int)},w,z,A,B,D,F⟩:dT)])) d (Row.blk (n:=1) (sz:=75) (l:=bA [(⟨{X with k:=((cm y.work 7:Nat):Int)},w,z,A,B,D,F⟩:dT)]) i9 rfl) (dm _) (fun e4 e9 r4 I c9 j0=> ?_) (ys:=(bA ([(⟨{X with k:=((cm y.work 7:Nat):Int)},w,z,A,B,D,F⟩:dT)]))) (hZ:=by first|rfl|exact List.flatMap_append.symm |simp[bA])
            replace J:=J.eO c9 d (af ..) (by decide) (by decide) (by decide)
            replace H:=H.eO c9 d (af ..) (by decide)
            have k7:=q
            replace q:=q.sa c9 4 j0 I G.size;clear j0
            replace d:=I;clear I
            have a7:kY L V (k+1)=(⟨N,(cd x.kd x.n S.off S.aA).1,(cd x.kd x.n S.off S.aA).2⟩:kj):=by show(fH (kY L V k) (L.getD k fG) (V.getD k mc)).1 =_;rw[hS,hx,hy,R]
            have U:jN (Out++[(⟨{X with k:=((cm y.work 7:Nat):Int)},w,z,A,B,D,F⟩:dT)]):=c4.snoc j8
            have W:N.E.length ≤k+1:=by omega
            have Y:=dU (r:=(⟨{X with k:=((cm y.work 7:Nat):Int)},w,z,A,B,D,F⟩:dT)) a4 c3 (by unfold oN;rw[hS,hx,hy,R])
            refine sE [(8,.slice e4 (k+1) e9)] fun a hF=>bK<|tK<|rS hF<|tA 1 k 1<|sE [(9,nV (k+1))] fun a hF=> ?_
            clear t
            clear m18
            clear O
            clear i9
            replace G:=G.grew c9 (k7.l 4)
            replace kt:=kt.grew c9 (k7.zero 4 rfl a5)
            replace q:=q.sub (l':=[e4.map (·.block)]) (.cons _ (.cons _ (.cons _ (.cons _ (.cons_cons _ (.slnil))))))
            show ∃m',m'<_∧_
            refine⟨_,?_,(k+1),(⟨N,(cd x.kd x.n S.off S.aA).1,(cd x.kd x.n S.off S.aA).2⟩:kj),(Out++[(⟨{X with k:=((cm y.work 7:Nat):Int)},w,z,A,B,D,F⟩:dT)]),e4,e9,rfl,G,kt,(by omega),a7,(by rw[List.length_append,a4];rfl),Y,W,J,U,H,d,q,hF.to⟩
            omega
          ·refine cN<|tK<|cS<|cS ?_
           rcases(by omega:(x.kd =15∧X.c =0)∨(x.kd =15∧X.c ≠0)∨x.kd ≠15) with j1|j1|j1
           ·have e3:mm x.kd X y={X with k:=((cm y.work 5:Nat):Int)}:=by unfold mm;rw[if_neg c2,if_pos j1]
            refine rS hF<|tO 1 0 t<|eT 2 x.kd 15<|tO 5 0 O<|eT 6 X.c 0<|sE [(159,.bool true)] fun a hF=>tK ?_
            refine cT 159 hF<|rS hF ?_
            replace m18:=(m18.x Q).y P (q.bp 1 0)
            refine tO 1 2 m18<|tC 2 (nV (cm y.work 5)) (Does.call (f:=12) (args:= #[.int .i64 y.work,.int .i64 5]) (by kernel_rfl) (kZ _ y.work a9.w1 a9.w2))<|tV 4 73 [nV (cm y.work 5)] (bM X.c (.slice w X.b.length z) X.sx X.se X.sh X.sg (.slice A X.i.length B) X.n X.y (((cm y.work 5):Nat):Int) (.slice D X.p.length F)) O fun n5 b1 zq=> ?_
            replace J:=J.vt b1 O ⟨by decide,by decide⟩ (by decide)
            replace u:=u.aL b1 O (by decide)
            replace a1:=a1.aL b1 O (by decide)
            replace a2:=a2.aL b1 O (by decide)
            replace a3:=a3.aL b1 O (by decide)
            replace O:=zq
            refine sE [] fun a hF=>tK<|rS hF<|tR 1 O ?_
            have R:=j9;rw[e3] at R
            refine tN 2 (.slice (some ⟨n5.size,0,none⟩) 1 1) ((bA [(⟨{X with k:=((cm y.work 5:Nat):Int)},w,z,A,B,D,F⟩:dT)]).toArray) 47 fun n6 b3 j2=> ?_
            replace G:=((G.ext Q).grew P (q.l 0)).grew b1 (q.l 0)
            replace q:=((q.up P.size).up b1.size).nw G.size j2
            replace kt:=(((kt.ext Q).grew P (q.zero 1 rfl a5)).grew b1 (q.zero 1 rfl a5)).ext b3
            replace d:=(((d.ext Q).k P (q.ap 4 1)).k b1 (q.ap 4 1)).ext b3
            replace G:=G.ext b3
            replace J:=J.ext b3
            replace u:=u.ext b3
            replace a1:=a1.ext b3
            replace a2:=a2.ext b3
            replace a3:=a3.ext b3
            have H:db n6 (Out++[(⟨{X with k:=((cm y.work 5:Nat):Int)},w,z,A,B,D,F⟩:dT)]):=u.snoc (⟨a1,a2,a3,k0⟩)
            refine tP 3 (k+1) 192 (bA (Out++[(⟨{X with k:=((cm y.work 5:Nat):Int)},w,z,A,B,D,F⟩:dT)])) d (Row.blk (n:=1) (sz:=75) (l:=bA [(⟨{X with k:=((cm y.work 5:Nat):Int)},w,z,A,B,D,F⟩:dT)]) j2 rfl) (dm _) (fun e5 f0 r5 I d0 j3=> ?_) (ys:=(bA ([(⟨{X with k:=((cm y.work 5:Nat):Int)},w,z,A,B,D,F⟩:dT)]))) (hZ:=by first|rfl|exact List.flatMap_append.symm |simp[bA])
            replace J:=J.eO d0 d (af ..) (by decide) (by decide) (by decide)
            replace H:=H.eO d0 d (af ..) (by decide)
            have k8:=q
            replace q:=q.sa d0 4 j3 I G.size;clear j3
            replace d:=I;clear I
            have a7:kY L V (k+1)=(⟨N,(cd x.kd x.n S.off S.aA).1,(cd x.kd x.n S.off S.aA).2⟩:kj):=by show(fH (kY L V k) (L.getD k fG) (V.getD k mc)).1 =_;rw[hS,hx,hy,R]
            have U:jN (Out++[(⟨{X with k:=((cm y.work 5:Nat):Int)},w,z,A,B,D,F⟩:dT)]):=c4.snoc j8
            have W:N.E.length ≤k+1:=by omega
            have Y:=dU (r:=(⟨{X with k:=((cm y.work 5:Nat):Int)},w,z,A,B,D,F⟩:dT)) a4 c3 (by unfold oN;rw[hS,hx,hy,R])
            refine sE [(8,.slice e5 (k+1) f0)] fun a hF=>bK<|tK<|rS hF<|tA 1 k 1<|sE [(9,nV (k+1))] fun a hF=> ?_
            clear t
            clear m18
            clear O
            clear j2
            replace G:=G.grew d0 (k8.l 4)
            replace kt:=kt.grew d0 (k8.zero 4 rfl a5)
            replace q:=q.sub (l':=[e5.map (·.block)]) (.cons _ (.cons _ (.cons _ (.cons _ (.cons_cons _ (.slnil))))))
            show ∃m',m'<_∧_
            refine⟨_,?_,(k+1),(⟨N,(cd x.kd x.n S.off S.aA).1,(cd x.kd x.n S.off S.aA).2⟩:kj),(Out++[(⟨{X with k:=((cm y.work 5:Nat):Int)},w,z,A,B,D,F⟩:dT)]),e5,f0,rfl,G,kt,(by omega),a7,(by rw[List.length_append,a4];rfl),Y,W,J,U,H,d,q,hF.to⟩
            omega
           ·have e3:mm x.kd X y=X:=by unfold mm;rw[if_neg c2,if_neg (fun e=>j1.2 e.2)]
            refine rS hF<|tO 1 0 t<|eT 2 x.kd 15<|tO 5 0 O<|eF 6 X.c 0<|sE [(159,.bool false)] fun a hF=>tK ?_
            refine cF 159 hF<|cN<|tK<|rS hF<|tR 1 O ?_
            have R:=j9;rw[e3] at R
            refine tN 2 (.slice (some ⟨k6.size,0,none⟩) 1 1) ((bA [(⟨X,w,z,A,B,D,F⟩:dT)]).toArray) 47 fun n7 b4 j4=> ?_
            replace G:=(G.ext Q).grew P (q.l 0)
            replace q:=(q.up P.size).nw G.size j4
            replace kt:=((kt.ext Q).grew P (q.zero 1 rfl a5)).ext b4
            replace d:=((d.ext Q).k P (q.ap 4 1)).ext b4
            replace G:=G.ext b4
            replace J:=J.ext b4
            replace u:=u.ext b4
            replace a1:=a1.ext b4
            replace a2:=a2.ext b4
            replace a3:=a3.ext b4
            have H:db n7 (Out++[(⟨X,w,z,A,B,D,F⟩:dT)]):=u.snoc (⟨a1,a2,a3,k0⟩)
            refine tP 3 (k+1) 192 (bA (Out++[(⟨X,w,z,A,B,D,F⟩:dT)])) d (Row.blk (n:=1) (sz:=75) (l:=bA [(⟨X,w,z,A,B,D,F⟩:dT)]) j4 rfl) (dm _) (fun e6 f3 r6 I d3 j5=> ?_) (ys:=(bA ([(⟨X,w,z,A,B,D,F⟩:dT)]))) (hZ:=by first|rfl|exact List.flatMap_append.symm |simp[bA])
            replace J:=J.eO d3 d (af ..) (by decide) (by decide) (by decide)
            replace H:=H.eO d3 d (af ..) (by decide)
            have k9:=q
            replace q:=q.sa d3 4 j5 I G.size;clear j5
            replace d:=I;clear I
            have a7:kY L V (k+1)=(⟨N,(cd x.kd x.n S.off S.aA).1,(cd x.kd x.n S.off S.aA).2⟩:kj):=by show(fH (kY L V k) (L.getD k fG) (V.getD k mc)).1 =_;rw[hS,hx,hy,R]
            have U:jN (Out++[(⟨X,w,z,A,B,D,F⟩:dT)]):=c4.snoc j8
            have W:N.E.length ≤k+1:=by omega
            have Y:=dU (r:=(⟨X,w,z,A,B,D,F⟩:dT)) a4 c3 (by unfold oN;rw[hS,hx,hy,R])
            refine sE [(8,.slice e6 (k+1) f3)] fun a hF=>bK<|tK<|rS hF<|tA 1 k 1<|sE [(9,nV (k+1))] fun a hF=> ?_
            clear t
            clear m18
            clear O
            clear j4
            replace G:=G.grew d3 (k9.l 4)
            replace kt:=kt.grew d3 (k9.zero 4 rfl a5)
            replace q:=q.sub (l':=[e6.map (·.block)]) (.cons _ (.cons _ (.cons _ (.cons _ (.cons_cons _ (.slnil))))))
            show ∃m',m'<_∧_
            refine⟨_,?_,(k+1),(⟨N,(cd x.kd x.n S.off S.aA).1,(cd x.kd x.n S.off S.aA).2⟩:kj),(Out++[(⟨X,w,z,A,B,D,F⟩:dT)]),e6,f3,rfl,G,kt,(by omega),a7,(by rw[List.length_append,a4];rfl),Y,W,J,U,H,d,q,hF.to⟩
            omega
           ·have e3:mm x.kd X y=X:=by unfold mm;rw[if_neg c2,if_neg (fun e=>j1 e.1)]
            refine rS hF<|tO 1 0 t<|eF 2 x.kd 15<|sE [(159,.bool false)] fun a hF=>tK<|cF 159 hF<|cN ?_
            refine tK<|rS hF<|tR 1 O ?_
            have R:=j9;rw[e3] at R
            refine tN 2 (.slice (some ⟨k6.size,0,none⟩) 1 1) ((bA [(⟨X,w,z,A,B,D,F⟩:dT)]).toArray) 47 fun n8 b6 j6=> ?_
            replace G:=(G.ext Q).grew P (q.l 0)
            replace q:=(q.up P.size).nw G.size j6
            replace kt:=((kt.ext Q).grew P (q.zero 1 rfl a5)).ext b6
            replace d:=((d.ext Q).k P (q.ap 4 1)).ext b6
            replace G:=G.ext b6
            replace J:=J.ext b6
            replace u:=u.ext b6
            replace a1:=a1.ext b6
            replace a2:=a2.ext b6
            replace a3:=a3.ext b6
            have H:db n8 (Out++[(⟨X,w,z,A,B,D,F⟩:dT)]):=u.snoc (⟨a1,a2,a3,k0⟩)
            refine tP 3 (k+1) 192 (bA (Out++[(⟨X,w,z,A,B,D,F⟩:dT)])) d (Row.blk (n:=1) (sz:=75) (l:=bA [(⟨X,w,z,A,B,D,F⟩:dT)]) j6 rfl) (dm _) (fun e7 f4 r7 I d4 j7=> ?_) (ys:=(bA ([(⟨X,w,z,A,B,D,F⟩:dT)]))) (hZ:=by first|rfl|exact List.flatMap_append.symm |simp[bA])
            replace J:=J.eO d4 d (af ..) (by decide) (by decide) (by decide)
            replace H:=H.eO d4 d (af ..) (by decide)
            have l0:=q
            replace q:=q.sa d4 4 j7 I G.size;clear j7
            replace d:=I;clear I
            have a7:kY L V (k+1)=(⟨N,(cd x.kd x.n S.off S.aA).1,(cd x.kd x.n S.off S.aA).2⟩:kj):=by show(fH (kY L V k) (L.getD k fG) (V.getD k mc)).1 =_;rw[hS,hx,hy,R]
            have U:jN (Out++[(⟨X,w,z,A,B,D,F⟩:dT)]):=c4.snoc j8
            have W:N.E.length ≤k+1:=by omega
            have Y:=dU (r:=(⟨X,w,z,A,B,D,F⟩:dT)) a4 c3 (by unfold oN;rw[hS,hx,hy,R])
            refine sE [(8,.slice e7 (k+1) f4)] fun a hF=>bK<|tK<|rS hF<|tA 1 k 1<|sE [(9,nV (k+1))] fun a hF=> ?_
            clear t
            clear m18
            clear O
            clear j6
            replace G:=G.grew d4 (l0.l 4)
            replace kt:=kt.grew d4 (l0.zero 4 rfl a5)
            replace q:=q.sub (l':=[e7.map (·.block)]) (.cons _ (.cons _ (.cons _ (.cons _ (.cons_cons _ (.slnil))))))
            show ∃m',m'<_∧_
            refine⟨_,?_,(k+1),(⟨N,(cd x.kd x.n S.off S.aA).1,(cd x.kd x.n S.off S.aA).2⟩:kj),(Out++[(⟨X,w,z,A,B,D,F⟩:dT)]),e7,f4,rfl,G,kt,(by omega),a7,(by rw[List.length_append,a4];rfl),Y,W,J,U,H,d,q,hF.to⟩
            omega
 ·refine cX 0 (xT (xT (xB ?_)))
  refine tK<|qP [(4,.slice ad k cap)] hF fun a hF=>cR<|rT 4 (.slice ad k cap) hF ?_
  have o9:k=L.length :=by omega
  subst o9
  exact⟨Out,ad,cap,rfl,a4,c3,d,u,c4,q.low 0 rfl,G⟩
theorem zZ(h:Heap)(c:Int)(n r:Nat)(hr:cm c n=r)(hn:0<n)(h1: -9223372036854775808≤c)(h2:c≤9223372036854775807):Sat Tryz.prog 12 #[.int .i64 c,.int .i64 ((n:Nat):Int)] h fun v h'=>v= .int .i64 ((r:Nat):Int)∧h'=h:=by
 refine ag Tryz.func12 13 fun a b=>qP [] b fun a b=>cS<|qP [(6,.bool (decide (c<(0:Int))))] b fun a b=>cJ 6 b (fun d=> ?_) fun d=> ?_
 ·have e:=kW n d
  refine rS b<|t1 1 (.int .i64 (c+1)) (.int .i64 (IntKind.i64.wrap (c+1))) (congrArg (Value.int .i64) (kC (by omega) (by omega)))<|t1 2 (.int .i64 (-(c+1))) (.int .i64 (IntKind.i64.wrap (0 - (c+1)))) (congrArg (Value.int .i64) ((kC (by omega) (by omega)).trans (by omega)))<|sE [(0,.int .i64 (-(c+1)))] fun a b=>tK<|qS b<|tC 2 (nV r) ((fun h=>Calm.rem (k:= .i64) (x:=(-(c+1))) (y:=((n:Nat):Int)) (r:=((r:Nat):Int)) (by kernel_rfl) (by omega) ((congrArg (fun x=>Int.tmod x ((n:Nat):Int)) (show((-(c+1)):Int)=((((-(c+1)):Int).toNat :Nat):Int) by omega)).trans ((gu _ n).trans (by rw[e,hr]))) h) _) ?_
  exact sT [(4,nV r)] fun a b=>cR<|rT 4 (nV r) b<|⟨rfl,rfl⟩
 ·have e:=kX n d
  refine cN<|tK<|qS b<|tC 2 (nV r) ((fun h=>Calm.rem (k:= .i64) (x:=c) (y:=((n:Nat):Int)) (r:=((r:Nat):Int)) (by kernel_rfl) (by omega) ((congrArg (fun x=>Int.tmod x ((n:Nat):Int)) (show(c:Int)=(((c:Int).toNat :Nat):Int) by omega)).trans ((gu _ n).trans (by rw[e,hr]))) h) _)<|sT [(4,nV r)] fun a b=>cR<|rT 4 (nV r) b ?_
  exact⟨rfl,rfl⟩
noncomputable def b5:Code:=Tryz.f5.body.getD .skip
set_option maxHeartbeats 1000000 in
theorem so(h:Heap)(L:List ff)(la:Option Addr)(lc:Nat)(hll:Row h (.slice la L.length lc) L.length 5 (gN L))(ho:∀o∈L,mD h o∧o.l.length ≤1048576)(hlb:L.length ≤1048576)(V:List Lk)(va:Option Addr)(vc:Nat)(hvv:Row h (.slice va V.length vc) V.length 3 (t_ V))(hv:∀x∈V,mh x)(d:Int)(hd1: -9223372036854775808≤d)(hd2:d≤9223372036854775807)(kt:bk h):Sat Tryz.prog 5 #[.slice la L.length lc,.slice va V.length vc,.int .i64 d] h fun v h'=>v= .bool true∧Ext h h':=by
 have e:=Ext.refl h
 have O:=kt.lt
 have m:Sep h.size h.size []:=Sep.nil _ _
 refine ag Tryz.func5 70 fun a p=>qP [] p fun a p=>qS p<|tG 0 (vi _ kt) ?_
 rintro _ h2 ⟨rfl,g1⟩
 refine sT [(7,.bool true)] fun a p=>cS<|qP [(14,.bool false)] p fun a p=>cF 14 p<|cN<|tK<|qS p ?_
 replace e:=e.ext g1
 replace kt:=kt.ext g1
 refine tG 2 (sn _ L la lc (hll.ext e) (fun o z=>⟨⟨(ho o z).1.1.1.ext e,(ho o z).1.2⟩,(ho o z).2⟩) hlb V va vc (hvv.ext e) hv kt) ?_
 rintro _ N ⟨t,A,q,rfl,s,F,b,g,b3,a5,g5⟩
 replace m:=(m.up g1.size).co g5 a5 b e.size
 refine sT [(8,.slice A L.length q)] fun a p=>qS p<|tA 3 L.length 1 ?_
 obtain⟨n,a6⟩:∃n,cm d (L.length +1)=n:=⟨_,rfl⟩
 have b4:n≤L.length :=by have:=si d (show 0<L.length +1 by omega);omega
 refine tC 4 (nV n) (Does.call (f:=12) (args:= #[.int .i64 d,nV (L.length +1)]) (by kernel_rfl) (zZ _ d (L.length +1) n a6 (by omega) hd1 hd2))<|sT [(9,nV n)] fun a p=>qS p<|tN 2 (.slice (some ⟨N.size,0,none⟩) 1 1) #[nV n,.int .i64 7] 52 fun h8 I i=> ?_
 replace e:=e.ext g5
 replace m:=m.nw e.size i
 refine sT [(10,.slice (some ⟨N.size,0,none⟩) 1 1)] fun a p=>cS<|qP [(29,.bool (decide (((n:Nat):Int)=((L.length :Nat):Int))))] p fun a p=>cJ 29 p (fun P=> ?_) fun P=> ?_
 ·refine qS p<|tN 0 (.slice (some ⟨h8.size,0,none⟩) 0 0) #[] 47 fun Q B K=> ?_
  replace e:=e.ext I
  replace m:=m.nw e.size K
  have c:Own Q (.slice (some ⟨h8.size,0,none⟩) 0 0) 47 ([]:List dT).length 75 (bA []):=Own.empty 75 K
  replace m:Sep h.size Q.size [(some ⟨h8.size,0,none⟩:Option Addr).map (·.block),some (N.size),A.map (·.block)]:=m
  replace kt:=((kt.ext g5).ext I).ext B
  replace b:=(b.ext I).ext B
  replace g:=(g.ext I).ext B
  replace e:=e.ext B
  replace i:=i.x B
  clear K
  refine tP 2 L.length 192 (bA t) c b.row (dm _) (fun b1 a7 a8 r u J=> ?_) (hZ:=by first|rfl|exact List.flatMap_append.symm |simp[bA])
  replace g:=g.eO u c (af ..) (by decide)
  have G:=m
  replace m:=m.sa u 0 J r e.size;clear J
  replace c:=r;clear r
  refine tN 4 (.slice (some ⟨a8.size,0,none⟩) 1 1) ((bA [aR 77]).toArray) 47 fun b6 w R=> ?_
  replace e:=e.grew u (G.l 0)
  replace m:=m.nw e.size R
  replace c:=c.ext w
  refine tP 5 (L.length +1) 192 (bA (t++[aR 77])) c (Row.blk (n:=1) (sz:=75) (l:=bA [aR 77]) R rfl) (dm _) (fun S M b7 r C b2=> ?_) (ys:=(bA ([aR 77]))) (hZ:=by first|rfl|exact List.flatMap_append.symm |simp[bA])
  replace e:=e.ext w
  replace g:=g.ext w
  replace g:=g.eO C c (af ..) (by decide)
  have H:=m
  replace c:=r;clear r
  refine sT [(11,.slice S (L.length +1) M)] fun a p=>qS p ?_
  replace kt:=((kt.grew u (G.zero 0 rfl O)).ext w).grew C (H.zero 1 rfl O)
  replace b:=((b.k u (G.ap 2 0)).ext w).k C (H.ap 3 1)
  replace i:=((i.y u (G.bp 1 0)).x w).y C (H.bp 2 1)
  replace e:=e.grew C (H.l 1)
  refine tG 4 (gS _ L t L.length _ _ _ _ (yb L V) (fun _=>0) (hll.ext e) rfl b.row s kt (by omega) rfl (oP s F g (fun o z=>(ho o z).1.ext e) hlb) [] (qq _)) ?_
  rintro _ b8 ⟨jd,jc,rfl,_,D⟩
  replace e:=e.ext D
  replace kt:=kt.ext D
  replace g:=g.ext D
  replace c:=c.ext D
  replace i:=i.x D
  refine tG 11 (mi _ L (t++[aR 77]) L.length (L.length +1) n _ _ _ _ (yb L V) (hll.ext e) rfl c.row (by rw[List.length_append,s];rfl) kt (by omega) (by omega) (by omega) (by omega) rfl (fun j hj=>by rw[x6 (by omega)];exact oP s F g (fun o z=>(ho o z).1.ext e) hlb j (by omega))) ?_
  rintro _ c0 ⟨T,U,rfl,W,X⟩
  replace e:=e.ext X
  replace i:=i.x X
  refine tC 13 (.bool true) (Does.call (f:=14) (args:= #[.slice T 1 U,.slice (some ⟨N.size,0,none⟩) 1 1]) (by kernel_rfl) (eS _ (((n:Nat):Int),(7:Int)) _ _ _ _ W (Row.blk (n:=1) (sz:=2) (l:=da [(((n:Nat):Int),(7:Int))]) i rfl)))<|sT [(6,.bool true)] fun a p=>cR (yT ?_)
  exact rT 6 (.bool true) p<|⟨rfl,e⟩
 ·refine cN<|tK<|qS p ?_
  replace b:=b.ext I
  have a9:L.length ≤q:=Row.x5 b.row
  refine tC 5 (.slice A n q) ((fun h=>Calm.bV (a:=A) (len:=L.length) (cap:=q) (sz:=75) (x:=A) 0 n q n q (by kernel_rfl) (.inl ⟨rfl,rfl⟩) (.inr rfl) (.inl ⟨rfl,rfl⟩) (by omega) (by omega) CH (by first|rfl|omega) (by first|rfl|omega) h) _) ?_
  replace kt:=(kt.ext g5).ext I
  replace e:=e.ext I
  replace g:=g.ext I
  refine tG 6 (mi _ L (t.take n) L.length n n _ _ _ _ (yb L V) (hll.ext e) rfl (Row.tk qf b.row s (by omega)) (by rw[List.length_take,s];omega) kt (by omega) (by omega) (by omega) (by omega) rfl (fun j hj=>by rw[uc (by omega)];exact oP s F g (fun o z=>(ho o z).1.ext e) hlb j (by omega))) ?_
  rintro _ c1 ⟨Y,Z,rfl,a0,E⟩
  replace e:=e.ext E
  replace kt:=kt.ext E
  replace b:=b.ext E
  replace g:=g.ext E
  replace i:=i.x E
  refine tC 8 (.bool true) (Does.call (f:=14) (args:= #[.slice Y 1 Z,.slice (some ⟨N.size,0,none⟩) 1 1]) (by kernel_rfl) (eS _ (((n:Nat):Int),(7:Int)) _ _ _ _ a0 (Row.blk (n:=1) (sz:=2) (l:=da [(((n:Nat):Int),(7:Int))]) i rfl))) ?_
  have b0:L.length ≤lc:=Row.x5 hll
  refine tC 13 (.slice la n lc) ((fun h=>Calm.bV (a:=la) (len:=L.length) (cap:=lc) (sz:=5) (x:=la) 0 n lc n lc (by kernel_rfl) (.inl ⟨rfl,rfl⟩) (.inr rfl) (.inl ⟨rfl,rfl⟩) (by omega) (by omega) CH (by first|rfl|omega) (by first|rfl|omega) h) _)<|tG 15 (mi _ (L.take n) t n L.length n _ _ _ _ (yb L V) (Row.tk kT (hll.ext e) rfl (by omega)) (by rw[List.length_take];omega) b.row s kt (by omega) (by omega) (by omega) (by omega) rfl (fun j hj=>by rw[uc (by omega)];exact oP s F g (fun o z=>(ho o z).1.ext e) hlb j (by omega))) ?_
  rintro _ c2 ⟨a1,a2,rfl,a3,a4⟩
  replace e:=e.ext a4
  replace i:=i.x a4
  exact tC 17 (.bool true) (Does.call (f:=14) (args:= #[.slice a1 1 a2,.slice (some ⟨N.size,0,none⟩) 1 1]) (by kernel_rfl) (eS _ (((n:Nat):Int),(7:Int)) _ _ _ _ a3 (Row.blk (n:=1) (sz:=2) (l:=da [(((n:Nat):Int),(7:Int))]) i rfl)))<|sT [(6,.bool true)] fun a p=>cR<|rT 6 (.bool true) p<|⟨rfl,e⟩
end Go.Proofs.YtegkejcglfgpmaaGreatDoor
end
section
namespace Go.Proofs.YtegkejcglfgpmaaGreatDoor.modelCounts
open Go.ChangeShapes Go.WideShapes Go.ChangeAt Go.RowKit
set_option maxRecDepth 100000 in
/-- WHAT THE WALK GIVES, for every argument and every world that holds the table. -/
theorem contract(H:Type)(enc:TypeId×Value→H)(W:World)(base:Nat)(args:Array Value)(ds gs:List (DataW H))(before:List MemPlace)
    (hval:∀(j:Nat) t v,Tryz.f5.params[j]? =some t→args[j]? =some v→Value.okWide Tryz.prog W .any base t v)
    (hW:DataW.Whole enc Tryz.prog Tryz.f5.params.toList Rows.modelCountsSpec.vars false W args.toList ds gs before) (hk:Rows.uptoSmall H (ds++gs)=true) (hL:laidMetH Tryz.prog Rows.modelCountsUptoRow.laid W):
    Calls Tryz.prog 5 args W fun e W'=>∃v,e= .returned v∧Rows.modelCountsSpec.post enc Tryz.prog Tryz.f5 false true false false W args v W':=by
  have hW':=hW
  obtain⟨p,q,hA0,hV,rfl,hfz,hnd⟩:=hW
  have hA:DataW.TrodAll enc Tryz.prog W 0 (fun _=>true) true Tryz.f5.params.toList args.toList ds p:=hA0
  rw[show Tryz.f5.params.toList =[22,23,3] from rfl] at hA
  obtain⟨v0,vs0,d0,ds0,p0,q0,hargs,rfl,rfl,h0,r0⟩:=trodAll_cons hA
  obtain⟨v1,vs1,d1,ds1,p1,q1,rfl,rfl,rfl,h1,r1⟩:=trodAll_cons r0
  obtain⟨v2,vs2,d2,ds2,p2,q2,rfl,rfl,rfl,h2,r2⟩:=trodAll_cons r1
  obtain⟨rfl,rfl,rfl⟩:=trodAll_nil r2
  obtain rfl:args= #[v0,v1,v2]:=by cases args;simp_all
  obtain⟨rfl,rfl⟩:=trodVars_none hV
  have CI:=sL.bound hk
  simp only[List.append_nil,Rows.uptoBulkAll] at CI
  have kt:aK.bk W.heap :=yq hL
  have hO:AY Tryz.prog 35 3 9 32 5 33:=⟨by kernel_rfl,by kernel_rfl,by kernel_rfl,by kernel_rfl,by kernel_rfl,by kernel_rfl,by kernel_rfl,by kernel_rfl,by kernel_rfl,by kernel_rfl,by kernel_rfl,by kernel_rfl⟩
  obtain⟨la,lc,L,rfl,hl,ho,hlb⟩:=vv hO (by kernel_rfl) (hval 0 22 v0 rfl rfl) h0
  have hQ:Bs Tryz.prog 80 3:=⟨by kernel_rfl,by kernel_rfl,by kernel_rfl,by kernel_rfl⟩
  obtain⟨va,vc,V,rfl,hv,hk'⟩:=x3 hQ (by kernel_rfl) (hval 1 23 v1 rfl rfl) h1
  obtain⟨d,rfl,hd1,hd2⟩:=x4 (by kernel_rfl) (hval 2 3 v2 rfl rfl) h2
  refine(so W.heap L la lc hl (fun o h=>⟨(ho o h).1,by have:=(ho o h).2;omega⟩) (by omega) V va vc hv hk' d hd1 hd2 kt W rfl).mono fun e W' ⟨v,he,sm,hv,ex⟩=> ?_
  subst hv
  exact⟨_,he,vR laidOut rfl (by kernel_rfl) (fun t ht=>by
    simp only[show Tryz.f5.params.toList =[22,23,3] from rfl,List.mem_cons,List.not_mem_nil,or_false] at ht
    rcases ht with rfl|rfl|rfl
    · exact⟨by kernel_rfl,of_decide_eq_true (by kernel_rfl)⟩
    · exact⟨by kernel_rfl,of_decide_eq_true (by kernel_rfl)⟩
    · exact⟨by kernel_rfl,of_decide_eq_true (by kernel_rfl)⟩) rfl rfl rfl rfl hW' (vQ sm ex)⟩
noncomputable def laidWorld(os:Os):World:=
  {World.holding Tryz.prog os ⟨#[], #[],[]⟩ with heap:=(World.holding Tryz.prog os ⟨#[], #[],[]⟩).heap.modify 0 fun
      | .cells _ t frozen=> .cells (aK.fK.map aK.wv).toArray t frozen
      |o=>o}
theorem laid_met(os:Os):laidMet Tryz.prog Rows.modelCountsUptoRow.laid ((laidWorld os).forCall (fun _ _=>0) ⟨#[], #[.slice none 0 0, .slice none 0 0, .int .i64 0],[]⟩).memory :=
  laidMet_of_run' 8 (by kernel_rfl) (by kernel_rfl)
theorem reads(os:Os){H:Type}(enc:TypeId×Value→H):∃places,DataW.whole enc Tryz.prog ((laidWorld os).forCall (fun _ _=>0) ⟨#[], #[.slice none 0 0, .slice none 0 0, .int .i64 0],[]⟩).memory Tryz.f5.params.toList Rows.modelCountsSpec.vars false (#[.slice none 0 0, .slice none 0 0, .int .i64 0]:Array Value).toList 8=some ([.nil, .nil, .lit (.int .i64 0)],[],places):=
  ⟨[],by kernel_rfl⟩
set_option maxRecDepth 100000 in
theorem sq(os:Os)(started:os.Started)(H:Type)(enc:TypeId×Value→H)(F:Stop.Interp):
    ReturnsInHanded {} Tryz.checked os 5 .any ((Rows.OpenSpec.upto Rows.modelCountsSpec).preRow enc Tryz.prog Tryz.f5 Rows.modelCountsUptoRow.domain false Rows.modelCountsUptoRow.laid) (((Rows.OpenSpec.upto Rows.modelCountsSpec).at F).post enc Tryz.prog Tryz.f5 false true false false):=by
  obtain⟨places,hx⟩:=reads os enc
  refine returnsInHanded_of_row (C:=Tryz.checked) (s:=Rows.OpenSpec.upto Rows.modelCountsSpec) own started (by kernel_rfl) Tryz.func5
    (witness_row_at (enc:=enc) (C:=Tryz.checked) false (laidWorld os) #[.slice none 0 0, .slice none 0 0, .int .i64 0] rfl (by kernel_rfl) (by kernel_rfl) (by kernel_rfl)
      (OpenSpec.preRow_of_cond 8 hx (by kernel_rfl) (fun k hk=>by cases hk;kernel_rfl) (by kernel_rfl) (laid_met os))) ?_
  intro W base args ds gs before hval hW _ hc _ hL _ _
  exact contract H enc W base args ds gs before hval hW (hc _ rfl) hL
theorem x8:Rows.ModelCountsUptoSaid :=
  OpenClaim.holds_of_cond 5 Tryz.f5 rfl rfl rfl rfl rfl rfl rfl ⟨rfl,rfl,rfl,rfl,rfl⟩ rfl rfl rfl rfl rfl (by kernel_rfl) Tryz.func5 (by kernel_rfl)
    (of_decide_eq_true (by kernel_rfl)) (by unfold Func.isWrapper;first| (rw[if_pos (by decide+kernel)];kernel_rfl)| (rw[if_neg (by decide+kernel)];exact⟨rfl,rfl⟩))
    (fun os started H enc _ F=>by rw[OpenClaim.pre_eq_preRow];exact sq os started H enc F)
theorem plain(f:FuncId)(fn:Func)(hf:Tryz.pinned.checked.prog.funcNamed "muniment/munimentlaw23.ModelCounts" =some f)(hfn:Tryz.pinned.checked.prog.funcs[f]? =some fn):
    false=Tryz.pinned.checked.prog.looks []∧∀(j:Nat) t,fn.params[j]? =some t→Tryz.pinned.checked.prog.wantsStandIn t=false:=by
  obtain rfl:f=5:=Option.some.inj ((show Tryz.prog.funcNamed "muniment/munimentlaw23.ModelCounts" =some 5 by kernel_rfl).symm.trans hf) |>.symm
  obtain rfl:fn=Tryz.f5 :=(Option.some.inj (Tryz.func5.symm.trans hfn)).symm
  refine⟨by kernel_rfl,fun j t ht=> ?_⟩
  rw[show Tryz.f5.params = #[22,23,3] from rfl] at ht
  have hm:=Array.mem_of_getElem? ht
  simp only[List.mem_toArray,List.mem_cons,List.not_mem_nil,or_false] at hm
  rcases hm with rfl|rfl|rfl
  · exact(show Tryz.prog.wantsStandIn 22=false by kernel_rfl)
  · exact(show Tryz.prog.wantsStandIn 23=false by kernel_rfl)
  · exact(show Tryz.prog.wantsStandIn 3=false by kernel_rfl)
theorem cardUpto:Rows.ModelCountsUptoCardSaid :=
  Claim7.holds_tied_plain_at .later [] _ _ _ _ x8 (fun _ h=>by cases h) (by kernel_rfl) (fun _ h=>by cases h) modelCountsUpto_row_tie rfl ⟨rfl,rfl⟩ (by kernel_rfl) rfl plain (by kernel_rfl)
end Go.Proofs.YtegkejcglfgpmaaGreatDoor.modelCounts
end
