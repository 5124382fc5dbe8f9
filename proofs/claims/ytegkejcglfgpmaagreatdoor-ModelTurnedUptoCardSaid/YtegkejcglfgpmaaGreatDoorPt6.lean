/- The walks and the plain laws, part 6: RL, RV, RU, ModelTurnedCard. Conditions: those that each theorem names. -/
import Derived.Test.YtegkejcglfgpmaaGreatDoorPt5
section
namespace Go.Proofs.YtegkejcglfgpmaaGreatDoor
open Go Go.ai Go.aL
noncomputable def b11:Code:=Tryz.f11.body.getD .skip
set_option maxHeartbeats 2000000 in
set_option maxRecDepth 10000 in
theorem sV(h:Heap)(L:List dJ)(la:Option Addr)(lc:Nat)(hll:Row h (.slice la L.length lc) L.length 5 (dZ L))(ho:∀o∈L,vm h o∧o.l.length ≤1048576)(hlb:L.length ≤1048576)(V:List Lk)(va:Option Addr)(vc:Nat)(hvv:Row h (.slice va V.length vc) V.length 3 (A9 V))(hv:∀x∈V,pb x)(kt:bq h):Sat Tryz.prog 11 #[.slice la L.length lc,.slice va V.length vc] h fun v h'=>∃Out ad cap,v= .slice ad L.length cap∧Out.length =L.length ∧(∀j,j<L.length →(Out.getD j eB).X =mC L V j)∧Own h' (.slice ad L.length cap) 47 L.length 75 (bI Out)∧cQ h' Out∧jZ Out∧(∀k,ad.map (·.block)=some k→h.size ≤k)∧Ext h h':=by
 have G:=Ext.refl h
 have a5:=kt.lt
 have q:Sep h.size h.size []:=Sep.nil _ _
 refine ag Tryz.func11 169 fun a hF=>qP [] hF fun a hF=>qS hF<|tG 0 (BY _ (by have:=G.size;omega)) ?_
 rintro _ h1 ⟨rb,rfl,J,r8,g⟩
 replace G:=G.ext g
 replace kt:=kt.ext g
 replace q:=q.up g.size
 clear g
 refine sT [(5,pV rb)] fun a hF=>qP [(6,.bool false)] hF fun a hF=>qP [(7,.bool false)] hF fun a hF=>qS hF<|tN 0 (.slice (some ⟨h1.size,0,none⟩) 0 0) #[] 47 fun h2 g3 m4=> ?_
 replace q:=q.nw G.size m4
 have d:Own h2 (.slice (some ⟨h1.size,0,none⟩) 0 0) 47 ([]:List dM).length 75 (bI []):=Own.empty 75 m4
 replace q:Sep h.size h2.size [(some ⟨h1.size,0,none⟩:Option Addr).map (·.block)]:=q
 replace G:=G.ext g3
 replace kt:=kt.ext g3
 replace J:=J.ext g3
 clear m4
 refine sT [(8,.slice (some ⟨h1.size,0,none⟩) 0 0)] fun a hF=>cS<|qP [(9,.int .i64 0)] hF fun a hF=>cB 0 ?_
 have u:cQ h2 []:=cQ.nil _
 refine cL (fun m a h'=>∃k:Nat,∃S:kE,∃Out:List dM,∃ad:Option Addr,∃cap:Nat,m=L.length - k∧(Ext h h')∧(bq h')∧(k≤L.length)∧(ke L V k=S)∧(Out.length =k)∧(∀j,j<k→(Out.getD j eB).X =mC L V j)∧(S.M.E.length ≤k)∧(bC (fun _=>False) h' rb S.M)∧(jZ Out)∧(cQ h' Out)∧(Own h' (.slice ad k cap) 47 k 75 (bI Out))∧(Sep h.size h'.size [ad.map (·.block)])∧(Fr a 169 [(0,.slice la L.length lc),(1,.slice va V.length vc),(5,.pointer (some ⟨rb,0,none⟩)),(6,.bool S.off),(7,.bool S.aC),(8,.slice ad k cap),(9,.int .i64 ((k:Nat):Int))])) (L.length - 0) ⟨0,⟨M0,false,false⟩,[],(some ⟨h1.size,0,none⟩),0,rfl,G,kt,(Nat.zero_le _),rfl,rfl,(fun j hj=>absurd hj (Nat.not_lt_zero j)),(Nat.le_refl _),J,(fun r hr=>by cases hr),u,d,q,hF.to⟩ ?_
 clear hF a
 clear G
 clear kt
 clear J
 clear u
 clear d
 clear q
 rintro m a h7 ⟨k,S,Out,ad,cap,rfl,G,kt,hk,hS,a4,c3,r9,J,c4,u,d,q,hF⟩
 refine cS<|qP [(21,.bool (decide (((k:Nat):Int)<((L.length :Nat):Int))))] hF fun a hF=>cJ 21 hF (fun n9=> ?_) fun n9=> ?_
 ·have l6:k<L.length :=by omega
  have f7:=hF
  obtain⟨al,rfl,l7⟩:=hll.bf (by omega)
  have hF:=f7;clear f7
  obtain⟨x,hx⟩:∃x,L.getD k dX=x:=⟨_,rfl⟩
  obtain⟨c6,s0⟩:vm h x∧x.l.length ≤1048576:=hx▸jM ho l6
  obtain⟨y,hy⟩:∃y,V.getD k eM=y:=⟨_,rfl⟩
  obtain⟨N,X,hs⟩:∃N X,step S.M x.kd x.n x.s x.l =(N,X):=⟨_,_,rfl⟩
  have s2:N.E.length ≤S.M.E.length +1:=by have:=oP S.M x.kd x.n x.s x.l;rw[hs] at this;exact this
  have j8:y5 X:=by have:=vX J (by omega) x.kd x.n x.s x.l;rw[hs] at this;exact this
  have s3:=J.kb
  refine cN<|tK<|cS<|cB 1<|qS hF<|tI 2 al L.length 5 k (k*5)<|tC 3 (.agg #[.int .i64 x.kd,.string x.s,.slice x.oa x.l.length x.oc,.int .i64 x.n,.slice x.ka x.kn x.kc]) (Calm.load (T:=35) (p:=(Addr.add al (k*5))) (by kernel_rfl) (lu hx (hll.ext G) (by kernel_rfl) l6 (by first|rfl|omega))) ?_
  refine tN 4 (pV h7.size) #[.int .i64 0,.string ByteArray.empty,.slice none 0 0,.int .i64 0,.slice none 0 0] 35 fun h9 f8 t=> ?_
  replace q:=q.nw G.size t
  refine bt 5 [.int .i64 x.kd,.string x.s,.slice x.oa x.l.length x.oc,.int .i64 x.n,.slice x.ka x.kn x.kc] t fun a8 f5 zq=> ?_
  replace J:=J.ext f8
  replace J:=J.vW f5 t ⟨by decide,by decide⟩ (by decide)
  replace u:=u.ext f8
  replace u:=u.aM f5 t (by decide)
  replace t:=zq
  refine sT [(10,pV h7.size)] fun a hF=>qS hF<|tN 1 (pV a8.size) #[.int .i64 0,.int .i64 0,.int .i64 0] 80 fun s4 f6 m18=> ?_
  replace G:=(G.ext f8).grew f5 (q.l 0)
  replace q:=(q.up f5.size).nw G.size m18
  refine bt 2 [.int .i64 3,.int .i64 1,.int .i64 0] m18 fun o0 d5 zq=> ?_
  replace J:=J.ext f6
  replace J:=J.vW d5 m18 ⟨by decide,by decide⟩ (by decide)
  replace u:=u.ext f6
  replace u:=u.aM d5 m18 (by decide)
  replace m18:=zq
  refine sT [(11,pV a8.size)] fun a hF=>cS ?_
  replace kt:=(((kt.ext f8).grew f5 (q.zero 1 rfl a5)).ext f6).grew d5 (q.zero 0 rfl a5)
  replace d:=(((d.ext f8).k f5 (q.ap 2 1)).ext f6).k d5 (q.ap 2 0)
  replace G:=(G.ext f6).grew d5 (q.l 0)
  replace t:=(t.x f6).y d5 (q.bp 1 0)
  replace q:=q.up d5.size
  refine C.mono (K:=fun e a h'=>e= .normal ∧(Ext h h')∧(bq h')∧(pb y)∧(bC (fun _=>False) h' rb S.M)∧(cQ h' Out)∧(Own h' (.slice ad k cap) 47 k 75 (bI Out))∧(Sep h.size h'.size [some (a8.size),some (h7.size),ad.map (·.block)])∧(h'[h7.size]? =some (.cells #[.int .i64 x.kd,.string x.s,.slice x.oa x.l.length x.oc,.int .i64 x.n,.slice x.ka x.kn x.kc] 35))∧(h'[a8.size]? =some (.cells #[.int .i64 y.dark,.int .i64 y.full,.int .i64 y.work] 80))∧Fr a 169 [(0,.slice (some al) L.length lc),(1,.slice va V.length vc),(5,.pointer (some ⟨rb,0,none⟩)),(6,.bool S.off),(7,.bool S.aC),(8,.slice ad k cap),(9,.int .i64 ((k:Nat):Int)),(10,.pointer (some ⟨h7.size,0,none⟩)),(11,.pointer (some ⟨a8.size,0,none⟩))]) ?_ ?_
  ·refine qP [(32,.bool (decide (((k:Nat):Int)<((V.length :Nat):Int))))] hF fun a hF=>cJ 32 hF (fun l8=> ?_) fun l8=> ?_
   ·have f7:=hF
    obtain⟨av,rfl,l9⟩:=hvv.bf (by omega)
    have hF:=f7;clear f7
    have m0:k<V.length :=by omega
    have a9:pb y:=hy▸Az hv m0
    refine rS hF<|tI 2 av V.length 3 k (k*3)<|tC 3 (.agg #[.int .i64 y.dark,.int .i64 y.full,.int .i64 y.work]) (Calm.load (T:=80) (p:=(Addr.add av (k*3))) (by kernel_rfl) (AA hy (hvv.ext G) (by kernel_rfl) m0 (by first|rfl|omega)))<|bt 4 [.int .i64 y.dark,.int .i64 y.full,.int .i64 y.work] m18 fun s5 d6 zq=> ?_
    replace J:=J.vW d6 m18 ⟨by decide,by decide⟩ (by decide)
    replace u:=u.aM d6 m18 (by decide)
    replace m18:=zq
    refine sE [] fun a hF=> ?_
    replace G:=G.grew d6 (q.l 0)
    replace kt:=kt.grew d6 (q.zero 0 rfl a5)
    replace d:=d.k d6 (q.ap 2 0)
    replace t:=t.y d6 (q.bp 1 0)
    replace q:=q.up d6.size
    exact⟨rfl,G,kt,a9,J,u,d,q,t,m18,hF.to⟩
   ·have m3:y=eM:=hy▸B4 (by omega);have a9:pb y:=m3▸Di
    replace m18:o0[a8.size]? =some (.cells #[.int .i64 y.dark,.int .i64 y.full,.int .i64 y.work] 80):=by rw[m3];exact m18
    exact cN<|⟨rfl,G,kt,a9,J,u,d,q,t,m18,hF.to⟩
  ·clear G kt J u d t m18
   rintro e a d7 ⟨rfl,G,kt,a9,J,u,d,q,t,m18,hF⟩
   refine tK<|cS<|C.mono (K:=fun e a hJ=>e= .normal ∧d7=hJ∧∃(un:Unit),True∧Fr a 169 [(0,.slice (some al) L.length lc),(1,.slice va V.length vc),(5,.pointer (some ⟨rb,0,none⟩)),(6,.bool S.off),(7,.bool S.aC),(8,.slice ad k cap),(9,.int .i64 ((k:Nat):Int)),(10,.pointer (some ⟨h7.size,0,none⟩)),(11,.pointer (some ⟨a8.size,0,none⟩)),(12,.bool ((ak x.kd).1))]) ?_ ?_
   ·rcases(by omega:1≤x.kd ∧x.kd ≤9∨x.kd =11∨x.kd =15∨x.kd =16∨x.kd <1∨10≤x.kd ∧x.kd ≠11∧x.kd ≠15∧x.kd ≠16) with Z|Z|Z|Z|Z|Z
    ·have a0:(ak x.kd).1 =true:=by exact(if hq:x.kd =1∨x.kd =4∨x.kd =5∨x.kd =6 then (by rw[bS hq]) else (by rw[bO hq (by omega)]))
     refine rS hF<|tO 1 0 t<|tT 2 ((1:Int)≤x.kd)<|tO 5 0 t<|tT 6 (x.kd ≤(9:Int))<|t1 23 (.bool ((ak x.kd).1)) (.bool true) (congrArg Value.bool a0.symm)<|sE [(12,.bool ((ak x.kd).1))] fun a hF=> ?_
     exact⟨rfl,rfl,⟨⟩,trivial,hF.to⟩
    ·have a0:(ak x.kd).1 =true:=by exact(if hq:x.kd =1∨x.kd =4∨x.kd =5∨x.kd =6 then (by rw[bS hq]) else (by rw[bO hq (by omega)]))
     refine rS hF<|tO 1 0 t<|tT 2 ((1:Int)≤x.kd)<|tO 5 0 t<|tX 6 (x.kd ≤(9:Int))<|tO 10 0 t<|eT 11 x.kd 11 ?_
     exact t1 23 (.bool ((ak x.kd).1)) (.bool true) (congrArg Value.bool a0.symm)<|sE [(12,.bool ((ak x.kd).1))] fun a hF=>⟨rfl,rfl,⟨⟩,trivial,hF.to⟩
    ·have a0:(ak x.kd).1 =true:=by exact(if hq:x.kd =1∨x.kd =4∨x.kd =5∨x.kd =6 then (by rw[bS hq]) else (by rw[bO hq (by omega)]))
     refine rS hF<|tO 1 0 t<|tT 2 ((1:Int)≤x.kd)<|tO 5 0 t<|tX 6 (x.kd ≤(9:Int))<|tO 10 0 t<|eF 11 x.kd 11 ?_
     exact tO 15 0 t<|eT 16 x.kd 15<|t1 23 (.bool ((ak x.kd).1)) (.bool true) (congrArg Value.bool a0.symm)<|sE [(12,.bool ((ak x.kd).1))] fun a hF=>⟨rfl,rfl,⟨⟩,trivial,hF.to⟩
    ·have a0:(ak x.kd).1 =true:=by exact(if hq:x.kd =1∨x.kd =4∨x.kd =5∨x.kd =6 then (by rw[bS hq]) else (by rw[bO hq (by omega)]))
     refine rS hF<|tO 1 0 t<|tT 2 ((1:Int)≤x.kd)<|tO 5 0 t<|tX 6 (x.kd ≤(9:Int))<|tO 10 0 t<|eF 11 x.kd 11 ?_
     exact tO 15 0 t<|eF 16 x.kd 15<|tO 20 0 t<|eT 21 x.kd 16<|t1 23 (.bool ((ak x.kd).1)) (.bool true) (congrArg Value.bool a0.symm)<|sE [(12,.bool ((ak x.kd).1))] fun a hF=>⟨rfl,rfl,⟨⟩,trivial,hF.to⟩
    ·have a0:(ak x.kd).1 =false:=by rw[dY (by omega) (by omega)]
     refine rS hF<|tO 1 0 t<|tX 2 ((1:Int)≤x.kd)<|tO 10 0 t<|eF 11 x.kd 11<|tO 15 0 t<|eF 16 x.kd 15 ?_
     exact tO 20 0 t<|eF 21 x.kd 16<|t1 23 (.bool ((ak x.kd).1)) (.bool false) (congrArg Value.bool a0.symm)<|sE [(12,.bool ((ak x.kd).1))] fun a hF=>⟨rfl,rfl,⟨⟩,trivial,hF.to⟩
    ·have a0:(ak x.kd).1 =false:=by rw[dY (by omega) (by omega)]
     refine rS hF<|tO 1 0 t<|tT 2 ((1:Int)≤x.kd)<|tO 5 0 t<|tX 6 (x.kd ≤(9:Int))<|tO 10 0 t<|eF 11 x.kd 11 ?_
     exact tO 15 0 t<|eF 16 x.kd 15<|tO 20 0 t<|eF 21 x.kd 16<|t1 23 (.bool ((ak x.kd).1)) (.bool false) (congrArg Value.bool a0.symm)<|sE [(12,.bool ((ak x.kd).1))] fun a hF=>⟨rfl,rfl,⟨⟩,trivial,hF.to⟩
   ·rintro e a _ ⟨rfl,rfl,⟨⟩,l1,hF⟩
    refine tK<|cS<|C.mono (K:=fun e a hJ=>e= .normal ∧d7=hJ∧∃(un:Unit),True∧Fr a 169 [(0,.slice (some al) L.length lc),(1,.slice va V.length vc),(5,.pointer (some ⟨rb,0,none⟩)),(6,.bool S.off),(7,.bool S.aC),(8,.slice ad k cap),(9,.int .i64 ((k:Nat):Int)),(10,.pointer (some ⟨h7.size,0,none⟩)),(11,.pointer (some ⟨a8.size,0,none⟩)),(12,.bool ((ak x.kd).1)),(13,.bool ((ak x.kd).2))]) ?_ ?_
    ·rcases(by omega:x.kd =1∨x.kd =4∨x.kd =5∨x.kd =6∨¬(x.kd =1∨x.kd =4∨x.kd =5∨x.kd =6)) with Z|Z|Z|Z|Z
     ·have a0:(ak x.kd).2 =true:=by rw[bS (by omega)]
      exact rS hF<|tO 1 0 t<|eT 2 x.kd 1<|t1 18 (.bool ((ak x.kd).2)) (.bool true) (congrArg Value.bool a0.symm)<|sE [(13,.bool ((ak x.kd).2))] fun a hF=>⟨rfl,rfl,⟨⟩,trivial,hF.to⟩
     ·have a0:(ak x.kd).2 =true:=by rw[bS (by omega)]
      refine rS hF<|tO 1 0 t<|eF 2 x.kd 1<|tO 5 0 t<|eT 6 x.kd 4<|t1 18 (.bool ((ak x.kd).2)) (.bool true) (congrArg Value.bool a0.symm)<|sE [(13,.bool ((ak x.kd).2))] fun a hF=> ?_
      exact⟨rfl,rfl,⟨⟩,trivial,hF.to⟩
     ·have a0:(ak x.kd).2 =true:=by rw[bS (by omega)]
      refine rS hF<|tO 1 0 t<|eF 2 x.kd 1<|tO 5 0 t<|eF 6 x.kd 4<|tO 10 0 t<|eT 11 x.kd 5 ?_
      exact t1 18 (.bool ((ak x.kd).2)) (.bool true) (congrArg Value.bool a0.symm)<|sE [(13,.bool ((ak x.kd).2))] fun a hF=>⟨rfl,rfl,⟨⟩,trivial,hF.to⟩
     ·have a0:(ak x.kd).2 =true:=by rw[bS (by omega)]
      refine rS hF<|tO 1 0 t<|eF 2 x.kd 1<|tO 5 0 t<|eF 6 x.kd 4<|tO 10 0 t<|eF 11 x.kd 5 ?_
      exact tO 15 0 t<|eT 16 x.kd 6<|t1 18 (.bool ((ak x.kd).2)) (.bool true) (congrArg Value.bool a0.symm)<|sE [(13,.bool ((ak x.kd).2))] fun a hF=>⟨rfl,rfl,⟨⟩,trivial,hF.to⟩
     ·have a0:(ak x.kd).2 =false:=by exact(if hq:x.kd =2∨x.kd =3∨x.kd =7∨x.kd =8∨x.kd =9∨x.kd =11∨x.kd =15∨x.kd =16 then (by rw[bO Z hq]) else (by rw[dY Z hq]))
      refine rS hF<|tO 1 0 t<|eF 2 x.kd 1<|tO 5 0 t<|eF 6 x.kd 4<|tO 10 0 t<|eF 11 x.kd 5 ?_
      exact tO 15 0 t<|eF 16 x.kd 6<|t1 18 (.bool ((ak x.kd).2)) (.bool false) (congrArg Value.bool a0.symm)<|sE [(13,.bool ((ak x.kd).2))] fun a hF=>⟨rfl,rfl,⟨⟩,trivial,hF.to⟩
    ·rintro e a _ ⟨rfl,rfl,⟨⟩,l1,hF⟩
     refine tK<|qS hF<|tO 1 0 m18<|tC 2 (nV (bV y.dark 4)) (Does.call (f:=12) (args:= #[.int .i64 y.dark,.int .i64 4]) (by kernel_rfl) (AJ _ y.dark a9.d1 a9.d2))<|sT [(14,nV (bV y.dark 4))] fun a hF=>cS<|C.mono (K:=fun e a hJ=>e= .normal ∧d7=hJ∧∃(un:Unit),True∧Fr a 169 [(0,.slice (some al) L.length lc),(1,.slice va V.length vc),(5,.pointer (some ⟨rb,0,none⟩)),(6,.bool ((b_ x.kd x.n S.off S.aC).1)),(7,.bool ((b_ x.kd x.n S.off S.aC).2)),(8,.slice ad k cap),(9,.int .i64 ((k:Nat):Int)),(10,.pointer (some ⟨h7.size,0,none⟩)),(11,.pointer (some ⟨a8.size,0,none⟩)),(12,.bool ((ak x.kd).1)),(13,.bool ((ak x.kd).2)),(14,.int .i64 (((bV y.dark 4):Nat):Int))]) ?_ ?_
     ·rcases yD S.off x.kd with b7|b7|b7|b7|b7|b7
      ·obtain⟨a6,Z⟩:=b7
       rw[a6] at hF
       have b8:(b_ x.kd x.n S.off S.aC)=(false,decide (0≤x.n)):=by unfold b_;rw[a6];rw[if_pos ⟨Z,rfl⟩]
       refine cB 2<|qS hF<|tO 1 0 t<|eT 2 x.kd 12<|sT [(81,.bool true)] fun a hF=>cT 81 hF<|rS hF ?_
       refine tO 1 3 t<|sE [(7,.bool (decide ((0:Int)≤x.n)))] fun a hF=>bK<|⟨rfl,rfl,⟨⟩,trivial,?_⟩;rw[b8];exact hF.to
      ·obtain⟨a6,Z⟩:=b7
       rw[a6] at hF
       have b8:(b_ x.kd x.n S.off S.aC)=(false,false):=by unfold b_;rw[a6];rw[if_neg (by rintro⟨e,_⟩;omega),if_pos Z]
       refine cB 2<|qS hF<|tO 1 0 t<|eF 2 x.kd 12<|sT [(81,.bool false)] fun a hF=>cF 81 hF<|qS hF ?_
       refine tO 1 0 t<|eT 2 x.kd 13<|sT [(92,.bool true)] fun a hF=>cT 92 hF<|qP [(6,.bool false)] hF fun a hF=>rP [(7,.bool false)] hF fun a hF=>bK ?_
       refine⟨rfl,rfl,⟨⟩,trivial,?_⟩;rw[b8];exact hF.to
      ·obtain⟨a6,Z⟩:=b7
       rw[a6] at hF
       have b8:(b_ x.kd x.n S.off S.aC)=(false,S.aC):=by unfold b_;rw[a6];rw[if_neg (by rintro⟨e,e2⟩;first|omega|cases e2),if_neg (by omega)]
       refine cB 2<|qS hF<|tO 1 0 t<|eF 2 x.kd 12<|sT [(81,.bool false)] fun a hF=>cF 81 hF<|qS hF ?_
       refine tO 1 0 t<|eF 2 x.kd 13<|sT [(92,.bool false)] fun a hF=>cF 92 hF<|cN<|bK<|⟨rfl,rfl,⟨⟩,trivial,?_⟩;rw[b8];exact hF.to
      ·obtain⟨a6,Z⟩:=b7
       rw[a6] at hF
       have b8:(b_ x.kd x.n S.off S.aC)=(true,S.aC):=by unfold b_;rw[a6];rw[if_neg (by rintro⟨e,e2⟩;first|omega|cases e2),if_neg (by omega)]
       refine cB 2<|qS hF<|tO 1 0 t<|eT 2 x.kd 12<|sT [(81,.bool false)] fun a hF=>cF 81 hF<|qS hF ?_
       refine tO 1 0 t<|eF 2 x.kd 13<|sT [(92,.bool false)] fun a hF=>cF 92 hF<|cN<|bK<|⟨rfl,rfl,⟨⟩,trivial,?_⟩;rw[b8];exact hF.to
      ·obtain⟨a6,Z⟩:=b7
       rw[a6] at hF
       have b8:(b_ x.kd x.n S.off S.aC)=(false,false):=by unfold b_;rw[a6];rw[if_neg (by rintro⟨e,_⟩;omega),if_pos Z]
       refine cB 2<|qS hF<|tO 1 0 t<|eF 2 x.kd 12<|sT [(81,.bool false)] fun a hF=>cF 81 hF<|qS hF ?_
       refine tO 1 0 t<|eT 2 x.kd 13<|sT [(92,.bool true)] fun a hF=>cT 92 hF<|qP [(6,.bool false)] hF fun a hF=>rP [(7,.bool false)] hF fun a hF=>bK ?_
       refine⟨rfl,rfl,⟨⟩,trivial,?_⟩;rw[b8];exact hF.to
      ·obtain⟨a6,Z⟩:=b7
       rw[a6] at hF
       have b8:(b_ x.kd x.n S.off S.aC)=(true,S.aC):=by unfold b_;rw[a6];rw[if_neg (by rintro⟨e,e2⟩;first|omega|cases e2),if_neg (by omega)]
       refine cB 2<|qS hF<|tO 1 0 t<|eF 2 x.kd 12<|sT [(81,.bool false)] fun a hF=>cF 81 hF<|qS hF ?_
       refine tO 1 0 t<|eF 2 x.kd 13<|sT [(92,.bool false)] fun a hF=>cF 92 hF<|cN<|bK<|⟨rfl,rfl,⟨⟩,trivial,?_⟩;rw[b8];exact hF.to
     ·rintro e a _ ⟨rfl,rfl,⟨⟩,l1,hF⟩
      refine tK<|cS<|cS<|C.mono (K:=fun e a hJ=>e= .normal ∧d7=hJ∧∃(un:Unit),True∧Fr a 169 [(0,.slice (some al) L.length lc),(1,.slice va V.length vc),(5,.pointer (some ⟨rb,0,none⟩)),(6,.bool ((b_ x.kd x.n S.off S.aC).1)),(7,.bool ((b_ x.kd x.n S.off S.aC).2)),(8,.slice ad k cap),(9,.int .i64 ((k:Nat):Int)),(10,.pointer (some ⟨h7.size,0,none⟩)),(11,.pointer (some ⟨a8.size,0,none⟩)),(13,.bool ((ak x.kd).2)),(14,.int .i64 (((bV y.dark 4):Nat):Int)),(106,.bool (decide (j_ x S y)))]) ?_ ?_
      ·rcases AB (ak x.kd).1 (b_ x.kd x.n S.off S.aC).1 (b_ x.kd x.n S.off S.aC).2 (bV y.dark 4) with h1|⟨h1,h2⟩|⟨h1,h2,h3⟩|⟨h1,h2,h3,h4⟩|⟨h1,h2,h3,h4⟩
       ·have c5:¬j_ x S y:=fun e=>by have e1:=h1.symm.trans e.1;cases e1
        exact rS hF<|t1 1 (.bool false) (.bool ((ak x.kd).1)) (congrArg Value.bool h1)<|t1 10 (.bool (decide (j_ x S y))) (.bool false) (congrArg Value.bool (decide_eq_false c5).symm)<|sE [(106,.bool (decide (j_ x S y)))] fun a hF=>⟨rfl,rfl,⟨⟩,trivial,hF.to⟩
       ·have c5:j_ x S y:=⟨h1,.inl h2⟩
        exact rS hF<|t1 1 (.bool true) (.bool ((ak x.kd).1)) (congrArg Value.bool h1)<|t1 3 (.bool true) (.bool ((b_ x.kd x.n S.off S.aC).1)) (congrArg Value.bool h2)<|t1 10 (.bool (decide (j_ x S y))) (.bool true) (congrArg Value.bool (decide_eq_true c5).symm)<|sE [(106,.bool (decide (j_ x S y)))] fun a hF=>⟨rfl,rfl,⟨⟩,trivial,hF.to⟩
       ·have c5:¬j_ x S y:=fun e=>e.2.elim (fun e=>by have e1:=h2.symm.trans e;cases e1) fun e=>by have e1:=h3.symm.trans e.1;cases e1
        exact rS hF<|t1 1 (.bool true) (.bool ((ak x.kd).1)) (congrArg Value.bool h1)<|t1 3 (.bool false) (.bool ((b_ x.kd x.n S.off S.aC).1)) (congrArg Value.bool h2)<|t1 5 (.bool false) (.bool ((b_ x.kd x.n S.off S.aC).2)) (congrArg Value.bool h3)<|t1 10 (.bool (decide (j_ x S y))) (.bool false) (congrArg Value.bool (decide_eq_false c5).symm)<|sE [(106,.bool (decide (j_ x S y)))] fun a hF=>⟨rfl,rfl,⟨⟩,trivial,hF.to⟩
       ·have c5:j_ x S y:=⟨h1,.inr ⟨h3,h4⟩⟩
        refine rS hF<|t1 1 (.bool true) (.bool ((ak x.kd).1)) (congrArg Value.bool h1)<|t1 3 (.bool false) (.bool ((b_ x.kd x.n S.off S.aC).1)) (congrArg Value.bool h2)<|t1 5 (.bool true) (.bool ((b_ x.kd x.n S.off S.aC).2)) (congrArg Value.bool h3)<|tT 7 ((((bV y.dark 4):Nat):Int)<(2:Int))<|t1 10 (.bool (decide (j_ x S y))) (.bool true) (congrArg Value.bool (decide_eq_true c5).symm)<|sE [(106,.bool (decide (j_ x S y)))] fun a hF=> ?_
        exact⟨rfl,rfl,⟨⟩,trivial,hF.to⟩
       ·have c5:¬j_ x S y:=fun e=>e.2.elim (fun e=>by have e1:=h2.symm.trans e;cases e1) fun e=>h4 e.2
        refine rS hF<|t1 1 (.bool true) (.bool ((ak x.kd).1)) (congrArg Value.bool h1)<|t1 3 (.bool false) (.bool ((b_ x.kd x.n S.off S.aC).1)) (congrArg Value.bool h2)<|t1 5 (.bool true) (.bool ((b_ x.kd x.n S.off S.aC).2)) (congrArg Value.bool h3)<|tX 7 ((((bV y.dark 4):Nat):Int)<(2:Int))<|t1 10 (.bool (decide (j_ x S y))) (.bool false) (congrArg Value.bool (decide_eq_false c5).symm)<|sE [(106,.bool (decide (j_ x S y)))] fun a hF=> ?_
        exact⟨rfl,rfl,⟨⟩,trivial,hF.to⟩
      ·rintro e a _ ⟨rfl,rfl,⟨⟩,l1,hF⟩
       refine tK<|cJ 106 hF (fun c0=> ?_) fun c0=> ?_
       ·refine cS<|cS ?_
        rcases yE (b_ x.kd x.n S.off S.aC).1 (ak x.kd).2 (bV y.dark 4) with h1|⟨h1,h2⟩|⟨h1,h2,h3⟩|⟨h1,h2,h3⟩
        ·have R:fD S x y=(⟨S.M,true,(b_ x.kd x.n S.off S.aC).2⟩,cm 2):=B7 c0 h1 rfl
         refine rS hF<|t1 0 (.bool true) (.bool ((b_ x.kd x.n S.off S.aC).1)) (congrArg Value.bool h1)<|sE [(115,.bool false)] fun a hF=>tK<|cF 115 hF<|cN<|tK ?_
         refine qP [(6,.bool true)] hF fun a hF=>qS hF<|tN 2 (.slice (some ⟨d7.size,0,none⟩) 1 1) ((bI [aW 2]).toArray) 47 fun o1 f9 l2=> ?_
         replace q:=q.nw G.size l2
         replace G:=G.ext f9
         replace kt:=kt.ext f9
         replace d:=d.ext f9
         replace J:=J.ext f9
         replace u:=u.ext f9
         have H:cQ o1 (Out++[aW 2]):=u.snoc (gu _ 2)
         refine tP 3 (k+1) 192 (bI (Out++[aW 2])) d (Row.blk (n:=1) (sz:=75) (l:=bI [aW 2]) l2 rfl) (ed _) (fun g0 g1 s6 I g2 k1=> ?_) (ys:=(bI ([aW 2]))) (hZ:=by first|rfl|exact List.flatMap_append.symm |simp[bI])
         replace J:=J.eJ g2 d (ae ..) (by decide) (by decide) (by decide)
         replace H:=H.eJ g2 d (ae ..) (by decide)
         have m5:=q
         replace q:=q.sa g2 3 k1 I G.size;clear k1
         replace d:=I;clear I
         have a7:ke L V (k+1)=(⟨S.M,true,(b_ x.kd x.n S.off S.aC).2⟩:kE):=by show(fD (ke L V k) (L.getD k dX) (V.getD k eM)).1 =_;rw[hS,hx,hy,R]
         have U:jZ (Out++[aW 2]):=c4.snoc (B6 _)
         have W:S.M.E.length ≤k+1:=by omega
         have Y:=ee (r:=aW 2) a4 c3 (by unfold mC;rw[hS,hx,hy,R])
         refine sT [(8,.slice g0 (k+1) g1)] fun a hF=>cX 1 (xT (xB ?_))
         refine tK<|rS hF<|tA 1 k 1<|sE [(9,nV (k+1))] fun a hF=> ?_
         clear t
         clear m18
         clear l2
         replace G:=G.grew g2 (m5.l 3)
         replace kt:=kt.grew g2 (m5.zero 3 rfl a5)
         replace q:=q.sub (l':=[g0.map (·.block)]) (.cons _ (.cons _ (.cons _ (.cons_cons _ (.slnil)))))
         show ∃m',m'<_∧_
         refine⟨_,?_,(k+1),(⟨S.M,true,(b_ x.kd x.n S.off S.aC).2⟩:kE),(Out++[aW 2]),g0,g1,rfl,G,kt,(by omega),a7,(by rw[List.length_append,a4];rfl),Y,W,J,U,H,d,q,hF.to⟩
         omega
        ·have R:fD S x y=(⟨S.M,true,(b_ x.kd x.n S.off S.aC).2⟩,cm 2):=yG c0 (fun e=>by have e1:=h2.symm.trans e.1;cases e1) rfl
         refine rS hF<|t1 0 (.bool false) (.bool ((b_ x.kd x.n S.off S.aC).1)) (congrArg Value.bool h1)<|t1 3 (.bool false) (.bool ((ak x.kd).2)) (congrArg Value.bool h2)<|sE [(115,.bool false)] fun a hF=>tK<|cF 115 hF<|cN ?_
         refine tK<|qP [(6,.bool true)] hF fun a hF=>qS hF<|tN 2 (.slice (some ⟨d7.size,0,none⟩) 1 1) ((bI [aW 2]).toArray) 47 fun o2 g4 l3=> ?_
         replace q:=q.nw G.size l3
         replace G:=G.ext g4
         replace kt:=kt.ext g4
         replace d:=d.ext g4
         replace J:=J.ext g4
         replace u:=u.ext g4
         have H:cQ o2 (Out++[aW 2]):=u.snoc (gu _ 2)
         refine tP 3 (k+1) 192 (bI (Out++[aW 2])) d (Row.blk (n:=1) (sz:=75) (l:=bI [aW 2]) l3 rfl) (ed _) (fun g5 g6 s7 I g7 k2=> ?_) (ys:=(bI ([aW 2]))) (hZ:=by first|rfl|exact List.flatMap_append.symm |simp[bI])
         replace J:=J.eJ g7 d (ae ..) (by decide) (by decide) (by decide)
         replace H:=H.eJ g7 d (ae ..) (by decide)
         have m6:=q
         replace q:=q.sa g7 3 k2 I G.size;clear k2
         replace d:=I;clear I
         have a7:ke L V (k+1)=(⟨S.M,true,(b_ x.kd x.n S.off S.aC).2⟩:kE):=by show(fD (ke L V k) (L.getD k dX) (V.getD k eM)).1 =_;rw[hS,hx,hy,R]
         have U:jZ (Out++[aW 2]):=c4.snoc (B6 _)
         have W:S.M.E.length ≤k+1:=by omega
         have Y:=ee (r:=aW 2) a4 c3 (by unfold mC;rw[hS,hx,hy,R])
         refine sT [(8,.slice g5 (k+1) g6)] fun a hF=>cX 1 (xT (xB ?_))
         refine tK<|rS hF<|tA 1 k 1<|sE [(9,nV (k+1))] fun a hF=> ?_
         clear t
         clear m18
         clear l3
         replace G:=G.grew g7 (m6.l 3)
         replace kt:=kt.grew g7 (m6.zero 3 rfl a5)
         replace q:=q.sub (l':=[g5.map (·.block)]) (.cons _ (.cons _ (.cons _ (.cons_cons _ (.slnil)))))
         show ∃m',m'<_∧_
         refine⟨_,?_,(k+1),(⟨S.M,true,(b_ x.kd x.n S.off S.aC).2⟩:kE),(Out++[aW 2]),g5,g6,rfl,G,kt,(by omega),a7,(by rw[List.length_append,a4];rfl),Y,W,J,U,H,d,q,hF.to⟩
         omega
        ·have R:fD S x y=(⟨N,true,(b_ x.kd x.n S.off S.aC).2⟩,cm 2):=Dj c0 h1 h2 h3 hs rfl
         refine rS hF<|t1 0 (.bool false) (.bool ((b_ x.kd x.n S.off S.aC).1)) (congrArg Value.bool h1)<|t1 3 (.bool true) (.bool ((ak x.kd).2)) (congrArg Value.bool h2)<|eT 7 (((bV y.dark 4):Nat):Int) 0<|sE [(115,.bool true)] fun a hF=>tK<|cT 115 hF ?_
         refine rS hF<|tR 1 t ?_
         have p0:=J.kb
         refine tG 2 (oY _ rb S.M J x.kd x.n x.s x.l _ _ x.ka x.kn x.kc (c6.ext G).1 c6.2 (by omega) N X hs) ?_
         rintro _ m7 ⟨p1,p2,p3,p4,p5,p6,rfl,_,_,_,_,m2,gm⟩
         replace u:=u.rg gm J;replace d:=d.rg gm J (by decide)
         replace G:=Gr.dD G gm (by rintro i rfl;omega);replace kt:=kt.gr gm (by intro e;omega)
         replace q:=q.up gm.1;clear J;have J:bC (fun _=>False) m7 rb N:=m2;clear m2;clear gm
         refine sE [] fun a hF=>tK<|qP [(6,.bool true)] hF fun a hF=>qS hF<|tN 2 (.slice (some ⟨m7.size,0,none⟩) 1 1) ((bI [aW 2]).toArray) 47 fun o3 g8 l4=> ?_
         replace q:=q.nw G.size l4
         replace G:=G.ext g8
         replace kt:=kt.ext g8
         replace d:=d.ext g8
         replace J:=J.ext g8
         replace u:=u.ext g8
         have H:cQ o3 (Out++[aW 2]):=u.snoc (gu _ 2)
         refine tP 3 (k+1) 192 (bI (Out++[aW 2])) d (Row.blk (n:=1) (sz:=75) (l:=bI [aW 2]) l4 rfl) (ed _) (fun g9 i0 s8 I i1 k3=> ?_) (ys:=(bI ([aW 2]))) (hZ:=by first|rfl|exact List.flatMap_append.symm |simp[bI])
         replace J:=J.eJ i1 d (ae ..) (by decide) (by decide) (by decide)
         replace H:=H.eJ i1 d (ae ..) (by decide)
         have m8:=q
         replace q:=q.sa i1 3 k3 I G.size;clear k3
         replace d:=I;clear I
         have a7:ke L V (k+1)=(⟨N,true,(b_ x.kd x.n S.off S.aC).2⟩:kE):=by show(fD (ke L V k) (L.getD k dX) (V.getD k eM)).1 =_;rw[hS,hx,hy,R]
         have U:jZ (Out++[aW 2]):=c4.snoc (B6 _)
         have W:N.E.length ≤k+1:=by omega
         have Y:=ee (r:=aW 2) a4 c3 (by unfold mC;rw[hS,hx,hy,R])
         refine sT [(8,.slice g9 (k+1) i0)] fun a hF=>cX 1 (xT (xB ?_))
         refine tK<|rS hF<|tA 1 k 1<|sE [(9,nV (k+1))] fun a hF=> ?_
         clear t
         clear m18
         clear l4
         replace G:=G.grew i1 (m8.l 3)
         replace kt:=kt.grew i1 (m8.zero 3 rfl a5)
         replace q:=q.sub (l':=[g9.map (·.block)]) (.cons _ (.cons _ (.cons _ (.cons_cons _ (.slnil)))))
         show ∃m',m'<_∧_
         refine⟨_,?_,(k+1),(⟨N,true,(b_ x.kd x.n S.off S.aC).2⟩:kE),(Out++[aW 2]),g9,i0,rfl,G,kt,(by omega),a7,(by rw[List.length_append,a4];rfl),Y,W,J,U,H,d,q,hF.to⟩
         omega
        ·have R:fD S x y=(⟨S.M,true,(b_ x.kd x.n S.off S.aC).2⟩,cm 2):=yG c0 (fun e=>h3 e.2) rfl
         refine rS hF<|t1 0 (.bool false) (.bool ((b_ x.kd x.n S.off S.aC).1)) (congrArg Value.bool h1)<|t1 3 (.bool true) (.bool ((ak x.kd).2)) (congrArg Value.bool h2)<|eF 7 (((bV y.dark 4):Nat):Int) 0<|sE [(115,.bool false)] fun a hF=>tK<|cF 115 hF ?_
         refine cN<|tK<|qP [(6,.bool true)] hF fun a hF=>qS hF<|tN 2 (.slice (some ⟨d7.size,0,none⟩) 1 1) ((bI [aW 2]).toArray) 47 fun o4 i2 l5=> ?_
         replace q:=q.nw G.size l5
         replace G:=G.ext i2
         replace kt:=kt.ext i2
         replace d:=d.ext i2
         replace J:=J.ext i2
         replace u:=u.ext i2
         have H:cQ o4 (Out++[aW 2]):=u.snoc (gu _ 2)
         refine tP 3 (k+1) 192 (bI (Out++[aW 2])) d (Row.blk (n:=1) (sz:=75) (l:=bI [aW 2]) l5 rfl) (ed _) (fun i3 i4 s9 I i5 k4=> ?_) (ys:=(bI ([aW 2]))) (hZ:=by first|rfl|exact List.flatMap_append.symm |simp[bI])
         replace J:=J.eJ i5 d (ae ..) (by decide) (by decide) (by decide)
         replace H:=H.eJ i5 d (ae ..) (by decide)
         have m9:=q
         replace q:=q.sa i5 3 k4 I G.size;clear k4
         replace d:=I;clear I
         have a7:ke L V (k+1)=(⟨S.M,true,(b_ x.kd x.n S.off S.aC).2⟩:kE):=by show(fD (ke L V k) (L.getD k dX) (V.getD k eM)).1 =_;rw[hS,hx,hy,R]
         have U:jZ (Out++[aW 2]):=c4.snoc (B6 _)
         have W:S.M.E.length ≤k+1:=by omega
         have Y:=ee (r:=aW 2) a4 c3 (by unfold mC;rw[hS,hx,hy,R])
         refine sT [(8,.slice i3 (k+1) i4)] fun a hF=>cX 1 (xT (xB ?_))
         refine tK<|rS hF<|tA 1 k 1<|sE [(9,nV (k+1))] fun a hF=> ?_
         clear t
         clear m18
         clear l5
         replace G:=G.grew i5 (m9.l 3)
         replace kt:=kt.grew i5 (m9.zero 3 rfl a5)
         replace q:=q.sub (l':=[i3.map (·.block)]) (.cons _ (.cons _ (.cons _ (.cons_cons _ (.slnil)))))
         show ∃m',m'<_∧_
         refine⟨_,?_,(k+1),(⟨S.M,true,(b_ x.kd x.n S.off S.aC).2⟩:kE),(Out++[aW 2]),i3,i4,rfl,G,kt,(by omega),a7,(by rw[List.length_append,a4];rfl),Y,W,J,U,H,d,q,hF.to⟩
         omega
       ·refine cN<|tK<|cS<|cS<|C.mono (K:=fun e a h'=>e= .normal ∧(Ext h h')∧(bq h')∧(bC (fun _=>False) h' rb S.M)∧(cQ h' Out)∧(Own h' (.slice ad k cap) 47 k 75 (bI Out))∧(Sep h.size h'.size [some (a8.size),some (h7.size),ad.map (·.block)])∧(h'[h7.size]? =some (.cells #[.int .i64 x.kd,.string x.s,.slice x.oa x.l.length x.oc,.int .i64 x.n,.slice x.ka x.kn x.kc] 35))∧(h'[a8.size]? =some (.cells #[.int .i64 y.dark,.int .i64 y.full,.int .i64 y.work] 80))∧Fr a 169 [(0,.slice (some al) L.length lc),(1,.slice va V.length vc),(5,.pointer (some ⟨rb,0,none⟩)),(6,.bool ((b_ x.kd x.n S.off S.aC).1)),(7,.bool ((b_ x.kd x.n S.off S.aC).2)),(8,.slice ad k cap),(9,.int .i64 ((k:Nat):Int)),(10,.pointer (some ⟨h7.size,0,none⟩)),(11,.pointer (some ⟨a8.size,0,none⟩)),(137,.bool (decide (sO x y X)))]) ?_ ?_
        ·rcases yF (ak x.kd).2 (bV y.full 5) X.c with h2|⟨h2,h3⟩|⟨h2,h3,h4⟩|⟨h2,h3,h4⟩
         ·have d8:¬sO x y X:=fun e=>by have e1:=h2.symm.trans e.1;cases e1
          exact cD [0,1,3,7,15,31,63,127,255,511,255,2047,4095,8191,16383] 25 mixed hF<|mP 1 [0] [.bool ((ak x.kd).2)]<|m1 3 1 (.bool false) (.bool ((ak x.kd).2)) (congrArg Value.bool h2)<|mP 16383 [2,3,4,5,6,7,8,9,10,11,12,13] [undef,undef,undef,undef,.bool false,.bool false,undef,undef,undef,undef,undef,undef]<|m1 32767 14 (.bool (decide (sO x y X))) (.bool false) (congrArg Value.bool (decide_eq_false d8).symm)<|mE [(137,.bool (decide (sO x y X)))] fun a hF=>⟨rfl,G,kt,J,u,d,q,t,m18,hF.to⟩
         ·have d8:¬sO x y X:=fun e=>h3 e.2.1
          refine cD [0,1,3,7,15,31,63,127,255,511,255,2047,4095,8191,16383] 25 mixed hF<|mP 1 [0] [.bool ((ak x.kd).2)]<|m1 3 1 (.bool true) (.bool ((ak x.kd).2)) (congrArg Value.bool h2)<|mP 7 [2] [.pointer (some ⟨a8.size,1,none⟩)]<|mO 15 8 3 1 (.int .i64 y.full) m18<|mL 31 24 4 (.int .i64 (((bV y.full 5):Nat):Int)) (Does.call (f:=12) (args:= #[.int .i64 y.full,.int .i64 5]) (by kernel_rfl) (lA _ y.full a9.f1 a9.f2))<|Ey 63 5 (((bV y.full 5):Nat):Int) 0 ?_
          exact mP 16383 [6,7,8,9,10,11,12,13] [.bool false,.bool false,undef,undef,undef,undef,undef,undef]<|m1 32767 14 (.bool (decide (sO x y X))) (.bool false) (congrArg Value.bool (decide_eq_false d8).symm)<|mE [(137,.bool (decide (sO x y X)))] fun a hF=>⟨rfl,G,kt,J,u,d,q,t,m18,hF.to⟩
         ·have d8:sO x y X:=⟨h2,h3,h4⟩
          refine cD [0,1,3,7,15,31,63,127,255,511,255,2047,4095,8191,16383] 25 mixed hF<|mP 1 [0] [.bool ((ak x.kd).2)]<|m1 3 1 (.bool true) (.bool ((ak x.kd).2)) (congrArg Value.bool h2)<|mP 7 [2] [.pointer (some ⟨a8.size,1,none⟩)]<|mO 15 8 3 1 (.int .i64 y.full) m18<|mL 31 24 4 (.int .i64 (((bV y.full 5):Nat):Int)) (Does.call (f:=12) (args:= #[.int .i64 y.full,.int .i64 5]) (by kernel_rfl) (lA _ y.full a9.f1 a9.f2))<|DI 63 5 (((bV y.full 5):Nat):Int) 0 ?_
          refine mP 511 [6,7,8] [.bool true,.bool true,pV rb]<|mR 1535 1048 10 t ?_
          have o5:=J.kb
          refine gD 2047 1023 9 [10] (Does.call (f:=24) (args:= #[.pointer (some ⟨rb,0,none⟩)]) (by kernel_rfl) (qB _ rb S.M J (by omega))) ?_
          rintro _ u0 ⟨cb,rfl,hY,o6,g⟩
          replace G:=G.ext g
          replace kt:=kt.ext g
          replace d:=d.ext g
          replace J:=J.ext g
          replace u:=u.ext g
          replace t:=t.x g
          replace m18:=m18.x g
          replace q:=q.up g.size
          clear g
          refine⟨?_,?_⟩
          ·intro j hj
           simp only[List.mem_cons,List.not_mem_nil,or_false] at hj
           subst hj
           exact aE (Calm.load (T:=35) (p:=⟨h7.size,0,none⟩) (by kernel_rfl) (Loads.blk (vs:=[.int .i64 x.kd,.string x.s,.slice x.oa x.l.length x.oc,.int .i64 x.n,.slice x.ka x.kn x.kc]) (by kernel_rfl) t rfl))
          have p7:=hY.kb
          refine gC 4095 4095 11 (oY _ cb S.M hY x.kd x.n x.s x.l _ _ x.ka x.kn x.kc (c6.ext G).1 c6.2 (by omega) N X hs) ?_
          rintro _ u1 ⟨p8,p9,q0,q1,q2,q3,rfl,_,_,_,_,m2,gm⟩
          replace u:=u.rg gm hY;replace d:=d.rg gm hY (by decide)
          replace t:=gm.blk t (fun e=>hY.B5 t (by decide) e.symm)
          replace m18:=gm.blk m18 (fun e=>hY.B5 m18 (by decide) e.symm)
          replace J:=J.other gm hY (by omega);clear hY m2
          replace G:=Gr.dD G gm (by rintro i rfl;omega);replace kt:=kt.gr gm (by intro e;omega)
          replace q:=q.up gm.1;clear gm
          exact mP 8191 [12] [.int .i64 X.c]<|DI 16383 13 X.c 0<|m1 32767 14 (.bool (decide (sO x y X))) (.bool true) (congrArg Value.bool (decide_eq_true d8).symm)<|mE [(137,.bool (decide (sO x y X)))] fun a hF=>⟨rfl,G,kt,J,u,d,q,t,m18,hF.to⟩
         ·have d8:¬sO x y X:=fun e=>h4 e.2.2
          refine cD [0,1,3,7,15,31,63,127,255,511,255,2047,4095,8191,16383] 25 mixed hF<|mP 1 [0] [.bool ((ak x.kd).2)]<|m1 3 1 (.bool true) (.bool ((ak x.kd).2)) (congrArg Value.bool h2)<|mP 7 [2] [.pointer (some ⟨a8.size,1,none⟩)]<|mO 15 8 3 1 (.int .i64 y.full) m18<|mL 31 24 4 (.int .i64 (((bV y.full 5):Nat):Int)) (Does.call (f:=12) (args:= #[.int .i64 y.full,.int .i64 5]) (by kernel_rfl) (lA _ y.full a9.f1 a9.f2))<|DI 63 5 (((bV y.full 5):Nat):Int) 0 ?_
          refine mP 511 [6,7,8] [.bool true,.bool true,pV rb]<|mR 1535 1048 10 t ?_
          have o5:=J.kb
          refine gD 2047 1023 9 [10] (Does.call (f:=24) (args:= #[.pointer (some ⟨rb,0,none⟩)]) (by kernel_rfl) (qB _ rb S.M J (by omega))) ?_
          rintro _ u2 ⟨cb,rfl,hY,o6,g⟩
          replace G:=G.ext g
          replace kt:=kt.ext g
          replace d:=d.ext g
          replace J:=J.ext g
          replace u:=u.ext g
          replace t:=t.x g
          replace m18:=m18.x g
          replace q:=q.up g.size
          clear g
          refine⟨?_,?_⟩
          ·intro j hj
           simp only[List.mem_cons,List.not_mem_nil,or_false] at hj
           subst hj
           exact aE (Calm.load (T:=35) (p:=⟨h7.size,0,none⟩) (by kernel_rfl) (Loads.blk (vs:=[.int .i64 x.kd,.string x.s,.slice x.oa x.l.length x.oc,.int .i64 x.n,.slice x.ka x.kn x.kc]) (by kernel_rfl) t rfl))
          have o7:=hY.kb
          refine gC 4095 4095 11 (oY _ cb S.M hY x.kd x.n x.s x.l _ _ x.ka x.kn x.kc (c6.ext G).1 c6.2 (by omega) N X hs) ?_
          rintro _ q4 ⟨q5,q6,q7,q8,q9,r1,rfl,_,_,_,_,m2,gm⟩
          replace u:=u.rg gm hY;replace d:=d.rg gm hY (by decide)
          replace t:=gm.blk t (fun e=>hY.B5 t (by decide) e.symm)
          replace m18:=gm.blk m18 (fun e=>hY.B5 m18 (by decide) e.symm)
          replace J:=J.other gm hY (by omega);clear hY m2
          replace G:=Gr.dD G gm (by rintro i rfl;omega);replace kt:=kt.gr gm (by intro e;omega)
          replace q:=q.up gm.1;clear gm
          exact mP 8191 [12] [.int .i64 X.c]<|Ey 16383 13 X.c 0<|m1 32767 14 (.bool (decide (sO x y X))) (.bool false) (congrArg Value.bool (decide_eq_false d8).symm)<|mE [(137,.bool (decide (sO x y X)))] fun a hF=>⟨rfl,G,kt,J,u,d,q,t,m18,hF.to⟩
        ·clear G kt J u d t m18
         rintro e a n1 ⟨rfl,G,kt,J,u,d,q,t,m18,hF⟩
         refine tK<|cJ 137 hF (fun c1=> ?_) fun c1=> ?_
         ·have R:fD S x y=(⟨S.M,(b_ x.kd x.n S.off S.aC).1,(b_ x.kd x.n S.off S.aC).2⟩,cm 3):=AD c0 c1.1 c1.2.1 hs c1.2.2
          refine qS hF<|tN 2 (.slice (some ⟨n1.size,0,none⟩) 1 1) ((bI [aW 3]).toArray) 47 fun n2 c7 i6=> ?_
          replace q:=q.nw G.size i6
          replace G:=G.ext c7
          replace kt:=kt.ext c7
          replace d:=d.ext c7
          replace J:=J.ext c7
          replace u:=u.ext c7
          have H:cQ n2 (Out++[aW 3]):=u.snoc (gu _ 3)
          refine tP 3 (k+1) 192 (bI (Out++[aW 3])) d (Row.blk (n:=1) (sz:=75) (l:=bI [aW 3]) i6 rfl) (ed _) (fun d9 e8 r2 I c8 i7=> ?_) (ys:=(bI ([aW 3]))) (hZ:=by first|rfl|exact List.flatMap_append.symm |simp[bI])
          replace J:=J.eJ c8 d (ae ..) (by decide) (by decide) (by decide)
          replace H:=H.eJ c8 d (ae ..) (by decide)
          have k5:=q
          replace q:=q.sa c8 3 i7 I G.size;clear i7
          replace d:=I;clear I
          have a7:ke L V (k+1)=(⟨S.M,(b_ x.kd x.n S.off S.aC).1,(b_ x.kd x.n S.off S.aC).2⟩:kE):=by show(fD (ke L V k) (L.getD k dX) (V.getD k eM)).1 =_;rw[hS,hx,hy,R]
          have U:jZ (Out++[aW 3]):=c4.snoc (B6 _)
          have W:S.M.E.length ≤k+1:=by omega
          have Y:=ee (r:=aW 3) a4 c3 (by unfold mC;rw[hS,hx,hy,R])
          refine sT [(8,.slice d9 (k+1) e8)] fun a hF=>cX 1 (xT (xB ?_))
          refine tK<|rS hF<|tA 1 k 1<|sE [(9,nV (k+1))] fun a hF=> ?_
          clear t
          clear m18
          clear i6
          replace G:=G.grew c8 (k5.l 3)
          replace kt:=kt.grew c8 (k5.zero 3 rfl a5)
          replace q:=q.sub (l':=[d9.map (·.block)]) (.cons _ (.cons _ (.cons _ (.cons_cons _ (.slnil)))))
          show ∃m',m'<_∧_
          refine⟨_,?_,(k+1),(⟨S.M,(b_ x.kd x.n S.off S.aC).1,(b_ x.kd x.n S.off S.aC).2⟩:kE),(Out++[aW 3]),d9,e8,rfl,G,kt,(by omega),a7,(by rw[List.length_append,a4];rfl),Y,W,J,U,H,d,q,hF.to⟩
          omega
         ·have j9:fD S x y=(⟨N,(b_ x.kd x.n S.off S.aC).1,(b_ x.kd x.n S.off S.aC).2⟩,eb x.kd X y):=pd c0 c1 hs
          refine cN<|tK<|qS hF<|tR 1 t ?_
          have o8:=J.kb
          refine tG 2 (oY _ rb S.M J x.kd x.n x.s x.l _ _ x.ka x.kn x.kc (c6.ext G).1 c6.2 (by omega) N X hs) ?_
          rintro _ i8 ⟨w,z,A,B,D,F,rfl,a1,a2,a3,k0,m2,gm⟩
          replace u:=u.rg gm J;replace d:=d.rg gm J (by decide)
          replace t:=gm.blk t (fun e=>J.B5 t (by decide) e.symm)
          replace m18:=gm.blk m18 (fun e=>J.B5 m18 (by decide) e.symm)
          replace G:=Gr.dD G gm (by rintro i rfl;omega);replace kt:=kt.gr gm (by intro e;omega)
          replace q:=q.up gm.1;clear J;have J:bC (fun _=>False) i8 rb N:=m2;clear m2;clear gm
          refine tN 3 (pV i8.size) ((bY 0).toArray) 47 fun r3 Q O=> ?_
          replace q:=q.nw G.size O
          refine bt 4 (bb X.c (.slice w X.b.length z) X.sx X.se X.sh X.sg (.slice A X.i.length B) X.n X.y X.k (.slice D X.p.length F)) O fun k6 P zq=> ?_
          replace J:=J.ext Q
          replace J:=J.vW P O ⟨by decide,by decide⟩ (by decide)
          replace u:=u.ext Q
          replace u:=u.aM P O (by decide)
          replace a1:=a1.ext Q
          replace a1:=a1.aM P O (by decide)
          replace a2:=a2.ext Q
          replace a2:=a2.aM P O (by decide)
          replace a3:=a3.ext Q
          replace a3:=a3.aM P O (by decide)
          replace O:=zq
          refine sT [(15,pV i8.size)] fun a hF=>cS<|qS hF ?_
          replace t:=(t.x Q).y P (q.bp 2 0)
          refine tO 1 0 t<|sT [(147,.bool (decide (x.kd =(11:Int))))] fun a hF=>cJ 147 hF (fun c2=> ?_) fun c2=> ?_
          ·have e3:eb x.kd X y={X with k:=((bV y.work 7:Nat):Int)}:=by unfold eb;rw[if_pos c2]
           refine rS hF ?_
           replace m18:=(m18.x Q).y P (q.bp 1 0)
           refine tO 1 2 m18<|tC 2 (nV (bV y.work 7)) (Does.call (f:=12) (args:= #[.int .i64 y.work,.int .i64 7]) (by kernel_rfl) (uI _ y.work a9.w1 a9.w2))<|tV 4 73 [nV (bV y.work 7)] (bb X.c (.slice w X.b.length z) X.sx X.se X.sh X.sg (.slice A X.i.length B) X.n X.y (((bV y.work 7):Nat):Int) (.slice D X.p.length F)) O fun n3 b0 zq=> ?_
           replace J:=J.vW b0 O ⟨by decide,by decide⟩ (by decide)
           replace u:=u.aM b0 O (by decide)
           replace a1:=a1.aM b0 O (by decide)
           replace a2:=a2.aM b0 O (by decide)
           replace a3:=a3.aM b0 O (by decide)
           replace O:=zq
           refine sE [] fun a hF=>tK<|cS<|cS ?_
           ·skip
            refine rS hF ?_
            replace t:=t.y b0 (q.bp 2 0)
            refine tO 1 0 t<|eF 2 x.kd 15<|sE [(159,.bool false)] fun a hF=>tK<|cF 159 hF<|cN<|tK ?_
            refine rS hF<|tR 1 O ?_
            have R:=j9;rw[e3] at R
            refine tN 2 (.slice (some ⟨n3.size,0,none⟩) 1 1) ((bI [(⟨{X with k:=((bV y.work 7:Nat):Int)},w,z,A,B,D,F⟩:dM)]).toArray) 47 fun n4 b2 i9=> ?_
            replace G:=((G.ext Q).grew P (q.l 0)).grew b0 (q.l 0)
            replace q:=((q.up P.size).up b0.size).nw G.size i9
            replace kt:=(((kt.ext Q).grew P (q.zero 1 rfl a5)).grew b0 (q.zero 1 rfl a5)).ext b2
            replace d:=(((d.ext Q).k P (q.ap 4 1)).k b0 (q.ap 4 1)).ext b2
            replace G:=G.ext b2
            replace J:=J.ext b2
            replace u:=u.ext b2
            replace a1:=a1.ext b2
            replace a2:=a2.ext b2
            replace a3:=a3.ext b2
            have H:cQ n4 (Out++[(⟨{X with k:=((bV y.work 7:Nat):Int)},w,z,A,B,D,F⟩:dM)]):=u.snoc (⟨a1,a2,a3,k0⟩)
            refine tP 3 (k+1) 192 (bI (Out++[(⟨{X with k:=((bV y.work 7:Nat):Int)},w,z,A,B,D,F⟩:dM)])) d (Row.blk (n:=1) (sz:=75) (l:=bI [(⟨{X with k:=((bV y.work 7:Nat):Int)},w,z,A,B,D,F⟩:dM)]) i9 rfl) (ed _) (fun e4 e9 r4 I c9 j0=> ?_) (ys:=(bI ([(⟨{X with k:=((bV y.work 7:Nat):Int)},w,z,A,B,D,F⟩:dM)]))) (hZ:=by first|rfl|exact List.flatMap_append.symm |simp[bI])
            replace J:=J.eJ c9 d (ae ..) (by decide) (by decide) (by decide)
            replace H:=H.eJ c9 d (ae ..) (by decide)
            have k7:=q
            replace q:=q.sa c9 4 j0 I G.size;clear j0
            replace d:=I;clear I
            have a7:ke L V (k+1)=(⟨N,(b_ x.kd x.n S.off S.aC).1,(b_ x.kd x.n S.off S.aC).2⟩:kE):=by show(fD (ke L V k) (L.getD k dX) (V.getD k eM)).1 =_;rw[hS,hx,hy,R]
            have U:jZ (Out++[(⟨{X with k:=((bV y.work 7:Nat):Int)},w,z,A,B,D,F⟩:dM)]):=c4.snoc j8
            have W:N.E.length ≤k+1:=by omega
            have Y:=ee (r:=(⟨{X with k:=((bV y.work 7:Nat):Int)},w,z,A,B,D,F⟩:dM)) a4 c3 (by unfold mC;rw[hS,hx,hy,R])
            refine sE [(8,.slice e4 (k+1) e9)] fun a hF=>bK<|tK<|rS hF<|tA 1 k 1<|sE [(9,nV (k+1))] fun a hF=> ?_
            clear t
            clear m18
            clear O
            clear i9
            replace G:=G.grew c9 (k7.l 4)
            replace kt:=kt.grew c9 (k7.zero 4 rfl a5)
            replace q:=q.sub (l':=[e4.map (·.block)]) (.cons _ (.cons _ (.cons _ (.cons _ (.cons_cons _ (.slnil))))))
            show ∃m',m'<_∧_
            refine⟨_,?_,(k+1),(⟨N,(b_ x.kd x.n S.off S.aC).1,(b_ x.kd x.n S.off S.aC).2⟩:kE),(Out++[(⟨{X with k:=((bV y.work 7:Nat):Int)},w,z,A,B,D,F⟩:dM)]),e4,e9,rfl,G,kt,(by omega),a7,(by rw[List.length_append,a4];rfl),Y,W,J,U,H,d,q,hF.to⟩
            omega
          ·refine cN<|tK<|cS<|cS ?_
           rcases(by omega:(x.kd =15∧X.c =0)∨(x.kd =15∧X.c ≠0)∨x.kd ≠15) with j1|j1|j1
           ·have e3:eb x.kd X y={X with k:=((bV y.work 5:Nat):Int)}:=by unfold eb;rw[if_neg c2,if_pos j1]
            refine rS hF<|tO 1 0 t<|eT 2 x.kd 15<|tO 5 0 O<|eT 6 X.c 0<|sE [(159,.bool true)] fun a hF=>tK ?_
            refine cT 159 hF<|rS hF ?_
            replace m18:=(m18.x Q).y P (q.bp 1 0)
            refine tO 1 2 m18<|tC 2 (nV (bV y.work 5)) (Does.call (f:=12) (args:= #[.int .i64 y.work,.int .i64 5]) (by kernel_rfl) (lA _ y.work a9.w1 a9.w2))<|tV 4 73 [nV (bV y.work 5)] (bb X.c (.slice w X.b.length z) X.sx X.se X.sh X.sg (.slice A X.i.length B) X.n X.y (((bV y.work 5):Nat):Int) (.slice D X.p.length F)) O fun n5 b1 zq=> ?_
            replace J:=J.vW b1 O ⟨by decide,by decide⟩ (by decide)
            replace u:=u.aM b1 O (by decide)
            replace a1:=a1.aM b1 O (by decide)
            replace a2:=a2.aM b1 O (by decide)
            replace a3:=a3.aM b1 O (by decide)
            replace O:=zq
            refine sE [] fun a hF=>tK<|rS hF<|tR 1 O ?_
            have R:=j9;rw[e3] at R
            refine tN 2 (.slice (some ⟨n5.size,0,none⟩) 1 1) ((bI [(⟨{X with k:=((bV y.work 5:Nat):Int)},w,z,A,B,D,F⟩:dM)]).toArray) 47 fun n6 b3 j2=> ?_
            replace G:=((G.ext Q).grew P (q.l 0)).grew b1 (q.l 0)
            replace q:=((q.up P.size).up b1.size).nw G.size j2
            replace kt:=(((kt.ext Q).grew P (q.zero 1 rfl a5)).grew b1 (q.zero 1 rfl a5)).ext b3
            replace d:=(((d.ext Q).k P (q.ap 4 1)).k b1 (q.ap 4 1)).ext b3
            replace G:=G.ext b3
            replace J:=J.ext b3
            replace u:=u.ext b3
            replace a1:=a1.ext b3
            replace a2:=a2.ext b3
            replace a3:=a3.ext b3
            have H:cQ n6 (Out++[(⟨{X with k:=((bV y.work 5:Nat):Int)},w,z,A,B,D,F⟩:dM)]):=u.snoc (⟨a1,a2,a3,k0⟩)
            refine tP 3 (k+1) 192 (bI (Out++[(⟨{X with k:=((bV y.work 5:Nat):Int)},w,z,A,B,D,F⟩:dM)])) d (Row.blk (n:=1) (sz:=75) (l:=bI [(⟨{X with k:=((bV y.work 5:Nat):Int)},w,z,A,B,D,F⟩:dM)]) j2 rfl) (ed _) (fun e5 f0 r5 I d0 j3=> ?_) (ys:=(bI ([(⟨{X with k:=((bV y.work 5:Nat):Int)},w,z,A,B,D,F⟩:dM)]))) (hZ:=by first|rfl|exact List.flatMap_append.symm |simp[bI])
            replace J:=J.eJ d0 d (ae ..) (by decide) (by decide) (by decide)
            replace H:=H.eJ d0 d (ae ..) (by decide)
            have k8:=q
            replace q:=q.sa d0 4 j3 I G.size;clear j3
            replace d:=I;clear I
            have a7:ke L V (k+1)=(⟨N,(b_ x.kd x.n S.off S.aC).1,(b_ x.kd x.n S.off S.aC).2⟩:kE):=by show(fD (ke L V k) (L.getD k dX) (V.getD k eM)).1 =_;rw[hS,hx,hy,R]
            have U:jZ (Out++[(⟨{X with k:=((bV y.work 5:Nat):Int)},w,z,A,B,D,F⟩:dM)]):=c4.snoc j8
            have W:N.E.length ≤k+1:=by omega
            have Y:=ee (r:=(⟨{X with k:=((bV y.work 5:Nat):Int)},w,z,A,B,D,F⟩:dM)) a4 c3 (by unfold mC;rw[hS,hx,hy,R])
            refine sE [(8,.slice e5 (k+1) f0)] fun a hF=>bK<|tK<|rS hF<|tA 1 k 1<|sE [(9,nV (k+1))] fun a hF=> ?_
            clear t
            clear m18
            clear O
            clear j2
            replace G:=G.grew d0 (k8.l 4)
            replace kt:=kt.grew d0 (k8.zero 4 rfl a5)
            replace q:=q.sub (l':=[e5.map (·.block)]) (.cons _ (.cons _ (.cons _ (.cons _ (.cons_cons _ (.slnil))))))
            show ∃m',m'<_∧_
            refine⟨_,?_,(k+1),(⟨N,(b_ x.kd x.n S.off S.aC).1,(b_ x.kd x.n S.off S.aC).2⟩:kE),(Out++[(⟨{X with k:=((bV y.work 5:Nat):Int)},w,z,A,B,D,F⟩:dM)]),e5,f0,rfl,G,kt,(by omega),a7,(by rw[List.length_append,a4];rfl),Y,W,J,U,H,d,q,hF.to⟩
            omega
           ·have e3:eb x.kd X y=X:=by unfold eb;rw[if_neg c2,if_neg (fun e=>j1.2 e.2)]
            refine rS hF<|tO 1 0 t<|eT 2 x.kd 15<|tO 5 0 O<|eF 6 X.c 0<|sE [(159,.bool false)] fun a hF=>tK ?_
            refine cF 159 hF<|cN<|tK<|rS hF<|tR 1 O ?_
            have R:=j9;rw[e3] at R
            refine tN 2 (.slice (some ⟨k6.size,0,none⟩) 1 1) ((bI [(⟨X,w,z,A,B,D,F⟩:dM)]).toArray) 47 fun n7 b5 j4=> ?_
            replace G:=(G.ext Q).grew P (q.l 0)
            replace q:=(q.up P.size).nw G.size j4
            replace kt:=((kt.ext Q).grew P (q.zero 1 rfl a5)).ext b5
            replace d:=((d.ext Q).k P (q.ap 4 1)).ext b5
            replace G:=G.ext b5
            replace J:=J.ext b5
            replace u:=u.ext b5
            replace a1:=a1.ext b5
            replace a2:=a2.ext b5
            replace a3:=a3.ext b5
            have H:cQ n7 (Out++[(⟨X,w,z,A,B,D,F⟩:dM)]):=u.snoc (⟨a1,a2,a3,k0⟩)
            refine tP 3 (k+1) 192 (bI (Out++[(⟨X,w,z,A,B,D,F⟩:dM)])) d (Row.blk (n:=1) (sz:=75) (l:=bI [(⟨X,w,z,A,B,D,F⟩:dM)]) j4 rfl) (ed _) (fun e6 f3 r6 I d3 j5=> ?_) (ys:=(bI ([(⟨X,w,z,A,B,D,F⟩:dM)]))) (hZ:=by first|rfl|exact List.flatMap_append.symm |simp[bI])
            replace J:=J.eJ d3 d (ae ..) (by decide) (by decide) (by decide)
            replace H:=H.eJ d3 d (ae ..) (by decide)
            have k9:=q
            replace q:=q.sa d3 4 j5 I G.size;clear j5
            replace d:=I;clear I
            have a7:ke L V (k+1)=(⟨N,(b_ x.kd x.n S.off S.aC).1,(b_ x.kd x.n S.off S.aC).2⟩:kE):=by show(fD (ke L V k) (L.getD k dX) (V.getD k eM)).1 =_;rw[hS,hx,hy,R]
            have U:jZ (Out++[(⟨X,w,z,A,B,D,F⟩:dM)]):=c4.snoc j8
            have W:N.E.length ≤k+1:=by omega
            have Y:=ee (r:=(⟨X,w,z,A,B,D,F⟩:dM)) a4 c3 (by unfold mC;rw[hS,hx,hy,R])
            refine sE [(8,.slice e6 (k+1) f3)] fun a hF=>bK<|tK<|rS hF<|tA 1 k 1<|sE [(9,nV (k+1))] fun a hF=> ?_
            clear t
            clear m18
            clear O
            clear j4
            replace G:=G.grew d3 (k9.l 4)
            replace kt:=kt.grew d3 (k9.zero 4 rfl a5)
            replace q:=q.sub (l':=[e6.map (·.block)]) (.cons _ (.cons _ (.cons _ (.cons _ (.cons_cons _ (.slnil))))))
            show ∃m',m'<_∧_
            refine⟨_,?_,(k+1),(⟨N,(b_ x.kd x.n S.off S.aC).1,(b_ x.kd x.n S.off S.aC).2⟩:kE),(Out++[(⟨X,w,z,A,B,D,F⟩:dM)]),e6,f3,rfl,G,kt,(by omega),a7,(by rw[List.length_append,a4];rfl),Y,W,J,U,H,d,q,hF.to⟩
            omega
           ·have e3:eb x.kd X y=X:=by unfold eb;rw[if_neg c2,if_neg (fun e=>j1 e.1)]
            refine rS hF<|tO 1 0 t<|eF 2 x.kd 15<|sE [(159,.bool false)] fun a hF=>tK<|cF 159 hF<|cN ?_
            refine tK<|rS hF<|tR 1 O ?_
            have R:=j9;rw[e3] at R
            refine tN 2 (.slice (some ⟨k6.size,0,none⟩) 1 1) ((bI [(⟨X,w,z,A,B,D,F⟩:dM)]).toArray) 47 fun n8 b6 j6=> ?_
            replace G:=(G.ext Q).grew P (q.l 0)
            replace q:=(q.up P.size).nw G.size j6
            replace kt:=((kt.ext Q).grew P (q.zero 1 rfl a5)).ext b6
            replace d:=((d.ext Q).k P (q.ap 4 1)).ext b6
            replace G:=G.ext b6
            replace J:=J.ext b6
            replace u:=u.ext b6
            replace a1:=a1.ext b6
            replace a2:=a2.ext b6
            replace a3:=a3.ext b6
            have H:cQ n8 (Out++[(⟨X,w,z,A,B,D,F⟩:dM)]):=u.snoc (⟨a1,a2,a3,k0⟩)
            refine tP 3 (k+1) 192 (bI (Out++[(⟨X,w,z,A,B,D,F⟩:dM)])) d (Row.blk (n:=1) (sz:=75) (l:=bI [(⟨X,w,z,A,B,D,F⟩:dM)]) j6 rfl) (ed _) (fun e7 f4 r7 I d4 j7=> ?_) (ys:=(bI ([(⟨X,w,z,A,B,D,F⟩:dM)]))) (hZ:=by first|rfl|exact List.flatMap_append.symm |simp[bI])
            replace J:=J.eJ d4 d (ae ..) (by decide) (by decide) (by decide)
            replace H:=H.eJ d4 d (ae ..) (by decide)
            have l0:=q
            replace q:=q.sa d4 4 j7 I G.size;clear j7
            replace d:=I;clear I
            have a7:ke L V (k+1)=(⟨N,(b_ x.kd x.n S.off S.aC).1,(b_ x.kd x.n S.off S.aC).2⟩:kE):=by show(fD (ke L V k) (L.getD k dX) (V.getD k eM)).1 =_;rw[hS,hx,hy,R]
            have U:jZ (Out++[(⟨X,w,z,A,B,D,F⟩:dM)]):=c4.snoc j8
            have W:N.E.length ≤k+1:=by omega
            have Y:=ee (r:=(⟨X,w,z,A,B,D,F⟩:dM)) a4 c3 (by unfold mC;rw[hS,hx,hy,R])
            refine sE [(8,.slice e7 (k+1) f4)] fun a hF=>bK<|tK<|rS hF<|tA 1 k 1<|sE [(9,nV (k+1))] fun a hF=> ?_
            clear t
            clear m18
            clear O
            clear j6
            replace G:=G.grew d4 (l0.l 4)
            replace kt:=kt.grew d4 (l0.zero 4 rfl a5)
            replace q:=q.sub (l':=[e7.map (·.block)]) (.cons _ (.cons _ (.cons _ (.cons _ (.cons_cons _ (.slnil))))))
            show ∃m',m'<_∧_
            refine⟨_,?_,(k+1),(⟨N,(b_ x.kd x.n S.off S.aC).1,(b_ x.kd x.n S.off S.aC).2⟩:kE),(Out++[(⟨X,w,z,A,B,D,F⟩:dM)]),e7,f4,rfl,G,kt,(by omega),a7,(by rw[List.length_append,a4];rfl),Y,W,J,U,H,d,q,hF.to⟩
            omega
 ·refine cX 0 (xT (xT (xB ?_)))
  refine tK<|qP [(4,.slice ad k cap)] hF fun a hF=>cR<|rT 4 (.slice ad k cap) hF ?_
  have o9:k=L.length :=by omega
  subst o9
  exact⟨Out,ad,cap,rfl,a4,c3,d,u,c4,q.low 0 rfl,G⟩
theorem AK(h:Heap)(c:Int)(n r:Nat)(hr:bV c n=r)(hn:0<n)(h1: -9223372036854775808≤c)(h2:c≤9223372036854775807):Sat Tryz.prog 12 #[.int .i64 c,.int .i64 ((n:Nat):Int)] h fun v h'=>v= .int .i64 ((r:Nat):Int)∧h'=h:=by
 refine ag Tryz.func12 13 fun a b=>qP [] b fun a b=>cS<|qP [(6,.bool (decide (c<(0:Int))))] b fun a b=>cJ 6 b (fun d=> ?_) fun d=> ?_
 ·have e:=jX n d
  refine rS b<|t1 1 (.int .i64 (c+1)) (.int .i64 (IntKind.i64.wrap (c+1))) (congrArg (Value.int .i64) (kg (by omega) (by omega)))<|t1 2 (.int .i64 (-(c+1))) (.int .i64 (IntKind.i64.wrap (0 - (c+1)))) (congrArg (Value.int .i64) ((kg (by omega) (by omega)).trans (by omega)))<|sE [(0,.int .i64 (-(c+1)))] fun a b=>tK<|qS b<|tC 2 (nV r) ((fun h=>Calm.rem (k:= .i64) (x:=(-(c+1))) (y:=((n:Nat):Int)) (r:=((r:Nat):Int)) (by kernel_rfl) (by omega) ((congrArg (fun x=>Int.tmod x ((n:Nat):Int)) (show((-(c+1)):Int)=((((-(c+1)):Int).toNat :Nat):Int) by omega)).trans ((fj _ n).trans (by rw[e,hr]))) h) _) ?_
  exact sT [(4,nV r)] fun a b=>cR<|rT 4 (nV r) b<|⟨rfl,rfl⟩
 ·have e:=jY n d
  refine cN<|tK<|qS b<|tC 2 (nV r) ((fun h=>Calm.rem (k:= .i64) (x:=c) (y:=((n:Nat):Int)) (r:=((r:Nat):Int)) (by kernel_rfl) (by omega) ((congrArg (fun x=>Int.tmod x ((n:Nat):Int)) (show(c:Int)=(((c:Int).toNat :Nat):Int) by omega)).trans ((fj _ n).trans (by rw[e,hr]))) h) _)<|sT [(4,nV r)] fun a b=>cR<|rT 4 (nV r) b ?_
  exact⟨rfl,rfl⟩
noncomputable def b4:Code:=Tryz.f4.body.getD .skip
set_option maxHeartbeats 1000000 in
theorem v_(h:Heap)(L:List dJ)(la:Option Addr)(lc:Nat)(hll:Row h (.slice la L.length lc) L.length 5 (dZ L))(ho:∀o∈L,mr h o∧o.l.length ≤1048576)(hlb:L.length ≤1048576)(u pt db:Int)(hu1: -9223372036854775808≤u)(hu2:u≤9223372036854775807)(hp1: -9223372036854775808≤pt)(hp2:pt≤9223372036854775807)(hy1: -9223372036854775808≤db)(hy2:db≤9223372036854775807)(kt:bq h):Sat Tryz.prog 4 #[.slice la L.length lc,.agg #[.int .i64 u,.int .i64 pt,.int .i64 db]] h fun v h'=>v= .bool true∧Ext h h':=by
 have A:=Ext.refl h
 have U:=kt.lt
 have g:Sep h.size h.size []:=Sep.nil _ _
 refine ag Tryz.func4 105 fun a w=>qS w<|tN 0 (pV h.size) #[.int .i64 u,.int .i64 pt,.int .i64 db] 31 fun h1 g2 K=> ?_
 replace g:=g.nw A.size K
 refine sT [(3,pV h.size)] fun a w=>qS w ?_
 replace kt:=kt.ext g2
 refine tG 0 (vM _ kt) ?_
 rintro _ h7 ⟨rfl,g6⟩
 refine sT [(5,.bool true)] fun a w=>cS<|qP [(14,.bool false)] w fun a w=>cF 14 w<|cN<|tK<|qS w ?_
 refine tN 0 (.slice (some ⟨h7.size,0,none⟩) 0 0) #[] 35 fun h8 g9 c1=> ?_
 replace A:=(A.ext g2).ext g6
 replace g:=(g.up g6.size).nw A.size c1
 have d:Own h8 (.slice (some ⟨h7.size,0,none⟩) 0 0) 35 ([]:List dJ).length 5 (dZ []):=Own.empty 5 c1
 replace g:Sep h.size h8.size [(some ⟨h7.size,0,none⟩:Option Addr).map (·.block),some (h.size)]:=g
 replace kt:=(kt.ext g6).ext g9
 replace K:=(K.x g6).x g9
 replace A:=A.ext g9
 clear c1
 refine sT [(6,.slice (some ⟨h7.size,0,none⟩) 0 0)] fun a w=>cS<|qP [(7,.int .i64 0)] w fun a w=>cB 0<|cL (fun m a h'=>∃k:Nat,∃ad:Option Addr,∃N:Nat,m=L.length - k∧(Ext h h')∧(bq h')∧(h'[h.size]? =some (.cells #[.int .i64 u,.int .i64 pt,.int .i64 db] 31))∧(k≤L.length)∧(Own h' (.slice ad ((cal (L.take k)).length) N) 35 (cal (L.take k)).length 5 (dZ (cal (L.take k))))∧(Sep h.size h'.size [ad.map (·.block),some (h.size)])∧(Fr a 105 [(0,.slice la L.length lc),(3,.pointer (some ⟨h.size,0,none⟩)),(5,.bool true),(6,.slice ad ((cal (L.take k)).length) N),(7,.int .i64 ((k:Nat):Int))])) (L.length - 0) ⟨0,(some ⟨h7.size,0,none⟩),0,rfl,A,kt,K,(Nat.zero_le _),d,g,w.to⟩ ?_
 clear w a
 clear A
 clear kt
 clear K
 clear d
 clear g
 rintro m a e4 ⟨k,ad,N,rfl,A,kt,K,hk,d,g,w⟩
 refine cS<|qP [(19,.bool (decide (((k:Nat):Int)<((L.length :Nat):Int))))] w fun a w=>cJ 19 w (fun c5=> ?_) fun c5=> ?_
 ·have D:k<L.length :=by omega
  have O:=w
  obtain⟨C,rfl,c6⟩:=hll.bf (by omega)
  have w:=O;clear O
  obtain⟨x,I⟩:∃x,L.getD k dX=x:=⟨_,rfl⟩
  have e5:=yQ L k
  refine cN<|tK<|cS<|cB 1<|cS ?_
  rcases(by omega:x.kd =12∨x.kd =13∨x.kd =14∨(x.kd ≠12∧x.kd ≠13∧x.kd ≠14)) with V|V|V|V
  ·have P:cal (L.take (k+1))=(cal (L.take k)):=sS I D (fun e=>e.1 V)
   rw[←P] at d w
   refine rS w<|tI 2 C L.length 5 k (k*5)<|t1 3 (.pointer (some (Addr.add C (k*5)))) (.pointer (some ((Addr.add C (k*5)).add 0))) (by rw[add_add,Nat.add_zero])<|tC 4 (.int .i64 x.kd) (Calm.load (T:=3) (p:=(Addr.add C (k*5))) (by kernel_rfl) (Loads.one (k:=1) (by kernel_rfl) (fa I (hll.ext A) D)))<|uF 5 x.kd 12<|sE [(43,.bool false)] fun a w=>tK ?_
   refine cF 43 w<|cN<|bK<|tK<|rS w<|tA 1 k 1<|sE [(7,nV (k+1))] fun a w=> ?_
   replace g:=g.sub (l':=[ad.map (·.block),some (h.size)]) (.cons_cons _ (.cons_cons _ (.slnil)))
   show ∃m',m'<_∧_
   refine⟨_,?_,(k+1),ad,N,rfl,A,kt,K,(by omega),d,g,w.to⟩
   omega
  ·have P:cal (L.take (k+1))=(cal (L.take k)):=sS I D (fun e=>e.2.1 V)
   rw[←P] at d w
   refine rS w<|tI 2 C L.length 5 k (k*5)<|t1 3 (.pointer (some (Addr.add C (k*5)))) (.pointer (some ((Addr.add C (k*5)).add 0))) (by rw[add_add,Nat.add_zero])<|tC 4 (.int .i64 x.kd) (Calm.load (T:=3) (p:=(Addr.add C (k*5))) (by kernel_rfl) (Loads.one (k:=1) (by kernel_rfl) (fa I (hll.ext A) D)))<|uT 5 x.kd 12<|tI 9 C L.length 5 k (k*5)<|t1 10 (.pointer (some (Addr.add C (k*5)))) (.pointer (some ((Addr.add C (k*5)).add 0))) (by rw[add_add,Nat.add_zero]) ?_
   refine tC 11 (.int .i64 x.kd) (Calm.load (T:=3) (p:=(Addr.add C (k*5))) (by kernel_rfl) (Loads.one (k:=1) (by kernel_rfl) (fa I (hll.ext A) D)))<|uF 12 x.kd 13<|sE [(43,.bool false)] fun a w=>tK<|cF 43 w<|cN<|bK ?_
   refine tK<|rS w<|tA 1 k 1<|sE [(7,nV (k+1))] fun a w=> ?_
   replace g:=g.sub (l':=[ad.map (·.block),some (h.size)]) (.cons_cons _ (.cons_cons _ (.slnil)))
   show ∃m',m'<_∧_
   refine⟨_,?_,(k+1),ad,N,rfl,A,kt,K,(by omega),d,g,w.to⟩
   omega
  ·have P:cal (L.take (k+1))=(cal (L.take k)):=sS I D (fun e=>e.2.2 V)
   rw[←P] at d w
   refine rS w<|tI 2 C L.length 5 k (k*5)<|t1 3 (.pointer (some (Addr.add C (k*5)))) (.pointer (some ((Addr.add C (k*5)).add 0))) (by rw[add_add,Nat.add_zero])<|tC 4 (.int .i64 x.kd) (Calm.load (T:=3) (p:=(Addr.add C (k*5))) (by kernel_rfl) (Loads.one (k:=1) (by kernel_rfl) (fa I (hll.ext A) D)))<|uT 5 x.kd 12<|tI 9 C L.length 5 k (k*5)<|t1 10 (.pointer (some (Addr.add C (k*5)))) (.pointer (some ((Addr.add C (k*5)).add 0))) (by rw[add_add,Nat.add_zero]) ?_
   refine tC 11 (.int .i64 x.kd) (Calm.load (T:=3) (p:=(Addr.add C (k*5))) (by kernel_rfl) (Loads.one (k:=1) (by kernel_rfl) (fa I (hll.ext A) D)))<|uT 12 x.kd 13<|tI 17 C L.length 5 k (k*5)<|t1 18 (.pointer (some (Addr.add C (k*5)))) (.pointer (some ((Addr.add C (k*5)).add 0))) (by rw[add_add,Nat.add_zero])<|tC 19 (.int .i64 x.kd) (Calm.load (T:=3) (p:=(Addr.add C (k*5))) (by kernel_rfl) (Loads.one (k:=1) (by kernel_rfl) (fa I (hll.ext A) D)))<|uF 20 x.kd 14<|sE [(43,.bool false)] fun a w=> ?_
   refine tK<|cF 43 w<|cN<|bK<|tK<|rS w<|tA 1 k 1 ?_
   refine sE [(7,nV (k+1))] fun a w=> ?_
   replace g:=g.sub (l':=[ad.map (·.block),some (h.size)]) (.cons_cons _ (.cons_cons _ (.slnil)))
   show ∃m',m'<_∧_
   refine⟨_,?_,(k+1),ad,N,rfl,A,kt,K,(by omega),d,g,w.to⟩
   omega
  ·have P:cal (L.take (k+1))=(cal (L.take k))++[x]:=AI I D V
   refine rS w<|tI 2 C L.length 5 k (k*5)<|t1 3 (.pointer (some (Addr.add C (k*5)))) (.pointer (some ((Addr.add C (k*5)).add 0))) (by rw[add_add,Nat.add_zero])<|tC 4 (.int .i64 x.kd) (Calm.load (T:=3) (p:=(Addr.add C (k*5))) (by kernel_rfl) (Loads.one (k:=1) (by kernel_rfl) (fa I (hll.ext A) D)))<|uT 5 x.kd 12<|tI 9 C L.length 5 k (k*5)<|t1 10 (.pointer (some (Addr.add C (k*5)))) (.pointer (some ((Addr.add C (k*5)).add 0))) (by rw[add_add,Nat.add_zero]) ?_
   refine tC 11 (.int .i64 x.kd) (Calm.load (T:=3) (p:=(Addr.add C (k*5))) (by kernel_rfl) (Loads.one (k:=1) (by kernel_rfl) (fa I (hll.ext A) D)))<|uT 12 x.kd 13<|tI 17 C L.length 5 k (k*5)<|t1 18 (.pointer (some (Addr.add C (k*5)))) (.pointer (some ((Addr.add C (k*5)).add 0))) (by rw[add_add,Nat.add_zero])<|tC 19 (.int .i64 x.kd) (Calm.load (T:=3) (p:=(Addr.add C (k*5))) (by kernel_rfl) (Loads.one (k:=1) (by kernel_rfl) (fa I (hll.ext A) D)))<|uT 20 x.kd 14<|sE [(43,.bool true)] fun a w=> ?_
   refine tK<|cT 43 w<|rS w<|tI 3 C L.length 5 k (k*5)<|tC 4 (.agg #[.int .i64 x.kd,.string x.s,.slice x.oa x.l.length x.oc,.int .i64 x.n,.slice x.ka x.kn x.kc]) (Calm.load (T:=35) (p:=(Addr.add C (k*5))) (by kernel_rfl) (lu I (hll.ext A) (by kernel_rfl) D (by first|rfl|omega)))<|tN 5 (.slice (some ⟨e4.size,0,none⟩) 1 1) ((dZ [x]).toArray) 35 fun f6 b3 c7=> ?_
   replace g:=g.nw A.size c7
   replace d:=d.ext b3
   refine tP 6 ((cal (L.take k)).length +1) 80 (dZ ((cal (L.take k))++[x])) d (Row.blk (n:=1) (sz:=5) (l:=dZ [x]) c7 rfl) (v7 _) (fun a6 a7 f7 d b5 b8=> ?_) (ys:=(dZ ([x]))) (hZ:=by first|rfl|exact List.flatMap_append.symm |simp[dZ])
   replace A:=A.ext b3
   have c2:=g
   replace g:=g.sa b5 1 b8 d A.size;clear b8
   have jS:(cal (L.take k)).length +1=(cal (L.take (k+1))).length :=by rw[P,List.length_append];rfl
   rw[jS,←P] at d
   refine sE [(6,.slice a6 ((cal (L.take k)).length +1) a7)] fun a w=> ?_
   have c0:((cal (L.take k)).length +1:Nat)=(cal (L.take (k+1))).length :=by first|exact jS| (simp;done)| (simp;omega)
   rw[c0] at w;clear c0
   refine bK<|tK<|rS w<|tA 1 k 1<|sE [(7,nV (k+1))] fun a w=> ?_
   replace kt:=(kt.ext b3).grew b5 (c2.zero 1 rfl U)
   replace K:=(K.x b3).y b5 (c2.bp 2 1)
   replace A:=A.grew b5 (c2.l 1)
   replace g:=g.sub (l':=[a6.map (·.block),some (h.size)]) (.cons _ (.cons_cons _ (.cons_cons _ (.slnil))))
   show ∃m',m'<_∧_
   refine⟨_,?_,(k+1),a6,a7,rfl,A,kt,K,(by omega),d,g,w.to⟩
   omega
 ·refine cX 0 (xT (xT (xB ?_)))
  refine tK<|cS<|qP [(53,.bool (decide ((((cal (L.take k)).length :Nat):Int)=(0:Int))))] w fun a w=>cJ 53 w (fun c8=> ?_) fun c8=> ?_
  ·refine qS w<|tG 2 (d_ _ [] [] 0 _ _ _ _ (qM [] []) (fun _=>0) (Row.nil _ _) rfl (Row.nil _ _) rfl kt (by omega) rfl (fun k hk=>absurd hk (Nat.not_lt_zero k)) [] (mD _)) ?_
   rintro _ f8 ⟨jd,jc,rfl,_,e6⟩
   refine sT [(4,.bool true)] fun a w=>cR (yT ?_)
   refine rT 4 (.bool true) w ?_
   replace A:=A.ext e6
   exact⟨rfl,A⟩
  ·have e5:=yQ L k
   have a8:(cal (L.take k)).length ≤1048576:=by omega
   have W:∀o∈(cal (L.take k)),mr h o∧o.l.length ≤1048576:=fun o Z=>ho o (yP Z).1
   have c9:∀o∈(cal (L.take k)),fE o.kd :=fun o Z=>(yP Z).2
   have e7:0<(cal (L.take k)).length :=by omega
   refine cN<|tK<|qS w<|tG 1 (sV _ (cal (L.take k)) ad N d.row (fun o Z=>⟨⟨(W o Z).1.1.1.ext A,(W o Z).1.2⟩,(W o Z).2⟩) a8 [] none 0 (Row.nil _ _) (fun x I=>by cases I) kt) ?_
   rintro _ b6 ⟨a2,d0,a9,rfl,Q,b7,t,B,e8,d1,a0⟩
   replace g:=g.co a0 d1 t A.size
   refine sT [(8,.slice d0 ((cal (L.take k)).length) a9)] fun a w=>qS w ?_
   replace K:=K.x a0
   refine tO 1 0 K ?_
   obtain⟨q,d2⟩:∃q,bV u (cal (L.take k)).length =q:=⟨_,rfl⟩
   have a3:q<(cal (L.take k)).length :=d2▸o_ u e7
   refine tC 4 (nV q) (Does.call (f:=12) (args:= #[.int .i64 u,nV ((cal (L.take k)).length)]) (by kernel_rfl) (AK _ u (cal (L.take k)).length q d2 (by omega) hu1 hu2))<|sT [(9,nV q)] fun a w=>cS ?_
   have a1:q<a2.length :=by omega
   have O:=w
   replace d:=d.ext a0
   obtain⟨ac,rfl,d3⟩:=d.bf (by omega)
   have w:=O;clear O
   have O:=w
   obtain⟨ao,rfl,d4⟩:=t.bf (by omega)
   have w:=O;clear O
   obtain⟨x,I⟩:∃x,(cal (L.take k)).getD q dX=x:=⟨_,rfl⟩
   obtain⟨⟨X,qa,qc,ia,ic,pa,pc⟩,hX⟩:∃z,a2.getD q eB=z:=⟨_,rfl⟩
   have d5:y5 X:=e8 _ (yS hX a1)
   obtain⟨p,hp⟩:∃p,bV pt 7=p:=⟨_,rfl⟩
   obtain⟨b0,c3⟩:∃b0,bV db 250=b0:=⟨_,rfl⟩
   have f9:b0<250:=c3▸o_ db (by decide)
   ·skip
    refine cD [0,0,3,7,0,0,48,112,0,511,1023,2047,2047,0,12287,32767] 14 mixed w<|mP 3 [0,1] [.slice (some ac) ((cal (L.take k)).length) N,nV q]<|mI 7 2 ac ((cal (L.take k)).length) 5 q (q*5)<|mL 15 8 3 (.agg #[.int .i64 x.kd,.string x.s,.slice x.oa x.l.length x.oc,.int .i64 x.n,.slice x.ka x.kn x.kc]) (Calm.load (T:=35) (p:=(Addr.add ac (q*5))) (by kernel_rfl) (lu I d.row (by kernel_rfl) a3 (by first|rfl|omega)))<|mP 63 [4,5] [.slice (some ao) ((cal (L.take k)).length) a9,nV q]<|mI 127 6 ao ((cal (L.take k)).length) 75 q (q*75)<|mL 255 136 7 (.agg (bb X.c (.slice qa X.b.length qc) X.sx X.se X.sh X.sg (.slice ia X.i.length ic) X.n X.y X.k (.slice pa X.p.length pc)).toArray) (Calm.load (T:=47) (p:=(Addr.add ao (q*75))) (by kernel_rfl) (uG hX t.row (by kernel_rfl) a1 (by first|rfl|omega))) ?_
    refine mR 511 392 8 K<|aF.ov (is:=[9,13]) (by kernel_rfl) (by simp) ?_
    intro q hq
    simp only[List.mem_cons,List.not_mem_nil,or_false] at hq
    rcases hq with rfl|rfl
    ·replace A:=A.ext a0
     replace kt:=kt.ext a0
     refine pg 1023 1023 9 [] (Does.call (f:=13) (args:= #[.agg #[.int .i64 x.kd,.string x.s,.slice x.oa x.l.length x.oc,.int .i64 x.n,.slice x.ka x.kn x.kc],.agg (bb X.c (.slice qa X.b.length qc) X.sx X.se X.sh X.sg (.slice ia X.i.length ic) X.n X.y X.k (.slice pa X.p.length pc)).toArray,.agg #[.int .i64 u,.int .i64 pt,.int .i64 db]]) (by kernel_rfl) (mG _ x X qa qc ia ic pa pc (B _ (yS hX a1)) d5 u pt db p b0 hp c3 hp1 hp2 hy1 hy2 kt)) ?_
     rintro _ c4 ⟨⟨Y,ya,yc,yb,yd,ye,yf⟩,r,rfl,htu,hxn,M⟩
     refine⟨fun j hj=>by simp at hj,?_⟩
     have E:cQ c4 [⟨Y,ya,yc,yb,yd,ye,yf⟩]:=fun z hz=>by rw[List.mem_singleton.1 hz];exact hxn
     clear hxn
     refine mP 8191 [10,11,12] [.tuple #[.agg (bb Y.c (.slice ya Y.b.length yc) Y.sx Y.se Y.sh Y.sg (.slice yb Y.i.length yd) Y.n Y.y Y.k (.slice ye Y.p.length yf)).toArray,.int .i64 r],.agg (bb Y.c (.slice ya Y.b.length yc) Y.sx Y.se Y.sh Y.sg (.slice yb Y.i.length yd) Y.n Y.y Y.k (.slice ye Y.p.length yf)).toArray,.int .i64 r]<|mN 16383 9215 13 (pV c4.size) ((bY 0).toArray) 47 fun g0 J a4=> ?_
     replace A:=A.ext M
     replace g:=(g.up M.size).nw A.size a4
     refine mV 32767 28671 14 0 (bb Y.c (.slice ya Y.b.length yc) Y.sx Y.se Y.sh Y.sg (.slice yb Y.i.length yd) Y.n Y.y Y.k (.slice ye Y.p.length yf)) (bb Y.c (.slice ya Y.b.length yc) Y.sx Y.se Y.sh Y.sg (.slice yb Y.i.length yd) Y.n Y.y Y.k (.slice ye Y.p.length yf)) a4 fun g1 F zq=> ?_
     replace B:=(B.ext M).ext J
     replace B:=B.aM F a4 (by decide)
     replace E:=E.ext J
     replace E:=E.aM F a4 (by decide)
     replace a4:=zq
     refine mP 65535 [15] [.int .i64 r]<|mE [(10,pV c4.size),(11,.int .i64 r)] fun a w=>tK<|cS<|qP [(81,.bool (decide (r=(0:Int))))] w fun a w=>cJ 81 w (fun d6=> ?_) fun d6=> ?_
     ·refine qS w ?_
      replace kt:=((kt.ext M).ext J).grew F (g.zero 0 rfl U)
      replace d:=((d.ext M).ext J).k F (g.ap 2 0)
      replace t:=((t.ext M).ext J).k F (g.ap 1 0)
      replace A:=(A.ext J).grew F (g.l 0)
      refine tG 4 (d_ _ (cal (L.take k)) a2 (cal (L.take k)).length _ _ _ _ (qM (cal (L.take k)) []) (fun _=>0) d.row rfl t.row Q kt (by omega) rfl (sP Q b7 B (fun o Z=>(W o Z).1.ext A) a8) [] (mD _)) ?_
      rintro _ g3 ⟨jd,jc,rfl,_,e9⟩
      refine sT [(4,.bool true)] fun a w=>cR (yT ?_)
      refine rT 4 (.bool true) w ?_
      replace A:=A.ext e9
      exact⟨rfl,A⟩
     ·refine cN<|tK<|qS w<|tR 2 a4<|tI 3 ao ((cal (L.take k)).length) 75 q (q*75) ?_
      replace kt:=((kt.ext M).ext J).grew F (g.zero 0 rfl U)
      replace d:=((d.ext M).ext J).k F (g.ap 2 0)
      replace t:=((t.ext M).ext J).k F (g.ap 1 0)
      replace A:=(A.ext J).grew F (g.l 0)
      replace g:=g.up F.size
      refine tF 4 (Does.cH (a:=ao) (q:=(q*75)) (vs:=(mq ⟨Y,ya,yc,yb,yd,ye,yf⟩)) (by kernel_rfl) t (by show q*75+75≤_;omega) (List.all_eq_true.1 (show(mq _).all _=true by rfl))) ?_
      rintro _ g4 ⟨rfl,R,b1⟩
      replace B:=B.eJ b1 t (ae ..) (by decide)
      replace E:=E.eJ b1 t (ae ..) (by decide)
      replace t:=R;clear R
      rw[fH jU a1] at t
      refine sT [] fun a w=>qS w ?_
      replace A:=A.grew b1 (g.l 1)
      replace kt:=kt.grew b1 (g.zero 1 rfl U)
      replace d:=d.k b1 (g.ap 2 1)
      refine tG 4 (d_ _ (cal (L.take k)) (a2.set q ⟨Y,ya,yc,yb,yd,ye,yf⟩) (cal (L.take k)).length _ _ _ _ (qM (cal (L.take k)) []) (fun k=>if k=q then r else 0) d.row rfl t.row (by rw[List.length_set,Q]) kt (by omega) rfl (yV (p:=p) (b:=b0+1) c9 Q b7 B (fun o Z=>(W o Z).1.ext A) a8 (E _ (List.mem_singleton.2 rfl)) a3 (by omega) (by omega) (by rw[I,hX];exact htu) (by omega)) [(((q:Nat):Int),r)] (yU a3 (by omega))) ?_
      rintro _ d7 ⟨jd,jc,rfl,rj,f0⟩
      refine tN 8 (.slice (some ⟨d7.size,0,none⟩) 1 1) #[nV q,.int .i64 r] 52 fun g5 d8 f1=> ?_
      replace A:=A.ext f0
      replace A:=A.ext d8
      replace rj:=rj.ext d8
      exact tC 9 (.bool true) (Does.call (f:=14) (args:= #[.slice jd 1 jc,.slice (some ⟨d7.size,0,none⟩) 1 1]) (by kernel_rfl) (fV _ (((q:Nat):Int),r) _ _ _ _ rj (Row.blk (n:=1) (sz:=2) (l:=dA [(((q:Nat):Int),r)]) f1 rfl)))<|sT [(4,.bool true)] fun a w=>cR<|rT 4 (.bool true) w<|⟨rfl,A⟩
    ·refine pg 8703 8192 13 [3,7,8] (Does.new (v:= .pointer (some ⟨b6.size,0,none⟩)) (o:= .cells (bY 0).toArray 47) (by kernel_rfl)) ?_
     rintro _ d9 ⟨rfl,hh⟩
     have a5:Ext b6 d9:=aT hh
     have S:d9[b6.size]? =some (.cells (bY 0).toArray 47):=bj hh
     clear hh
     replace A:=A.ext a0
     replace g:=g.nw A.size S
     replace d:=d.ext a5
     replace t:=t.ext a5
     replace K:=K.x a5
     refine⟨?_,?_⟩
     ·intro j hj
      simp only[List.mem_cons,List.not_mem_nil,or_false] at hj
      rcases hj with rfl|rfl|rfl
      ·exact aE (Calm.load (T:=35) (p:=(Addr.add ac (q*5))) (by kernel_rfl) (lu I d.row (by kernel_rfl) a3 (by first|rfl|omega)))
      ·exact aE (Calm.load (T:=47) (p:=(Addr.add ao (q*75))) (by kernel_rfl) (uG hX t.row (by kernel_rfl) a1 (by first|rfl|omega)))
      ·exact aE (Calm.load (T:=31) (p:=⟨h.size,0,none⟩) (by kernel_rfl) (Loads.blk (vs:=[.int .i64 u,.int .i64 pt,.int .i64 db]) (by kernel_rfl) K rfl))
     replace kt:=(kt.ext a0).ext a5
     replace A:=A.ext a5
     replace B:=B.ext a5
     refine gC 9215 9215 9 (mG _ x X qa qc ia ic pa pc (B _ (yS hX a1)) d5 u pt db p b0 hp c3 hp1 hp2 hy1 hy2 kt) ?_
     rintro _ f2 ⟨⟨Y,ya,yc,yb,yd,ye,yf⟩,r,rfl,htu,hxn,G⟩
     have E:cQ f2 [⟨Y,ya,yc,yb,yd,ye,yf⟩]:=fun z hz=>by rw[List.mem_singleton.1 hz];exact hxn
     clear hxn
     refine mP 16383 [10,11,12] [.tuple #[.agg (bb Y.c (.slice ya Y.b.length yc) Y.sx Y.se Y.sh Y.sg (.slice yb Y.i.length yd) Y.n Y.y Y.k (.slice ye Y.p.length yf)).toArray,.int .i64 r],.agg (bb Y.c (.slice ya Y.b.length yc) Y.sx Y.se Y.sh Y.sg (.slice yb Y.i.length yd) Y.n Y.y Y.k (.slice ye Y.p.length yf)).toArray,.int .i64 r] ?_
     replace S:=S.x G
     refine mV 32767 28671 14 0 (bb Y.c (.slice ya Y.b.length yc) Y.sx Y.se Y.sh Y.sg (.slice yb Y.i.length yd) Y.n Y.y Y.k (.slice ye Y.p.length yf)) (bb Y.c (.slice ya Y.b.length yc) Y.sx Y.se Y.sh Y.sg (.slice yb Y.i.length yd) Y.n Y.y Y.k (.slice ye Y.p.length yf)) S fun g7 H zq=> ?_
     replace B:=B.ext G
     replace B:=B.aM H S (by decide)
     replace E:=E.aM H S (by decide)
     replace S:=zq
     refine mP 65535 [15] [.int .i64 r]<|mE [(10,pV b6.size),(11,.int .i64 r)] fun a w=>tK<|cS<|qP [(81,.bool (decide (r=(0:Int))))] w fun a w=>cJ 81 w (fun e1=> ?_) fun e1=> ?_
     ·refine qS w ?_
      replace A:=(A.ext G).grew H (g.l 0)
      replace kt:=(kt.ext G).grew H (g.zero 0 rfl U)
      replace d:=(d.ext G).k H (g.ap 2 0)
      replace t:=(t.ext G).k H (g.ap 1 0)
      refine tG 4 (d_ _ (cal (L.take k)) a2 (cal (L.take k)).length _ _ _ _ (qM (cal (L.take k)) []) (fun _=>0) d.row rfl t.row Q kt (by omega) rfl (sP Q b7 B (fun o Z=>(W o Z).1.ext A) a8) [] (mD _)) ?_
      rintro _ g8 ⟨jd,jc,rfl,_,f3⟩
      refine sT [(4,.bool true)] fun a w=>cR (yT ?_)
      refine rT 4 (.bool true) w ?_
      replace A:=A.ext f3
      exact⟨rfl,A⟩
     ·refine cN<|tK<|qS w<|tR 2 S<|tI 3 ao ((cal (L.take k)).length) 75 q (q*75) ?_
      replace A:=(A.ext G).grew H (g.l 0)
      replace kt:=(kt.ext G).grew H (g.zero 0 rfl U)
      replace d:=(d.ext G).k H (g.ap 2 0)
      replace t:=(t.ext G).k H (g.ap 1 0)
      replace g:=(g.up G.size).up H.size
      refine tF 4 (Does.cH (a:=ao) (q:=(q*75)) (vs:=(mq ⟨Y,ya,yc,yb,yd,ye,yf⟩)) (by kernel_rfl) t (by show q*75+75≤_;omega) (List.all_eq_true.1 (show(mq _).all _=true by rfl))) ?_
      rintro _ i0 ⟨rfl,R,b2⟩
      replace B:=B.eJ b2 t (ae ..) (by decide)
      replace E:=E.eJ b2 t (ae ..) (by decide)
      replace t:=R;clear R
      rw[fH jU a1] at t
      refine sT [] fun a w=>qS w ?_
      replace A:=A.grew b2 (g.l 1)
      replace kt:=kt.grew b2 (g.zero 1 rfl U)
      replace d:=d.k b2 (g.ap 2 1)
      refine tG 4 (d_ _ (cal (L.take k)) (a2.set q ⟨Y,ya,yc,yb,yd,ye,yf⟩) (cal (L.take k)).length _ _ _ _ (qM (cal (L.take k)) []) (fun k=>if k=q then r else 0) d.row rfl t.row (by rw[List.length_set,Q]) kt (by omega) rfl (yV (p:=p) (b:=b0+1) c9 Q b7 B (fun o Z=>(W o Z).1.ext A) a8 (E _ (List.mem_singleton.2 rfl)) a3 (by omega) (by omega) (by rw[I,hX];exact htu) (by omega)) [(((q:Nat):Int),r)] (yU a3 (by omega))) ?_
      rintro _ e2 ⟨jd,jc,rfl,rj,f4⟩
      refine tN 8 (.slice (some ⟨e2.size,0,none⟩) 1 1) #[nV q,.int .i64 r] 52 fun i1 e3 f5=> ?_
      replace A:=A.ext f4
      replace A:=A.ext e3
      replace rj:=rj.ext e3
      exact tC 9 (.bool true) (Does.call (f:=14) (args:= #[.slice jd 1 jc,.slice (some ⟨e2.size,0,none⟩) 1 1]) (by kernel_rfl) (fV _ (((q:Nat):Int),r) _ _ _ _ rj (Row.blk (n:=1) (sz:=2) (l:=dA [(((q:Nat):Int),r)]) f5 rfl)))<|sT [(4,.bool true)] fun a w=>cR<|rT 4 (.bool true) w<|⟨rfl,A⟩
end Go.Proofs.YtegkejcglfgpmaaGreatDoor
end
section
namespace Go.Proofs.YtegkejcglfgpmaaGreatDoor.modelTurned
open Go.ChangeShapes Go.WideShapes Go.ChangeAt Go.RowKit
set_option maxRecDepth 100000 in
/-- WHAT THE WALK GIVES, for every argument and every world that holds the table. -/
theorem contract(H:Type)(enc:TypeId×Value→H)(W:World)(base:Nat)(args:Array Value)(ds gs:List (DataW H))(before:List MemPlace)
    (hval:∀(j:Nat) t v,Tryz.f4.params[j]? =some t→args[j]? =some v→Value.okWide Tryz.prog W .any base t v)
    (hW:DataW.Whole enc Tryz.prog Tryz.f4.params.toList Rows.modelTurnedSpec.vars false W args.toList ds gs before) (hk:Rows.uptoSmall H (ds++gs)=true) (hL:laidMetH Tryz.prog Rows.modelTurnedUptoRow.laid W):
    Calls Tryz.prog 4 args W fun e W'=>∃v,e= .returned v∧Rows.modelTurnedSpec.post enc Tryz.prog Tryz.f4 false true false false W args v W':=by
  have hW':=hW
  obtain⟨p,q,hA0,hV,rfl,hfz,hnd⟩:=hW
  have hA:DataW.TrodAll enc Tryz.prog W 0 (fun _=>true) true Tryz.f4.params.toList args.toList ds p:=hA0
  rw[show Tryz.f4.params.toList =[22,31] from rfl] at hA
  obtain⟨v0,vs0,d0,ds0,p0,q0,hargs,rfl,rfl,h0,r0⟩:=trodAll_cons hA
  obtain⟨v1,vs1,d1,ds1,p1,q1,rfl,rfl,rfl,h1,r1⟩:=trodAll_cons r0
  obtain⟨rfl,rfl,rfl⟩:=trodAll_nil r1
  obtain rfl:args= #[v0,v1]:=by cases args;simp_all
  obtain⟨rfl,rfl⟩:=trodVars_none hV
  have Dn:=tp.bound hk
  simp only[List.append_nil,Rows.uptoBulkAll] at Dn
  have kt:aL.bq W.heap :=zj hL
  have hO:BE Tryz.prog 35 3 9 32 5 33:=⟨by kernel_rfl,by kernel_rfl,by kernel_rfl,by kernel_rfl,by kernel_rfl,by kernel_rfl,by kernel_rfl,by kernel_rfl,by kernel_rfl,by kernel_rfl,by kernel_rfl,by kernel_rfl⟩
  obtain⟨la,lc,L,rfl,hl,ho,hlb⟩:=vY hO (by kernel_rfl) (hval 0 22 v0 rfl rfl) h0
  have hQ:B8 Tryz.prog 31 3:=⟨by kernel_rfl,by kernel_rfl,by kernel_rfl,by kernel_rfl⟩
  obtain⟨y,rfl,hy⟩:=yI hQ (hval 1 31 v1 rfl rfl) h1
  refine(v_ W.heap L la lc hl (fun o h=>⟨(ho o h).1,by have:=(ho o h).2;omega⟩) (by omega) y.dark y.full y.work hy.d1 hy.d2 hy.f1 hy.f2 hy.w1 hy.w2 kt W rfl).mono fun e W' ⟨v,he,sm,hv,ex⟩=> ?_
  subst hv
  exact⟨_,he,wF laidOut rfl (by kernel_rfl) (fun t ht=>by
    simp only[show Tryz.f4.params.toList =[22,31] from rfl,List.mem_cons,List.not_mem_nil,or_false] at ht
    rcases ht with rfl|rfl
    · exact⟨by kernel_rfl,of_decide_eq_true (by kernel_rfl)⟩
    · exact⟨by kernel_rfl,of_decide_eq_true (by kernel_rfl)⟩) rfl rfl rfl rfl hW' (wE sm ex)⟩
noncomputable def uJ:Value:= .agg (aL.Cf ⟨0,0,0⟩).toArray
def Dp{H:Type}:DataW H:= .agg [.lit (.int .i64 0), .lit (.int .i64 0), .lit (.int .i64 0)]
noncomputable def laidWorld(os:Os):World:=
  {World.holding Tryz.prog os ⟨#[], #[],[]⟩ with heap:=(World.holding Tryz.prog os ⟨#[], #[],[]⟩).heap.modify 0 fun
      | .cells _ t frozen=> .cells (aL.fZ.map aL.wv).toArray t frozen
      |o=>o}
theorem laid_met(os:Os):laidMet Tryz.prog Rows.modelTurnedUptoRow.laid ((laidWorld os).forCall (fun _ _=>0) ⟨#[], #[.slice none 0 0,uJ],[]⟩).memory :=
  laidMet_of_run' 8 (by kernel_rfl) (by kernel_rfl)
theorem reads(os:Os){H:Type}(enc:TypeId×Value→H):∃places,DataW.whole enc Tryz.prog ((laidWorld os).forCall (fun _ _=>0) ⟨#[], #[.slice none 0 0,uJ],[]⟩).memory Tryz.f4.params.toList Rows.modelTurnedSpec.vars false (#[.slice none 0 0,uJ]:Array Value).toList 8=some ([.nil,Dp],[],places):=
  ⟨[],by kernel_rfl⟩
set_option maxRecDepth 100000 in
theorem sW(os:Os)(started:os.Started)(H:Type)(enc:TypeId×Value→H)(F:Stop.Interp):
    ReturnsInHanded {} Tryz.checked os 4 .any ((Rows.OpenSpec.upto Rows.modelTurnedSpec).preRow enc Tryz.prog Tryz.f4 Rows.modelTurnedUptoRow.domain false Rows.modelTurnedUptoRow.laid) (((Rows.OpenSpec.upto Rows.modelTurnedSpec).at F).post enc Tryz.prog Tryz.f4 false true false false):=by
  obtain⟨places,hx⟩:=reads os enc
  refine returnsInHanded_of_row (C:=Tryz.checked) (s:=Rows.OpenSpec.upto Rows.modelTurnedSpec) own started (by kernel_rfl) Tryz.func4
    (witness_row_at (enc:=enc) (C:=Tryz.checked) false (laidWorld os) #[.slice none 0 0,uJ] rfl (by kernel_rfl) (by kernel_rfl) (by kernel_rfl)
      (OpenSpec.preRow_of_cond 8 hx (by kernel_rfl) (fun k hk=>by cases hk;kernel_rfl) (by kernel_rfl) (laid_met os))) ?_
  intro W base args ds gs before hval hW _ hc _ hL _ _
  exact contract H enc W base args ds gs before hval hW (hc _ rfl) hL
theorem yW:Rows.ModelTurnedUptoSaid :=
  OpenClaim.holds_of_cond 4 Tryz.f4 rfl rfl rfl rfl rfl rfl rfl ⟨rfl,rfl,rfl,rfl,rfl⟩ rfl rfl rfl rfl rfl (by kernel_rfl) Tryz.func4 (by kernel_rfl)
    (of_decide_eq_true (by kernel_rfl)) (by unfold Func.isWrapper;first| (rw[if_pos (by decide+kernel)];kernel_rfl)| (rw[if_neg (by decide+kernel)];exact⟨rfl,rfl⟩))
    (fun os started H enc _ F=>by rw[OpenClaim.pre_eq_preRow];exact sW os started H enc F)
theorem plain(f:FuncId)(fn:Func)(hf:Tryz.pinned.checked.prog.funcNamed "muniment/munimentlaw23.ModelTurned" =some f)(hfn:Tryz.pinned.checked.prog.funcs[f]? =some fn):
    false=Tryz.pinned.checked.prog.looks []∧∀(j:Nat) t,fn.params[j]? =some t→Tryz.pinned.checked.prog.wantsStandIn t=false:=by
  obtain rfl:f=4:=Option.some.inj ((show Tryz.prog.funcNamed "muniment/munimentlaw23.ModelTurned" =some 4 by kernel_rfl).symm.trans hf) |>.symm
  obtain rfl:fn=Tryz.f4 :=(Option.some.inj (Tryz.func4.symm.trans hfn)).symm
  refine⟨by kernel_rfl,fun j t ht=> ?_⟩
  rw[show Tryz.f4.params = #[22,31] from rfl] at ht
  have hm:=Array.mem_of_getElem? ht
  simp only[List.mem_toArray,List.mem_cons,List.not_mem_nil,or_false] at hm
  rcases hm with rfl|rfl
  · exact(show Tryz.prog.wantsStandIn 22=false by kernel_rfl)
  · exact(show Tryz.prog.wantsStandIn 31=false by kernel_rfl)
theorem cardUpto:Rows.ModelTurnedUptoCardSaid :=
  Claim7.holds_tied_plain_at .later [] _ _ _ _ yW (fun _ h=>by cases h) (by kernel_rfl) (fun _ h=>by cases h) modelTurnedUpto_row_tie rfl ⟨rfl,rfl⟩ (by kernel_rfl) rfl plain (by kernel_rfl)
end Go.Proofs.YtegkejcglfgpmaaGreatDoor.modelTurned
end
