/- The walks and the plain laws, part 4: RetN, RetG, MdlE, MdlF, MdlG, MdlH, MdlSame, MdlI, MdlJ, MdlK, MdlPart, MdlL, MdlM, MdlFr, MdlSee, MdlN. Conditions: those that each theorem names. -/
import Derived.Test.YtegkejcglfgpmaaGreatDoorPm3
section
namespace Go.Proofs.YtegkejcglfgpmaaGreatDoor
open Go Go.aj Go.aN
noncomputable def LO:Code:=Tryz.f123.body.getD .skip
set_option maxHeartbeats 2000000 in
theorem rq(h:Heap)(ad:Option Addr)(cap n:Nat)(L:List Rec)(ae:Own h (.slice ad n cap) 95 n 39 (a7 L))(hLn:L.length =n)(hn:n≤1099511627776):Sat Tryz.prog 123 #[.slice ad n cap,.int .i64 ((n:Nat):Int),.func (.func 107) #[] #[]] h fun _ h'=>∃M,M.length =n∧M.Perm L∧bq M 0 n∧Own h' (.slice ad n cap) 95 n 39 (a7 M)∧Grew (ad.map (fun(x:Addr)=>x.block)) h h':=by
 have e:=Grew.refl (ad.map (fun(x:Addr)=>x.block)) h
 refine ag Tryz.func123 63 fun a b=>qP [(6,.int .i64 20)] b fun a b=>qP [(7,.int .i64 0),(8,.int .i64 20)] b fun a b=>cS<|cB 0<|cL (fun m a h'=>∃a1:Nat,∃M:List Rec,m=n - a1∧(Grew (ad.map (fun(x:Addr)=>x.block)) h h')∧(∃t,a1=t*20)∧(a1≤n)∧(M.length =n)∧(M.Perm L)∧(lW M 20 0 a1)∧(Own h' (.slice ad n cap) 95 n 39 (a7 M))∧(Fr a 63 [(0,.slice ad n cap),(1,.int .i64 ((n:Nat):Int)),(2,.func (.func 107) #[] #[]),(6,.int .i64 20),(7,.int .i64 ((a1:Nat):Int)),(8,.int .i64 ((a1+20:Nat):Int))])) (n - 0) ⟨0,L,rfl,e,⟨0,rfl⟩,(by omega),hLn,(List.Perm.refl _),(lW.nil _ _ _),ae,b.to⟩ ?_
 clear b a
 clear e
 clear hLn
 clear ae
 rintro m a r ⟨a1,M,rfl,e,hat,han,f,hP,hblk,ae,b⟩
 obtain⟨t,ht⟩:=hat
 refine cS<|qP [(13,.bool (decide (((a1+20:Nat):Int)≤((n:Nat):Int))))] b fun a b=>cJ 13 b (fun k=> ?_) fun k=> ?_
 ·refine cN<|tK<|cB 1<|qS b<|tG 4 (s5 _ ad cap n a1 (a1+20) M ae f (by omega) (by omega) (by omega)) ?_
  rintro _ u ⟨K3,hM2,hP2,hout,hs,d,g⟩
  replace e:=e.trans g
  clear ae;have ae:=d;clear d g
  replace hP:=hP2.trans hP;replace f:=hM2;replace hblk:=hblk.more ht hout hs (by omega);clear hP2 hM2 hout hs
  refine sT [] fun a b=>qP [(7,nV (a1+20))] b fun a b=>rS b<|tA 2 (a1+20) 20<|sE [(8,nV ((a1+20)+20))] fun a b=>bK ?_
  show ∃m',m'<_∧_
  refine⟨_,?_,(a1+20),K3,rfl,e,⟨t+1,by omega⟩,(by omega),f,hP,hblk,ae,b.to⟩
  omega
 ·refine cX 0 (xT (xT (xB ?_)))
  refine tK<|qS b<|tG 4 (s5 _ ad cap n a1 (n) M ae f (by omega) (by omega) (by omega)) ?_
  rintro _ v ⟨K5,hM2,hP2,hout,hs,d,g⟩
  replace e:=e.trans g
  clear ae;have ae:=d;clear d g
  replace hP:=hP2.trans hP;replace f:=hM2;replace hblk:=hblk.more ht hout hs (by omega);clear hP2 hM2 hout hs
  refine sT [] fun a b=>cB 2<|cL (fun m a h'=>∃s:Nat,∃M:List Rec,m=n - s∧(Grew (ad.map (fun(x:Addr)=>x.block)) h h')∧(20≤s)∧(M.length =n)∧(M.Perm L)∧(lW M s 0 n)∧(Own h' (.slice ad n cap) 95 n 39 (a7 M))∧(Fr a 63 [(0,.slice ad n cap),(1,.int .i64 ((n:Nat):Int)),(2,.func (.func 107) #[] #[]),(6,.int .i64 ((s:Nat):Int))])) (n - 20) ⟨20,K5,rfl,e,(by omega),f,hP,hblk,ae,b.to⟩ ?_
  clear b a
  clear e
  clear f
  clear hP
  clear hblk
  clear ae
  rintro m a w ⟨s,M,rfl,e,NH,f,hP,hblk,ae,b⟩
  refine cS<|qP [(30,.bool (decide (((s:Nat):Int)<((n:Nat):Int))))] b fun a b=>cJ 30 b (fun l=> ?_) fun l=> ?_
  ·refine cN<|tK<|cB 3<|qS b<|t1 1 (.int .i64 ((2*s:Nat):Int)) (.int .i64 (IntKind.i64.wrap (2*((s:Nat):Int)))) (congrArg (Value.int .i64) (fY (by omega) (by omega) (by omega)))<|sT [(7,.int .i64 0),(8,nV (2*s))] fun a b=>cS ?_
   refine cB 4 ?_
   have o:2*s=0+2*s:=(Nat.zero_add _).symm;rw[o] at b
   refine cL (fun m a h'=>∃a1:Nat,∃M:List Rec,m=n+2*s - a1∧(Grew (ad.map (fun(x:Addr)=>x.block)) h h')∧(∃t,a1=t*(2*s))∧(a1≤n)∧(M.length =n)∧(M.Perm L)∧(lW M (2*s) 0 a1)∧(lW M s a1 n)∧(Own h' (.slice ad n cap) 95 n 39 (a7 M))∧(Fr a 63 [(0,.slice ad n cap),(1,.int .i64 ((n:Nat):Int)),(2,.func (.func 107) #[] #[]),(6,.int .i64 ((s:Nat):Int)),(7,.int .i64 ((a1:Nat):Int)),(8,.int .i64 ((a1+2*s:Nat):Int))])) (n+2*s - 0) ⟨0,M,rfl,e,⟨0,by rw[Nat.zero_mul]⟩,(by omega),f,hP,(lW.nil _ _ _),hblk,ae,b.to⟩ ?_
   clear b a
   clear e
   clear f
   clear hP
   clear hblk
   clear ae
   rintro m a y ⟨a1,M,rfl,e,hat,han,f,hP,hd,hr,ae,b⟩
   obtain⟨t,ht⟩:=hat
   refine cS<|qP [(35,.bool (decide (((a1+2*s:Nat):Int)≤((n:Nat):Int))))] b fun a b=>cJ 35 b (fun i=> ?_) fun i=> ?_
   ·refine cN<|tK<|cB 5<|qS b<|tA 4 a1 s ?_
    obtain⟨hr1,hr2⟩:=hr.two (c:=a1+2*s) ht (by omega) (by omega) (by omega)
    refine tG 7 (s8 ad cap n hn _ a1 (a1+s) (a1+2*s) M ae f (by omega) (by omega) (by omega) hr1 hr2) ?_
    rintro _ p ⟨NI,hm,d,g⟩
    replace e:=e.trans g
    clear ae;have ae:=d;clear d g
    replace hP:=hm.perm.trans hP;replace f:=hm.len;clear hr1 hr2
    replace hd:=hd.more ht hm.out hm.fQ (by omega);replace hr:=hr.rest (by omega) hm.out;clear hm
    refine sT [] fun a b=>qP [(7,nV (a1+2*s))] b fun a b=>rS b<|t1 2 (.int .i64 ((2*s:Nat):Int)) (.int .i64 (IntKind.i64.wrap (2*((s:Nat):Int)))) (congrArg (Value.int .i64) (fY (by omega) (by omega) (by omega)))<|tA 3 (a1+2*s) (2*s)<|sE [(8,nV ((a1+2*s)+(2*s)))] fun a b=>bK ?_
    show ∃m',m'<_∧_
    refine⟨_,?_,(a1+2*s),NI,rfl,e,⟨t+1,by rw[ht,Nat.add_mul,Nat.one_mul]⟩,(by omega),f,hP,hd,hr,ae,b.to⟩
    omega
   ·refine cX 4 (xT (xT (xB ?_)))
    refine tK<|cS<|qS b<|tA 2 a1 s<|sT [(9,nV (a1+s))] fun a b=>qP [(54,.bool (decide (((a1+s:Nat):Int)<((n:Nat):Int))))] b fun a b=>cJ 54 b (fun j=> ?_) fun j=> ?_
    ·refine rS b ?_
     obtain⟨hr1,hr2⟩:=hr.two (c:=n) ht (by omega) (by omega) (by omega)
     refine tG 5 (s8 ad cap n hn _ a1 (a1+s) (n) M ae f (by omega) (by omega) (by omega) hr1 hr2) ?_
     rintro _ q ⟨NJ,hm,d,g⟩
     replace e:=e.trans g
     clear ae;have ae:=d;clear d g
     replace hP:=hm.perm.trans hP;replace f:=hm.len;clear hr1 hr2
     have hblk2:=hd.more ht hm.out hm.fQ (by omega)
     refine sE [] fun a b=>tK<|rS b<|t1 1 (.int .i64 ((s*2:Nat):Int)) (.int .i64 (IntKind.i64.wrap (((s:Nat):Int)*2))) (congrArg (Value.int .i64) (fY (by omega) (by omega) (by omega)))<|sE [(6,nV (s*2))] fun a b=>bK ?_
     show ∃m',m'<_∧_
     refine⟨_,?_,(s*2),NJ,rfl,e,(by omega),f,hP,(Nat.mul_comm 2 s▸hblk2),ae,b.to⟩
     omega
    ·have hblk2:=hd.more (c:=n) ht (fun _ _=>rfl) (hr.one ht (by omega)) (by omega)
     refine cN<|tK<|rS b<|t1 1 (.int .i64 ((s*2:Nat):Int)) (.int .i64 (IntKind.i64.wrap (((s:Nat):Int)*2))) (congrArg (Value.int .i64) (fY (by omega) (by omega) (by omega)))<|sE [(6,nV (s*2))] fun a b=>bK ?_
     show ∃m',m'<_∧_
     refine⟨_,?_,(s*2),M,rfl,e,(by omega),f,hP,(Nat.mul_comm 2 s▸hblk2),ae,b.to⟩
     omega
  ·refine cX 2 (xT (xT (xB ?_)))
   exact n0 b<|⟨M,f,hP,hblk.all (by omega),ae,e⟩
noncomputable def LP:Code:=Tryz.f106.body.getD .skip
theorem w_(h:Heap)(ad:Option Addr)(cap n:Nat)(L:List Rec)(ae:Own h (.slice ad n cap) 95 n 39 (a7 L))(hLn:L.length =n)(hn:n≤1099511627776):Sat Tryz.prog 106 #[.slice ad n cap,.func (.func 107) #[] #[]] h fun _ h'=>∃M,M.length =n∧M.Perm L∧bq M 0 n∧Own h' (.slice ad n cap) 95 n 39 (a7 M)∧Grew (ad.map (fun(x:Addr)=>x.block)) h h':=by
 refine ag Tryz.func106 9 fun a c=>rS c<|tG 4 (rq _ ad cap n L ae hLn hn) ?_
 rintro _ f ⟨M,d,hP,hs,b,e⟩
 exact sE [] fun a c=>n0 c<|⟨M,d,hP,hs,b,e⟩
theorem uO:Sorts Tryz.prog 106 (.func (.func 107) #[] #[]) 95 1099511627776:=fun h ad cap n L o hL hn _=>w_ h ad cap n L o hL hn
theorem del_any(h:Heap)(r:Rec)(now:Int)(ok:mK h r):Sat Tryz.prog 70 #[.agg (rcs r).toArray,.int .i64 now] h fun v h'=>∃(w:Rec) (z:Int),v= .tuple #[.agg (rcs w).toArray,.int .i64 z]∧(z=0↔o9 now r)∧Ext h h':=by
 obtain⟨P,hP,hr,hn⟩:=ok
 obtain⟨x,e,ho,go,ad,n,cap⟩:=r
 simp only at hP hr hn
 subst hP
 cases go with
 |true=>exact(pI h x e ho P ad cap now).mono fun v h' ⟨e1,g⟩=>⟨ai,213,e1,by simp[o9],g⟩
 | false =>
  cases ho with
  |true=>exact(pJ h x e P ad cap now).mono fun v h' ⟨e1,g⟩=>⟨ai,214,e1,by simp[o9],g⟩
  |false=>
   by_cases hu:e≤now
   ·exact(wY h x e P ad cap hr hn now hu).mono fun v h' ⟨e1,g⟩=>⟨⟨x,e,false,true,none,0,0⟩,0,e1,by simp[o9,hu],g⟩
   ·exact(pK h x e P ad cap now (by omega)).mono fun v h' ⟨e1,g⟩=>⟨ai,214,e1,by simp[o9,hu],g⟩
noncomputable def b72:Code:=Tryz.f72.body.getD .skip
set_option maxHeartbeats 1000000 in
theorem Ay(h:Heap)(L:List Rec)(va:Option Addr)(vc:Nat)(now:Int)(K:Nat)(hsort:Sorts Tryz.prog 106 (.func (.func 107) #[] #[]) 95 K)(hr:Row h (.slice va L.length vc) L.length 39 (a7 L))(hL:L.length ≤1099511627776)(hok:∀r∈L,mK h r)(hK:(L.filter (dI now)).length ≤K):Sat Tryz.prog 72 #[.slice va L.length vc,.int .i64 now] h fun v h'=>∃(M:List Rec) (ad:Option Addr) (cap:Nat),M.Perm (L.filter (dI now))∧bq M 0 M.length ∧v= .slice ad M.length cap∧Own h' (.slice ad M.length cap) 9 M.length 1 ((ids M).map Value.string)∧(∀k,ad.map (fun(x:Addr)=>x.block)=some k→h.size ≤k)∧Ext h h':=by
 have o:=Ext.refl h
 have c:Sep h.size h.size []:=Sep.nil _ _
 refine ag Tryz.func72 50 fun a f=>qP [] f fun a f=>qP [(5,.slice none 0 0)] f fun a f=>cS<|qP [(13,.slice va L.length vc),(14,nV L.length),(15,.int .i64 0)] f fun a f=>cB 0 ?_
 have d:Own h (.slice none 0 0) 95 0 39 (a7 []):=Own.nil _ _ _
 have u:=o.size
 replace c:=c.none u;clear u
 refine cL (fun m a h'=>∃i:Nat,∃D:List Rec,∃ad:Option Addr,∃cap:Nat,m=L.length - i∧(Ext h h')∧(i≤L.length)∧((L.take i).filter (dI now)=D)∧(Own h' (.slice ad D.length cap) 95 D.length 39 (a7 D))∧(Sep h.size h'.size [ad.map (·.block)])∧(Fr a 50 [(1,.int .i64 now),(5,.slice ad D.length cap),(13,.slice va L.length vc),(14,.int .i64 ((L.length :Nat):Int)),(15,.int .i64 ((i:Nat):Int))])) (L.length - 0) ⟨0,[],none,0,rfl,o,(by omega),rfl,d,c,f.to⟩ ?_
 clear f a
 clear o
 clear d
 clear c
 rintro m a h1 ⟨i,D,ad,cap,rfl,o,hi,hD,d,c,f⟩
 refine qP [(16,.bool (decide (((i:Nat):Int)<((L.length :Nat):Int))))] f fun a f=>cS<|cJ 16 f (fun hc2=> ?_) fun hc2=> ?_
 ·have hia:i<L.length :=by omega
  have hDl:=nU hD
  obtain⟨aa,rfl,bW⟩:=hr.bg (by omega)
  refine cN<|tK<|cS<|cB 1<|qS f<|tI 0 aa L.length 39 i (i*39)<|tY 1 i ai bf (hr.ext o) ?_
  refine tN 2 (pV h1.size) ((bY).toArray) 95 fun h3 g4 t=> ?_
  replace c:=c.nw o.size t
  refine bA 3 (rcs (L.getD i ai)) t fun h6 X zq=> ?_
  replace t:=zq
  refine sT [(7,pV h1.size)] fun a f=>qS f<|tO 1 35 t<|sT [(21,.bool (decide ((0:Int)<((L.getD i ai).e))))] fun a f=>cJ 21 f (fun Q=> ?_) fun Q=> ?_
  ·have hpos:=Q
   refine qS f<|tR 0 t ?_
   replace o:=(o.ext g4).grew X (c.l 0)
   refine tG 2 (del_any _ (L.getD i ai) now ((hok _ (getD_mem hia)).ext o)) ?_
   rintro _ h9 ⟨w,z,rfl,hz,g⟩
   replace d:=(d.ext g4).k X (c.ap 1 0)
   replace c:=c.up X.size
   replace o:=o.ext g
   replace d:=d.ext g
   replace t:=t.x g
   replace c:=c.up g.size
   clear g
   refine tN 6 (pV h9.size) ((bY).toArray) 95 fun h10 A I=> ?_
   replace c:=c.nw o.size I
   refine bA 7 (rcs w) I fun h13 q zq=>sT [(9,.int .i64 z)] fun a f=>qP [(29,.bool (decide (z=(0:Int))))] f fun a f=>cJ 29 f (fun B=> ?_) fun B=> ?_
   ·have hD2:=wc hia hD (ji.2 ⟨hpos,hz.1 B⟩)
    refine rS f ?_
    replace t:=(t.x A).y q (c.bp 1 0)
    refine tR 1 t<|tN 2 (.slice (some ⟨h13.size,0,none⟩) 1 1) ((a7 [L.getD i ai]).toArray) 95 fun h16 Y R=> ?_
    replace o:=(o.ext A).grew q (c.l 0)
    replace c:=(c.up q.size).nw o.size R
    replace d:=((d.ext A).k q (c.ap 3 1)).ext Y
    refine tP 3 ((D++[L.getD i ai]).length) 104 (a7 (D++[L.getD i ai])) d (Row.blk (n:=1) (sz:=39) (l:=a7 [L.getD i ai]) R rfl) (ed _) (fun C E h23 d Z N=> ?_) (ys:=(a7 ([L.getD i ai]))) (hZ:=by first|rfl|exact List.flatMap_append.symm |simp[a7])
    replace o:=o.ext Y
    have s24:=c
    replace c:=c.sa Z 3 N d o.size;clear N
    refine sE [(5,.slice C ((D++[L.getD i ai]).length) E)] fun a f=>bK<|tK<|rS f<|tA 0 i 1<|sE [(15,nV (i+1))] fun a f=> ?_
    clear t
    clear I
    clear R
    replace o:=o.grew Z (s24.l 3)
    replace c:=c.sub (l':=[C.map (·.block)]) (.cons _ (.cons _ (.cons _ (.cons_cons _ (.slnil)))))
    show ∃m',m'<_∧_
    refine⟨_,?_,(i+1),(D++[L.getD i ai]),C,E,rfl,o,(by omega),hD2,d,c,f.to⟩
    omega
   ·have hD2:=mM hia hD (kJ (now:=now) (fun hb=>B (hz.2 hb)))
    refine cN<|bK<|tK<|rS f<|tA 0 i 1<|sE [(15,nV (i+1))] fun a f=> ?_
    clear t
    clear I
    replace o:=(o.ext A).grew q (c.l 0)
    replace d:=(d.ext A).k q (c.ap 2 0)
    replace c:=c.up q.size
    replace c:=c.sub (l':=[ad.map (·.block)]) (.cons _ (.cons _ (.cons_cons _ (.slnil))))
    show ∃m',m'<_∧_
    refine⟨_,?_,(i+1),D,ad,cap,rfl,o,(by omega),hD2,d,c,f.to⟩
    omega
  ·have hD2:=mM hia hD (ly (now:=now) Q)
   refine cN<|bK<|tK<|rS f<|tA 0 i 1<|sE [(15,nV (i+1))] fun a f=> ?_
   clear t
   replace o:=(o.ext g4).grew X (c.l 0)
   replace d:=(d.ext g4).k X (c.ap 1 0)
   replace c:=c.up X.size
   replace c:=c.sub (l':=[ad.map (·.block)]) (.cons _ (.cons_cons _ (.slnil)))
   show ∃m',m'<_∧_
   refine⟨_,?_,(i+1),D,ad,cap,rfl,o,(by omega),hD2,d,c,f.to⟩
   omega
 ·obtain rfl:i=L.length :=by omega
  rw[List.take_length] at hD
  refine cX 0 (xT (xT (xB ?_)))
  refine tK<|qS f ?_
  have hfl:D.length ≤L.length :=by rw[←hD];exact List.length_filter_le _ _
  refine tG 1 (hsort _ _ _ _ _ d rfl (by rw[←hD];exact hK) (by omega)) ?_
  rintro _ wG ⟨M,hM,hP,hS,O,g⟩
  replace o:=o.grew g (c.l 0)
  replace c:=c.up g.size
  clear d;have d:=O;clear O g
  refine sT [] fun a f=>qP [(10,.slice none 0 0)] f fun a f=>cS<|qP [(37,.slice ad D.length cap),(38,nV D.length),(39,.int .i64 0)] f fun a f=>cB 2 ?_
  have j:Own wG (.slice none 0 0) 9 0 1 ((ids (M.take 0)).map Value.string):=Own.nil _ _ _
  have u:=o.size
  replace c:=c.none u;clear u
  refine cL (fun m a h'=>∃i:Nat,∃s:Option Addr,∃p:Nat,m=D.length - i∧(Ext h h')∧(i≤D.length)∧(Own h' (.slice s i p) 9 i 1 ((ids (M.take i)).map Value.string))∧(Own h' (.slice ad D.length cap) 95 D.length 39 (a7 M))∧(Sep h.size h'.size [s.map (·.block),ad.map (·.block)])∧(Fr a 50 [(10,.slice s i p),(37,.slice ad D.length cap),(38,.int .i64 ((D.length :Nat):Int)),(39,.int .i64 ((i:Nat):Int))])) (D.length - 0) ⟨0,none,0,rfl,o,(by omega),j,d,c,f.to⟩ ?_
  clear f a
  clear o
  clear j
  clear d
  clear c
  rintro m a kg ⟨i,s,p,rfl,o,hi,j,d,c,f⟩
  refine qP [(40,.bool (decide (((i:Nat):Int)<((D.length :Nat):Int))))] f fun a f=>cS<|cJ 40 f (fun hc27=> ?_) fun hc27=> ?_
  ·have hia:i<D.length :=by omega
   obtain⟨ab,rfl,ov⟩:=d.bg (by omega)
   refine cN<|tK<|cS<|cB 3<|qS f<|tI 0 ab D.length 39 i (i*39)<|tY 1 i ai bf (d.row) ?_
   refine tN 2 (pV kg.size) ((bY).toArray) 95 fun h28 S F=> ?_
   replace c:=c.nw o.size F
   refine bA 3 (rcs (M.getD i ai)) F fun h31 J zq=> ?_
   replace F:=zq
   refine sT [(12,pV kg.size)] fun a f=>rS f<|tO 2 0 F<|tN 3 (.slice (some ⟨h31.size,0,none⟩) 1 1) #[.string (((M.getD i ai).b).id)] 9 fun zc T U=> ?_
   replace o:=(o.ext S).grew J (c.l 0)
   replace c:=(c.up J.size).nw o.size U
   replace j:=((j.ext S).k J (c.ap 2 1)).ext T
   refine tP 4 (i+1) 16 ((ids (M.take i)++[((M.getD i ai).b).id]).map Value.string) j (Row.blk (n:=1) (sz:=1) (l:=[((M.getD i ai).b).id].map Value.string) U rfl) (jj _) (fun G H yZ j V P=> ?_) (ys:=(([((M.getD i ai).b).id]).map Value.string))
   replace o:=o.ext T
   have W:=c
   replace c:=c.sa V 2 P j o.size;clear P
   refine sE [(10,.slice G (i+1) H)] fun a f=>bK<|tK<|rS f<|tA 0 i 1<|sE [(39,nV (i+1))] fun a f=> ?_
   rw[we (by omega)] at j
   clear F
   clear U
   replace d:=(((d.ext S).k J (W.ap 3 1)).ext T).k V (W.ap 3 2)
   replace o:=o.grew V (W.l 2)
   replace c:=c.sub (l':=[G.map (·.block),(some ab:Option Addr).map (·.block)]) (.cons _ (.cons _ (.cons_cons _ (.cons_cons _ (.slnil)))))
   show ∃m',m'<_∧_
   refine⟨_,?_,(i+1),G,H,rfl,o,(by omega),j,d,c,f.to⟩
   omega
  ·refine cX 2 (xT (xT (xB ?_)))
   refine tK<|qP [(4,.slice s i p)] f fun a f=>cR<|rT 4 (.slice s i p) f ?_
   obtain rfl:i=D.length :=by omega
   rw[←hM,List.take_length] at j
   rw[←hM]
   exact⟨M,s,p,hD▸hP,by rw[hM];exact hS,rfl,j,c.low 0 rfl,o⟩
noncomputable def b37:Code:=Tryz.f37.body.getD .skip
theorem lL{W:Nat→Prop}(h:Heap)(mb mp:Nat)(M:Md)(L:List bV)(ck:Nat)(ea:Option Addr)(ec:Nat)(es:List Value)(md:bH W h mb mp M L ck ea ec es)(kt:bl h)(hE:M.E.length ≤1099511627):Sat Tryz.prog 37 #[.pointer (some ⟨mb,0,none⟩)] h fun v h'=>∃ad cap,v= .slice ad M.E.length cap∧Own h' (.slice ad M.E.length cap) 39 M.E.length 32 (hcs (cE M.E))∧(∀k,ad.map (fun(x:Addr)=>x.block)=some k→h.size ≤k)∧Ext h h':=by
 have hm:=md.hm
 have f:=Ext.refl h
 have u:=kt.lt
 have c:Sep h.size h.size []:=Sep.nil _ _
 refine ag Tryz.func37 22 fun a d=>qP [] d fun a d=>qP [(3,.slice none 0 0)] d fun a d=>cS<|qS d<|tO 3 1 (f.blk hm)<|sT [(9,.slice ea M.E.length ec),(10,nV M.E.length),(11,.int .i64 0)] fun a d=> ?_
 refine cB 0 ?_
 have b:Own h (.slice none 0 0) 39 0 32 (hcs (cE (M.E.take 0))):=Own.nil _ _ _
 have g:=f.size
 replace c:=c.none g;clear g
 refine cL (fun m a h'=>∃k:Nat,∃ad:Option Addr,∃cap:Nat,m=M.E.length - k∧(Ext h h')∧(bl h')∧(k≤M.E.length)∧(Own h' (.slice ad k cap) 39 k 32 (hcs (cE (M.E.take k))))∧(Sep h.size h'.size [ad.map (·.block)])∧(Fr a 22 [(3,.slice ad k cap),(9,.slice ea M.E.length ec),(10,.int .i64 ((M.E.length :Nat):Int)),(11,.int .i64 ((k:Nat):Int))])) (M.E.length - 0) ⟨0,none,0,rfl,f,kt,(by omega),b,c,d.to⟩ ?_
 clear d a
 clear f
 clear kt
 clear b
 clear c
 rintro m a F ⟨k,ad,cap,rfl,f,kt,hk,b,c,d⟩
 refine qP [(12,.bool (decide (((k:Nat):Int)<((M.E.length :Nat):Int))))] d fun a d=>cS<|cJ 12 d (fun w=> ?_) fun w=> ?_
 ·have y:k<M.E.length :=by omega
  obtain⟨e,he⟩:∃e,M.E[k]? =some e:=⟨_,List.getElem?_eq_getElem y⟩
  obtain⟨hel,xa,xc,hes,hrx⟩:=md.en.2 k e he
  obtain⟨aa,rfl,bW⟩:=md.er.1.1.bg (by omega)
  refine cN<|tK<|cS<|cB 1<|qS d<|tI 0 aa M.E.length 1 k k<|tC 1 (.slice xa e.length xc) (Calm.load (T:=32) (p:=(Addr.add aa k)) (by kernel_rfl) (Loads.one (k:=1) (by kernel_rfl) ((md.er.1.1.ext f).cells _ _ hes))) ?_
  refine sT [(5,.slice xa e.length xc)] fun a d=>rS d<|tG 2 (pk _ e xa xc (hrx.1.1.ext f) (hrx.1.1.ext f).MD kt (by omega)) ?_
  rintro _ B ⟨rfl,s⟩
  refine tF 3 (Does.newHs (L:=[cH e]) (t:=45) (E:=39) (dV:=32) (n:=1) (by kernel_rfl) (by kernel_rfl) (aq.cons (dp _) aq.nil) rfl (by decide) (by decide)) ?_
  rintro _ C ⟨rfl,hh⟩
  have z:Ext B C:=aY hh
  have A:C[B.size]? =some (.cells (hcs [cH e]).toArray 39):=bj hh
  clear hh
  replace f:=f.ext s
  have g:=f.size
  replace c:=c.up s.size
  have a8:=c
  replace c:=a8.new g (ak A)
  clear a8 g
  replace b:=(b.ext s).ext z
  refine tP 4 (k+1) 32 (hcs (cE (M.E.take k)++[cH e])) b (hrow1 (dp _) A) (dF _) (fun o i D b q j=> ?_) (ys:=(hcs ([cH e]))) (hZ:=by first|rfl|exact(bh _ _).symm |simp[bh])
  replace f:=f.ext z
  have r:=c
  replace c:=c.sa q 1 j b f.size;clear j
  refine sE [(3,.slice o (k+1) i)] fun a d=>bK<|tK<|rS d<|tA 0 k 1<|sE [(11,nV (k+1))] fun a d=> ?_
  rw[mW he] at b
  clear A
  replace kt:=((kt.ext s).ext z).grew q (r.zero 1 rfl u)
  replace f:=f.grew q (r.l 1)
  replace c:=c.sub (l':=[o.map (·.block)]) (.cons _ (.cons_cons _ (.slnil)))
  show ∃m',m'<_∧_
  refine⟨_,?_,(k+1),o,i,rfl,f,kt,(by omega),b,c,d.to⟩
  omega
 ·refine cX 0 (xT (xT (xB ?_)))
  refine tK<|qP [(2,.slice ad k cap)] d fun a d=>cR<|rT 2 (.slice ad k cap) d ?_
  obtain rfl:k=M.E.length :=by omega
  rw[List.take_length] at b
  exact⟨ad,cap,rfl,b,c.low 0 rfl,f⟩
noncomputable def b35:Code:=Tryz.f35.body.getD .skip
theorem Dd{h h2:Heap}{M:Md}{aB:bV→OA}{L D:List bV}(hg:∀x∈L,q3 h M aB x)(hP:D.Perm L){r:Rec}(hr:r∈D.map (aL aB)):mK h2 r:=by
 obtain⟨x,hx,rfl⟩:=List.mem_map.1 hr
 exact⟨[],rfl,(hg x (hP.mem_iff.1 hx)).rc.zero rfl,Nat.zero_le _⟩
set_option maxHeartbeats 1000000 in
theorem Az{W:Nat→Prop}(h:Heap)(mb mp:Nat)(M:Md)(L:List bV)(ck:Nat)(ea:Option Addr)(ec:Nat)(es:List Value)(md:bH W h mb mp M L ck ea ec es)(hE:M.E.length ≤1099511627):Sat Tryz.prog 35 #[.pointer (some ⟨mb,0,none⟩),.bool false] h fun v h'=>∃ad cap,v= .slice ad (iJ M).length cap∧Own h' (.slice ad (iJ M).length cap) 9 (iJ M).length 1 ((iJ M).map Value.string)∧(∀k,ad.map (fun(x:Addr)=>x.block)=some k→h.size ≤k)∧Ext h h':=by
 have hm:=md.hm
 have hp:=md.hp
 obtain⟨aB,hg⟩:=md.choose
 have hLn:=md.ln
 have j:=Ext.refl h
 have d:Sep h.size h.size []:=Sep.nil _ _
 refine ag Tryz.func35 42 fun a i=>qP [] i fun a i=>qP [(5,.slice none 0 0)] i fun a i=>qP [(6,.slice none 0 0)] i fun a i=>cS<|qS i<|tO 3 0 (j.blk hm) ?_
 refine tF 4 (Does.range (t:=81) (k:=9) (el:=101) (by kernel_rfl) (by kernel_rfl) (j.blk hp)) ?_
 rintro _ Y ⟨rfl,hh⟩
 have g:=aY hh
 have hit:=bj hh
 have C:=j.size
 have a8:=d
 replace j:=j.ext g
 replace d:=a8.new C (ak hit)
 clear a8 C hh g
 refine sT [(13,pV h.size)] fun a i=>cB 0 ?_
 have f:Own Y (.slice none 0 0) 95 0 39 (a7 (([]:List bV).map (aL aB))):=Own.nil _ _ _
 have c:Own Y (.slice none 0 0) 9 0 1 ((live (([]:List bV).map (aL aB))).map Value.string):=Own.nil _ _ _
 have C:=j.size
 replace d:=(d.none C).none C;clear C
 refine cL (fun m a h'=>∃D:List bV,∃R:List bV,∃ad:Option Addr,∃cap:Nat,∃s:Option Addr,∃q:Nat,m=R.length ∧(Ext h h')∧((D++R).Perm L)∧(h'[h.size]? =some (oU mp ck D))∧(Own h' (.slice ad ((D.map (aL aB)).length) cap) 95 ((D.map (aL aB)).length) 39 (a7 (D.map (aL aB))))∧(Own h' (.slice s ((live (D.map (aL aB))).length) q) 9 ((live (D.map (aL aB))).length) 1 ((live (D.map (aL aB))).map Value.string))∧(Sep h.size h'.size [s.map (·.block),ad.map (·.block),some h.size])∧(Fr a 42 [(0,.pointer (some ⟨mb,0,none⟩)),(1,.bool false),(5,.slice ad ((D.map (aL aB)).length) cap),(6,.slice s ((live (D.map (aL aB))).length) q),(13,.pointer (some ⟨h.size,0,none⟩))])) (L.length) ⟨[],L,none,0,none,0,rfl,j,(List.Perm.refl _),hit,f,c,d,i.to⟩ ?_
 clear i a
 clear j
 clear hit
 clear f
 clear c
 clear d
 rintro m a h2 ⟨D,R,ad,cap,s,q,rfl,j,hP,hit,f,c,d,i⟩
 refine cS ?_
 rcases(by cases R<;>simp:R=[]∨R≠[]) with V|V
 ·refine rS i<|tC 0 (.tuple #[.bool false]) (jq (by kernel_rfl) hit (j.blk hp) hP md.bo V)<|sE [(15,.bool false)] fun a i=>tK<|cS<|cF 15 i<|cX 0 (xT (xT (xB ?_)))
  refine tK<|cS<|qP [(32,.bool false)] i fun a i=>cF 32 i<|cN<|tK<|qS i ?_
  subst V
  rw[List.append_nil] at hP
  have hen:=md.enum hg hP
  have hDl:=hP.length_eq
  have hlv:=gY (D.map (aL aB))
  rw[List.length_map] at hlv
  refine tG 1 (ui _ _ _ _ (live (D.map (aL aB))) c rfl (by omega)) ?_
  rintro _ h3 ⟨N,g⟩
  replace j:=j.grew g (d.l 0)
  replace d:=d.up g.size
  clear c;have c:=N;clear N g
  refine sT [] fun a i=>qP [(4,.slice s ((live (D.map (aL aB))).length) q)] i fun a i=>cR<|rT 4 (.slice s ((live (D.map (aL aB))).length) q) i ?_
  rw[←kL hen] at c
  have hil:(live (D.map (aL aB))).length =(iJ M).length :=by rw[kL hen];unfold fQ;rw[List.length_mergeSort]
  rw[hil] at c
  exact⟨s,q,by rw[hil],c,d.low 0 rfl,j⟩
 ·refine rS i<|tF 0 (gy (by kernel_rfl) hit (j.blk hp) hP md.bo V) ?_
  rintro _ Z ⟨x,R',hP2,hRl,hxL,rfl,hh⟩
  obtain⟨hit2,gi⟩:=jr hh hit
  replace j:=j.grew gi (d.l 2)
  replace c:=c.k gi (d.ap 0 2)
  replace f:=f.k gi (d.ap 1 2)
  replace hit:=hit
  replace d:=d.up gi.size
  clear hit;have hit:=hit2;clear hit2 hh gi
  have hh3:=hg x hxL
  have hDl:D.length <L.length :=by have:=hP2.length_eq;simp at this;omega
  refine sE [(15,.bool true)] fun a i=>tK<|cS<|cT 15 i<|cN<|tK<|cB 1 ?_
  refine qS i<|tC 0 (.tuple #[.string x.1,.agg (c8 ((aL aB x).b) ((aL aB x).e) ((aL aB x).ho) ((aL aB x).go) (.slice (aL aB x).ad ((aL aB x).n) ((aL aB x).cap)) (.slice (aB x).ba ((aB x).o.dt.length) ((aB x).bc))).toArray]) (lB (by kernel_rfl) hit (j.blk hp) hxL md.bo hh3.hv)<|tN 3 (pV Z.size) ((c6 (.slice none 0 0)).toArray) 101 fun h5 U H=> ?_
  replace d:=d.nw j.size H
  refine bA 5 (c8 ((aL aB x).b) ((aL aB x).e) ((aL aB x).ho) ((aL aB x).go) (.slice (aL aB x).ad ((aL aB x).n) ((aL aB x).cap)) (.slice (aB x).ba ((aB x).o.dt.length) ((aB x).bc))) H fun h8 Q zq=> ?_
  replace H:=zq
  refine sT [(7,.string x.1),(8,pV Z.size)] fun a i=>qS i<|tQ 2 0 (rc ((aL aB x).b) ((aL aB x).e) ((aL aB x).ho) ((aL aB x).go) (.slice (aL aB x).ad ((aL aB x).n) ((aL aB x).cap))) H<|tN 3 (.slice (some ⟨h8.size,0,none⟩) 1 1) ((a7 [(aL aB x)]).toArray) 95 fun h10 A I=> ?_
  replace j:=(j.ext U).grew Q (d.l 0)
  replace d:=(d.up Q.size).nw j.size I
  replace f:=((f.ext U).k Q (d.ap 3 1)).ext A
  refine tP 4 ((D.map (aL aB)++[(aL aB x)]).length) 104 (a7 (D.map (aL aB)++[(aL aB x)])) f (Row.blk (n:=1) (sz:=39) (l:=a7 [(aL aB x)]) I rfl) (ed _) (fun u B X f w O=> ?_) (ys:=(a7 ([(aL aB x)]))) (hl:=(by unfold maxLen;rw[List.length_map];omega)) (hb:=(by rw[List.length_map];omega)) (hZ:=by first|rfl|exact List.flatMap_append.symm |simp[a7])
  replace j:=j.ext A
  have r:=d
  replace d:=d.sa w 3 O f j.size;clear O
  rw[mT] at f
  refine sT [(5,.slice u ((D.map (aL aB)++[(aL aB x)]).length) B)] fun a i=> ?_
  have z:((D.map (aL aB)++[(aL aB x)]).length :Nat)=((D++[x]).map (aL aB)).length :=by first| (simp;done)| (simp;omega)
  rw[z] at i;clear z
  refine qS i ?_
  replace H:=(H.x A).y w (r.bp 1 3)
  refine tO 2 37 H<|sT [(27,.bool (!((aL aB x).go)))] fun a i=>cC 27 (!((aL aB x).go)) i (fun p=> ?_) (fun p=> ?_)
  ·replace p:(aL aB x).go =false:=by simpa using p
   refine rS i<|tN 2 (.slice (some ⟨X.size,0,none⟩) 1 1) #[.string x.1] 9 fun h20 J S=> ?_
   replace j:=j.grew w (r.l 3)
   replace d:=d.nw j.size S
   have hlv:=gY (D.map (aL aB))
   rw[List.length_map] at hlv
   replace c:=((((c.ext U).k Q (r.ap 2 1)).ext A).k w (r.ap 2 3)).ext J
   refine tP 3 ((live (D.map (aL aB))++[x.1]).length) 16 ((live (D.map (aL aB))++[x.1]).map Value.string) c (Row.blk (n:=1) (sz:=1) (l:=[x.1].map Value.string) S rfl) (jj _) (fun F G h27 c K P=> ?_) (ys:=(([x.1]).map Value.string))
   replace j:=j.ext J
   have T:=d
   replace d:=d.sa K 3 P c j.size;clear P
   have hlo3:live (D.map (aL aB))++[x.1]=live ((D++[x]).map (aL aB)):=by rw[sN p,hh3.id]
   rw[hlo3] at c
   refine sE [(6,.slice F ((live (D.map (aL aB))++[x.1]).length) G)] fun a i=> ?_
   have z:((live (D.map (aL aB))++[x.1]).length :Nat)=(live ((D++[x]).map (aL aB))).length :=by first| (rw[←hlo3])| (simp;done)| (simp;omega)
   rw[z] at i;clear z
   refine bK ?_
   clear H
   clear I
   clear S
   replace hit:=K.blk (J.blk (w.blk (A.blk (Q.blk (U.blk hit) (r.bp 4 1))) (r.bp 4 3))) (T.bp 5 3)
   replace f:=(f.ext J).k K (T.ap 4 3)
   replace j:=j.grew K (T.l 3)
   replace d:=d.sub (l':=[F.map (·.block),u.map (·.block),some h.size]) (.cons _ (.cons _ (.cons _ (.cons_cons _ (.cons_cons _ (.cons_cons _ (.slnil)))))))
   show ∃m',m'<_∧_
   refine⟨_,?_,(D++[x]),R',u,B,F,G,rfl,j,hP2,hit,f,c,d,i.to⟩
   omega
  ·replace p:(aL aB x).go =true:=by simpa using p
   replace c:=(((c.ext U).k Q (r.ap 2 1)).ext A).k w (r.ap 2 3)
   rw[←kM p] at c
   rw[←kM p] at i
   refine cN<|bK ?_
   clear H
   clear I
   replace hit:=w.blk (A.blk (Q.blk (U.blk hit) (r.bp 4 1))) (r.bp 4 3)
   replace j:=j.grew w (r.l 3)
   replace d:=d.sub (l':=[s.map (·.block),u.map (·.block),some h.size]) (.cons _ (.cons _ (.cons_cons _ (.cons_cons _ (.cons_cons _ (.slnil))))))
   show ∃m',m'<_∧_
   refine⟨_,?_,(D++[x]),R',u,B,s,q,rfl,j,hP2,hit,f,c,d,i.to⟩
   omega
set_option maxHeartbeats 1000000 in
theorem AA{W:Nat→Prop}(h:Heap)(mb mp:Nat)(M:Md)(L:List bV)(ck:Nat)(ea:Option Addr)(ec:Nat)(es:List Value)(md:bH W h mb mp M L ck ea ec es)(hE:M.E.length ≤1099511627):Sat Tryz.prog 35 #[.pointer (some ⟨mb,0,none⟩),.bool true] h fun v h'=>∃ad cap,v= .slice ad (eE M).length cap∧Own h' (.slice ad (eE M).length cap) 9 (eE M).length 1 ((eE M).map Value.string)∧(∀k,ad.map (fun(x:Addr)=>x.block)=some k→h.size ≤k)∧Ext h h':=by
 have hm:=md.hm
 have hp:=md.hp
 obtain⟨aB,hg⟩:=md.choose
 have hLn:=md.ln
 have i:=Ext.refl h
 have f:Sep h.size h.size []:=Sep.nil _ _
 refine ag Tryz.func35 42 fun a j=>qP [] j fun a j=>qP [(5,.slice none 0 0)] j fun a j=>qP [(6,.slice none 0 0)] j fun a j=>cS<|qS j<|tO 3 0 (i.blk hm) ?_
 refine tF 4 (Does.range (t:=81) (k:=9) (el:=101) (by kernel_rfl) (by kernel_rfl) (i.blk hp)) ?_
 rintro _ h1 ⟨rfl,hh⟩
 have g:=aY hh
 have hit:=bj hh
 have F:=i.size
 have a8:=f
 replace i:=i.ext g
 replace f:=a8.new F (ak hit)
 clear a8 F hh g
 refine sT [(13,pV h.size)] fun a j=>cB 0 ?_
 have c:Own h1 (.slice none 0 0) 95 0 39 (a7 (([]:List bV).map (aL aB))):=Own.nil _ _ _
 have d:Own h1 (.slice none 0 0) 9 0 1 ((live (([]:List bV).map (aL aB))).map Value.string):=Own.nil _ _ _
 have F:=i.size
 replace f:=(f.none F).none F;clear F
 refine cL (fun m a h'=>∃D:List bV,∃R:List bV,∃ad:Option Addr,∃cap:Nat,∃G:Option Addr,∃C:Nat,m=R.length ∧(Ext h h')∧((D++R).Perm L)∧(h'[h.size]? =some (oU mp ck D))∧(Own h' (.slice ad ((D.map (aL aB)).length) cap) 95 ((D.map (aL aB)).length) 39 (a7 (D.map (aL aB))))∧(Own h' (.slice G ((live (D.map (aL aB))).length) C) 9 ((live (D.map (aL aB))).length) 1 ((live (D.map (aL aB))).map Value.string))∧(Sep h.size h'.size [G.map (·.block),ad.map (·.block),some h.size])∧(Fr a 42 [(0,.pointer (some ⟨mb,0,none⟩)),(1,.bool true),(5,.slice ad ((D.map (aL aB)).length) cap),(6,.slice G ((live (D.map (aL aB))).length) C),(13,.pointer (some ⟨h.size,0,none⟩))])) (L.length) ⟨[],L,none,0,none,0,rfl,i,(List.Perm.refl _),hit,c,d,f,j.to⟩ ?_
 clear j a
 clear i
 clear hit
 clear c
 clear d
 clear f
 rintro m a h2 ⟨D,R,ad,cap,G,C,rfl,i,hP,hit,c,d,f,j⟩
 refine cS ?_
 rcases(by cases R<;>simp:R=[]∨R≠[]) with Z|Z
 ·refine rS j<|tC 0 (.tuple #[.bool false]) (jq (by kernel_rfl) hit (i.blk hp) hP md.bo Z)<|sE [(15,.bool false)] fun a j=>tK<|cS<|cF 15 j<|cX 0 (xT (xT (xB ?_)))
  refine tK<|cS<|qP [(32,.bool true)] j fun a j=>cT 32 j<|qS j<|tO 4 2 (i.blk hm) ?_
  subst Z
  rw[List.append_nil] at hP
  have hen:=md.enum hg hP
  have hDl:=hP.length_eq
  have hlv:=gY (D.map (aL aB))
  rw[List.length_map] at hlv
  have hse:=i.size
  refine tG 5 (Ay _ (D.map (aL aB)) _ _ M.t 1099511627776 uO c.row (by rw[List.length_map];omega) (fun r hr=>Dd hg hP hr) (Nat.le_trans (List.length_filter_le _ _) (by rw[List.length_map];omega))) ?_
  rintro _ h5 ⟨M2,U,H,NK,hSM,rfl,I,hge,g⟩
  replace i:=i.ext g
  refine sT [(4,.slice U M2.length H)] fun a j=>cR (yT ?_)
  refine rT 4 (.slice U M2.length H) j ?_
  have hdm:=sM hen NK hSM
  have hdl:M2.length =(eE M).length :=by rw[hdm];unfold ids;rw[List.length_map]
  rw[hdl,←hdm] at I
  exact⟨U,H,by rw[hdl],I,fun k e=>Nat.le_trans hse (hge k e),i⟩
 ·refine rS j<|tF 0 (gy (by kernel_rfl) hit (i.blk hp) hP md.bo Z) ?_
  rintro _ h6 ⟨x,R',hP2,hRl,hxL,rfl,hh⟩
  obtain⟨hit2,gi⟩:=jr hh hit
  replace i:=i.grew gi (f.l 2)
  replace d:=d.k gi (f.ap 0 2)
  replace c:=c.k gi (f.ap 1 2)
  replace hit:=hit
  replace f:=f.up gi.size
  clear hit;have hit:=hit2;clear hit2 hh gi
  have hh3:=hg x hxL
  have hDl:D.length <L.length :=by have:=hP2.length_eq;simp at this;omega
  refine sE [(15,.bool true)] fun a j=>tK<|cS<|cT 15 j<|cN<|tK<|cB 1 ?_
  refine qS j<|tC 0 (.tuple #[.string x.1,.agg (c8 ((aL aB x).b) ((aL aB x).e) ((aL aB x).ho) ((aL aB x).go) (.slice (aL aB x).ad ((aL aB x).n) ((aL aB x).cap)) (.slice (aB x).ba ((aB x).o.dt.length) ((aB x).bc))).toArray]) (lB (by kernel_rfl) hit (i.blk hp) hxL md.bo hh3.hv)<|tN 3 (pV h6.size) ((c6 (.slice none 0 0)).toArray) 101 fun h7 Y N=> ?_
  replace f:=f.nw i.size N
  refine bA 5 (c8 ((aL aB x).b) ((aL aB x).e) ((aL aB x).ho) ((aL aB x).go) (.slice (aL aB x).ad ((aL aB x).n) ((aL aB x).cap)) (.slice (aB x).ba ((aB x).o.dt.length) ((aB x).bc))) N fun h10 z zq=> ?_
  replace N:=zq
  refine sT [(7,.string x.1),(8,pV h6.size)] fun a j=>qS j<|tQ 2 0 (rc ((aL aB x).b) ((aL aB x).e) ((aL aB x).ho) ((aL aB x).go) (.slice (aL aB x).ad ((aL aB x).n) ((aL aB x).cap))) N<|tN 3 (.slice (some ⟨h10.size,0,none⟩) 1 1) ((a7 [(aL aB x)]).toArray) 95 fun h12 A O=> ?_
  replace i:=(i.ext Y).grew z (f.l 0)
  replace f:=(f.up z.size).nw i.size O
  replace c:=((c.ext Y).k z (f.ap 3 1)).ext A
  refine tP 4 ((D.map (aL aB)++[(aL aB x)]).length) 104 (a7 (D.map (aL aB)++[(aL aB x)])) c (Row.blk (n:=1) (sz:=39) (l:=a7 [(aL aB x)]) O rfl) (ed _) (fun s B h19 c u S=> ?_) (ys:=(a7 ([(aL aB x)]))) (hl:=(by unfold maxLen;rw[List.length_map];omega)) (hb:=(by rw[List.length_map];omega)) (hZ:=by first|rfl|exact List.flatMap_append.symm |simp[a7])
  replace i:=i.ext A
  have q:=f
  replace f:=f.sa u 3 S c i.size;clear S
  rw[mT] at c
  refine sT [(5,.slice s ((D.map (aL aB)++[(aL aB x)]).length) B)] fun a j=> ?_
  have w:((D.map (aL aB)++[(aL aB x)]).length :Nat)=((D++[x]).map (aL aB)).length :=by first| (simp;done)| (simp;omega)
  rw[w] at j;clear w
  refine qS j ?_
  replace N:=(N.x A).y u (q.bp 1 3)
  refine tO 2 37 N<|sT [(27,.bool (!((aL aB x).go)))] fun a j=>cC 27 (!((aL aB x).go)) j (fun p=> ?_) (fun p=> ?_)
  ·replace p:(aL aB x).go =false:=by simpa using p
   refine rS j<|tN 2 (.slice (some ⟨h19.size,0,none⟩) 1 1) #[.string x.1] 9 fun h22 P V=> ?_
   replace i:=i.grew u (q.l 3)
   replace f:=f.nw i.size V
   have hlv:=gY (D.map (aL aB))
   rw[List.length_map] at hlv
   replace d:=((((d.ext Y).k z (q.ap 2 1)).ext A).k u (q.ap 2 3)).ext P
   refine tP 3 ((live (D.map (aL aB))++[x.1]).length) 16 ((live (D.map (aL aB))++[x.1]).map Value.string) d (Row.blk (n:=1) (sz:=1) (l:=[x.1].map Value.string) V rfl) (jj _) (fun J K FM d Q T=> ?_) (ys:=(([x.1]).map Value.string))
   replace i:=i.ext P
   have X:=f
   replace f:=f.sa Q 3 T d i.size;clear T
   have hlo3:live (D.map (aL aB))++[x.1]=live ((D++[x]).map (aL aB)):=by rw[sN p,hh3.id]
   rw[hlo3] at d
   refine sE [(6,.slice J ((live (D.map (aL aB))++[x.1]).length) K)] fun a j=> ?_
   have w:((live (D.map (aL aB))++[x.1]).length :Nat)=(live ((D++[x]).map (aL aB))).length :=by first| (rw[←hlo3])| (simp;done)| (simp;omega)
   rw[w] at j;clear w
   refine bK ?_
   clear N
   clear O
   clear V
   replace hit:=Q.blk (P.blk (u.blk (A.blk (z.blk (Y.blk hit) (q.bp 4 1))) (q.bp 4 3))) (X.bp 5 3)
   replace c:=(c.ext P).k Q (X.ap 4 3)
   replace i:=i.grew Q (X.l 3)
   replace f:=f.sub (l':=[J.map (·.block),s.map (·.block),some h.size]) (.cons _ (.cons _ (.cons _ (.cons_cons _ (.cons_cons _ (.cons_cons _ (.slnil)))))))
   show ∃m',m'<_∧_
   refine⟨_,?_,(D++[x]),R',s,B,J,K,rfl,i,hP2,hit,c,d,f,j.to⟩
   omega
  ·replace p:(aL aB x).go =true:=by simpa using p
   replace d:=(((d.ext Y).k z (q.ap 2 1)).ext A).k u (q.ap 2 3)
   rw[←kM p] at d
   rw[←kM p] at j
   refine cN<|bK ?_
   clear N
   clear O
   replace hit:=u.blk (A.blk (z.blk (Y.blk hit) (q.bp 4 1))) (q.bp 4 3)
   replace i:=i.grew u (q.l 3)
   replace f:=f.sub (l':=[G.map (·.block),s.map (·.block),some h.size]) (.cons _ (.cons _ (.cons_cons _ (.cons_cons _ (.cons_cons _ (.slnil))))))
   show ∃m',m'<_∧_
   refine⟨_,?_,(D++[x]),R',s,B,G,C,rfl,i,hP2,hit,c,d,f,j.to⟩
   omega
noncomputable def b45:Code:=Tryz.f45.body.getD .skip
theorem eU(h:Heap)(x:RB)(e:Int)(ho go:Bool)(c d:Value):Sat Tryz.prog 45 #[.agg (c8 x e ho go (c) (d)).toArray] h fun v h'=>v= .agg (vn x e ho go).toArray ∧Ext h h':=by
 have g:=Ext.refl h
 have b:Sep h.size h.size []:=Sep.nil _ _
 refine ag Tryz.func45 22 fun a i=>qS i<|tN 0 (pV h.size) ((c8 x e ho go (c) (d)).toArray) 101 fun k n f=> ?_
 replace b:=b.nw g.size f
 refine tN 1 (pV k.size) ((vn dn 0 false false).toArray) 41 fun q m j=> ?_
 replace g:=g.ext n
 replace b:=b.nw g.size j
 refine sT [(1,pV h.size),(2,pV k.size)] fun a i=>qS i ?_
 replace f:=f.x m
 refine tO 2 1 f<|tQ 5 2 ((hl x).map bv) f<|tO 8 34 f<|tO 11 35 f<|tO 14 36 f<|tO 17 37 f<|bA 19 (vn x e ho go) j fun r o p=> ?_
 replace j:=p
 refine sT [] fun a i=>cR<|rB j i ?_
 replace g:=(g.ext m).grew o (b.l 0)
 exact⟨rfl,g⟩
theorem AB(h:Heap)(L:List Hs)(va:Option Addr)(vc n:Nat)(hL:HR h va vc n L)(hn:n≤1099511627000)(i:Int)(kt:bl h)(p:List Hs)(e:Int)(hz:cA L i=(p,e)):Sat Tryz.prog 71 #[.slice va n vc,.int .i64 i] h fun v h'=>∃ad cap,v= .tuple #[.slice ad p.length cap,.int .i64 e]∧Own h' (.slice ad p.length cap) 39 p.length 32 (hcs p)∧(∀k,ad.map (fun(x:Addr)=>x.block)=some k→h.size ≤k)∧Ext h h':=
 (uu h L va vc n hL hn i kt).mono fun v h' ⟨s,hv,ad,cap,hs,o,hge,g⟩=>by
  rw[hz] at hv hs o
  subst hs
  exact⟨ad,cap,hv,o,hge,g⟩
theorem AD(h:Heap)(L:List Hs)(va:Option Addr)(vc n:Nat)(hL:HR h va vc n L)(hn:n≤1099511627000)(kt:bl h):Sat Tryz.prog 36 #[.slice va n vc] h fun v h'=>v= .agg ((hl (pf (root L))).map bv).toArray ∧Ext h h':=by
 rw[lA (a_ hL.2.1)];exact g_ h L va vc n hL kt hn
noncomputable def b34:Code:=Tryz.f34.body.getD .skip
set_option maxHeartbeats 1000000 in
theorem AE{W:Nat→Prop}(h:Heap)(mb mp:Nat)(M:Md)(L:List bV)(ck:Nat)(ea:Option Addr)(ec:Nat)(es:List Value)(md:bH W h mb mp M L ck ea ec es)(kd n:Int)(s:ByteArray)(oa:Option Addr)(on oc:Nat)(ka:Option Addr)(kn kc:Nat)(hsz:s.size ≤9223372036854775807)(kt:bl h)(hE:M.E.length ≤1099511627):Sat Tryz.prog 34 #[.pointer (some ⟨mb,0,none⟩),.agg #[.int .i64 kd,.string s,.slice oa on oc,.int .i64 n,.slice ka kn kc]] h fun v h'=>n4 W h.size h' mb mp M v (c7 M kd s)∧Ext h h':=by
 have hp:=md.hp
 have g:=Ext.refl h
 have Y:=kt.lt
 have c:Sep h.size h.size []:=Sep.nil _ _
 refine ag Tryz.func34 59 fun a d=>qS d<|tN 0 (pV h.size) #[.int .i64 kd,.string s,.slice oa on oc,.int .i64 n,.slice ka kn kc] 35 fun h1 g2 F=> ?_
 replace c:=c.nw g.size F
 refine tN 1 (pV h1.size) ((b6 0).toArray) 47 fun h4 S i=> ?_
 replace g:=g.ext g2
 replace c:=c.nw g.size i
 refine sT [(3,pV h.size),(4,pV h1.size)] fun a d=>cS ?_
 rcases md.j0 s with hok|⟨hok,hf,hno⟩|⟨hok,A,x,B,o,rfl,hs,hf,hid,hdl,ca,cc,ba,bc,hv,r1,r2⟩
 ·refine rS d ?_
  replace F:=F.x S
  refine tO 2 1 F ?_
  replace g:=g.ext S
  refine tG 3 (s0 _ mb mp M _ ck ea ec es (md.ext g) s hsz hok) ?_
  rintro _ h8 ⟨rfl,g7⟩
  refine tN 7 (pV h8.size) ((c6 (.slice none 0 0)).toArray) 101 fun h9 Z m11=> ?_
  replace g:=g.ext g7
  replace c:=(c.up g7.size).nw g.size m11
  refine bA 8 (c6 (.slice none 0 0)) m11 fun h12 g13 m=>sE [(5,pV h8.size),(6,.int .i64 210)] fun a d=>tK<|cS<|cB 0<|qP [(14,.bool true)] d fun a d=>cT 14 d ?_
  refine rS d ?_
  replace i:=((i.x g7).x Z).y g13 (c.bp 1 0)
  refine tV 2 0 [.int .i64 210] (b6 210) i fun kA g15 m=> ?_
  replace i:=m
  refine sE [] fun a d=>bK<|tK<|qS d<|tR 0 i<|bA 1 (b6 210) i fun h16 g17 m=> ?_
  replace i:=m
  refine sT [] fun a d=>cR<|rB i d ?_
  replace g:=(((g.ext Z).grew g13 (c.l 0)).grew g15 (c.l 1)).grew g17 (c.l 1)
  rw[sQ hok];exact⟨fF md g 210,g⟩
 ·refine rS d ?_
  replace F:=F.x S
  refine tO 2 1 F ?_
  replace g:=g.ext S
  refine tG 3 (nq _ mb mp M _ ck ea ec es (md.ext g) s hno hok) ?_
  rintro _ h19 ⟨rfl,U⟩
  refine tN 7 (pV h19.size) ((c6 (.slice none 0 0)).toArray) 101 fun h20 g21 m22=> ?_
  replace g:=g.ext U
  replace c:=(c.up U.size).nw g.size m22
  refine bA 8 (c6 (.slice none 0 0)) m22 fun h23 g24 m=>sE [(5,pV h19.size),(6,.int .i64 211)] fun a d=>tK<|cS<|cB 0<|qP [(14,.bool true)] d fun a d=>cT 14 d ?_
  refine rS d ?_
  replace i:=((i.x U).x g21).y g24 (c.bp 1 0)
  refine tV 2 0 [.int .i64 211] (b6 211) i fun wG Ho m=> ?_
  replace i:=m
  refine sE [] fun a d=>bK<|tK<|qS d<|tR 0 i<|bA 1 (b6 211) i fun h27 xe m=> ?_
  replace i:=m
  refine sT [] fun a d=>cR<|rB i d ?_
  replace g:=(((g.ext g21).grew g24 (c.l 0)).grew Ho (c.l 1)).grew xe (c.l 1)
  rw[j3 hok hf];exact⟨fF md g 211,g⟩
 ·refine rS d ?_
  replace F:=F.x S
  refine tO 2 1 F ?_
  replace g:=g.ext S
  refine tG 3 (pM _ mb mp M _ ck ea ec es (md.ext g) s x (List.mem_append_right _ (List.mem_cons_self ..)) hs o ca cc ba bc hv hok) ?_
  rintro _ J ⟨rfl,z⟩
  refine tN 7 (pV J.size) ((c6 (.slice none 0 0)).toArray) 101 fun h31 u r=> ?_
  replace g:=g.ext z
  replace c:=(c.up z.size).nw g.size r
  refine bA 8 (c8 o.b o.e o.ho o.go (.slice ca 0 cc) (.slice ba o.dt.length bc)) r fun vk q m=> ?_
  replace r:=m
  refine sE [(5,pV J.size),(6,.int .i64 0)] fun a d=>tK<|cS<|cB 0<|qP [(14,.bool false)] d fun a d=>cF 14 d<|qS d ?_
  replace F:=((F.x z).x u).y q (c.bp 2 0)
  refine tO 1 0 F<|sT [(19,.bool (decide (kd=(3:Int))))] fun a d=>cJ 19 d (fun H=> ?_) fun H=> ?_
  ·refine rS d<|tR 0 r<|tG 1 (eU _ o.b o.e o.ho o.go (.slice ca 0 cc) (.slice ba o.dt.length bc)) ?_
   rintro _ h38 ⟨rfl,oq⟩
   replace i:=(((i.x z).x u).y q (c.bp 1 0)).x oq
   refine tV 3 2 (vn o.b o.e o.ho o.go) (bN (0:Int) (.slice none 0 0) o.b o.e o.ho o.go (.slice none 0 0) (0:Int) dn (0:Int) (.slice none 0 0)) i fun uN xf m=> ?_
   replace i:=m
   refine sE [] fun a d=>bK<|tK<|qS d<|tR 0 i<|bA 1 (bN (0:Int) (.slice none 0 0) o.b o.e o.ho o.go (.slice none 0 0) (0:Int) dn (0:Int) (.slice none 0 0)) i fun vl qF m=> ?_
   replace i:=m
   refine sT [] fun a d=>cR<|rB i d ?_
   replace g:=((((g.ext u).grew q (c.l 0)).ext oq).grew xf (c.l 1)).grew qF (c.l 1)
   rw[nf hok hf H];exact⟨g' md g rfl (Own.nil _ _ _) e8 (Own.nil _ _ _) e8 (Own.nil _ _ _) e8 aq.nil,g⟩
  ·refine qS d<|tO 1 0 F<|sT [(26,.bool (decide (kd=(16:Int))))] fun a d=>cJ 26 d (fun I=> ?_) fun I=> ?_
   ·refine qS d<|tO 2 34 r ?_
    replace i:=((i.x z).x u).y q (c.bp 1 0)
    refine tV 4 73 [.int .i64 o.b.idx] (bN (0:Int) (.slice none 0 0) dn 0 false false (.slice none 0 0) (0:Int) dn o.b.idx (.slice none 0 0)) i fun Es R m=> ?_
    replace i:=m
    refine sT [] fun a d=>cD [0,1,0,4,12,31,63,127,127,255,767,2047,4095] 8 mixed d<|mP 13 [0,2,3] [pV mb,pV J.size,.pointer (some ⟨J.size,34,none⟩)] ?_
    replace r:=r.y R (c.bp 0 1)
    refine mO 29 16 4 34 (.int .i64 o.b.idx) r ?_
    replace kt:=(((((kt.ext g2).ext S).ext z).ext u).grew q (c.zero 0 rfl Y)).grew R (c.zero 1 rfl Y)
    replace g:=((g.ext u).grew q (c.l 0)).grew R (c.l 1)
    refine fT 31 3 1 [4] (Does.call (f:=37) (args:= #[.pointer (some ⟨mb,0,none⟩)]) (by kernel_rfl) (lL _ mb mp M _ ck ea ec es (md.ext g) kt hE)) ?_
    rintro _ h50 ⟨NL,LQ,rfl,K,Jn,N⟩
    replace c:=((c.up q.size).up R.size).co N Jn K g.size
    replace r:=r.x N
    refine⟨?_,?_⟩
    ·intro j hj
     simp only[List.mem_cons,List.not_mem_nil,or_false] at hj
     subst hj
     exact aG (Calm.load (T:=3) (p:=⟨J.size,34,none⟩) (by kernel_rfl) (Loads.one (k:=1) (by kernel_rfl) ((an r).trans (rfl))))
    obtain⟨p,e,hz⟩:∃p e,cA (cE M.E) o.b.idx =(p,e):=⟨_,_,rfl⟩
    replace kt:=kt.ext N
    refine fZ 63 63 5 (AB _ (cE M.E) _ _ M.E.length (HR.of K (gZ _)) (by omega) o.b.idx kt p e hz) ?_
    rintro _ Da ⟨w,t,rfl,C,Jo,V⟩
    replace g:=g.ext N
    replace c:=c.co V Jo C g.size
    refine mP 1023 [6,7,8,9] [.tuple #[.slice w p.length t,.int .i64 e],.slice w p.length t,.int .i64 e,.pointer (some ⟨h1.size,74,none⟩)] ?_
    replace i:=(i.x N).x V
    refine mV 2047 1791 10 74 [.slice w p.length t] (bN (0:Int) (.slice none 0 0) dn 0 false false (.slice none 0 0) (0:Int) dn o.b.idx (.slice w p.length t)) i fun D5 Ed m=> ?_
    replace i:=m
    refine mP 4095 [11] [pV h1.size]<|mV 8191 8191 12 0 [.int .i64 e] (bN e (.slice none 0 0) dn 0 false false (.slice none 0 0) (0:Int) dn o.b.idx (.slice w p.length t)) i fun Bw LR m=> ?_
    replace i:=m
    refine mE [] fun a d=>bK<|tK<|qS d<|tR 0 i<|bA 1 (bN e (.slice none 0 0) dn 0 false false (.slice none 0 0) (0:Int) dn o.b.idx (.slice w p.length t)) i fun h60 zd m=> ?_
    replace i:=m
    refine sT [] fun a d=>cR<|rB i d ?_
    have hpp:(cA (cE M.E) o.b.idx).1 =p:=by rw[hz]
    replace g:=(((g.ext V).grew Ed (c.l 3)).grew LR (c.l 3)).grew zd (c.l 3)
    replace C:=((C.k Ed (c.ap 0 3)).k LR (c.ap 0 3)).k zd (c.ap 0 3)
    rw[lC hok hf I hz];exact⟨g' md g rfl (Own.nil _ _ _) e8 (Own.nil _ _ _) e8 C (c.low 0 rfl) (hpp▸o5 (gZ _) _),g⟩
   ·refine qS d<|tO 2 37 r<|sT [(45,.bool o.go)] fun a d=>cC 45 o.go d (fun O=> ?_) (fun O=> ?_)
    ·have hgo:=O
     refine rS d ?_
     replace i:=((i.x z).x u).y q (c.bp 1 0)
     refine tV 1 0 [.int .i64 213] (b6 213) i fun h63 vH m=> ?_
     replace i:=m
     refine sE [] fun a d=>bK<|tK<|qS d<|tR 0 i<|bA 1 (b6 213) i fun h65 zf m=> ?_
     replace i:=m
     refine sT [] fun a d=>cR<|rB i d ?_
     replace g:=(((g.ext u).grew q (c.l 0)).grew vH (c.l 1)).grew zf (c.l 1)
     rw[ng hok hf H I hgo];exact⟨fF md g 213,g⟩
    ·have hgo:=O
     refine qS d<|tO 1 0 F<|sT [(50,.bool (decide (kd=(2:Int))))] fun a d=>cJ 50 d (fun P=> ?_) fun P=> ?_
     ·refine rS d<|tO 1 39 r ?_
      replace g:=(g.ext u).grew q (c.l 0)
      refine tG 2 (eR _ o.dt o.dt.length ba bc (r2.ext g).1.1 (by omega)) ?_
      rintro _ h72 ⟨Q,G,rfl,D,De,X⟩
      replace c:=(c.up q.size).co X De D g.size
      replace i:=(((i.x z).x u).y q (c.bp 2 1)).x X
      refine tV 4 1 [.slice Q o.dt.length G] (bN (0:Int) (.slice Q o.dt.length G) dn 0 false false (.slice none 0 0) (0:Int) dn (0:Int) (.slice none 0 0)) i fun zu Ac m=> ?_
      replace i:=m
      refine sE [] fun a d=>bK<|tK<|qS d<|tR 0 i<|bA 1 (bN (0:Int) (.slice Q o.dt.length G) dn 0 false false (.slice none 0 0) (0:Int) dn (0:Int) (.slice none 0 0)) i fun Ax z8 m=> ?_
      replace i:=m
      refine sT [] fun a d=>cR<|rB i d ?_
      replace g:=((g.ext X).grew Ac (c.l 2)).grew z8 (c.l 2)
      replace D:=(D.k Ac (c.ap 0 2)).k z8 (c.ap 0 2)
      rw[lD hok hf P hgo];exact⟨g' md g rfl D (c.low 0 rfl) (Own.nil _ _ _) e8 (Own.nil _ _ _) e8 aq.nil,g⟩
     ·refine cN<|bK<|tK<|qS d ?_
      replace i:=((i.x z).x u).y q (c.bp 1 0)
      refine tR 0 i<|bA 1 (b6 0) i fun NC NM m=> ?_
      replace i:=m
      refine sT [] fun a d=>cR<|rB i d ?_
      replace g:=((g.ext u).grew q (c.l 0)).grew NM (c.l 1)
      rw[nh hok hf H I P hgo];exact⟨fF md g 0,g⟩
noncomputable def b17:Code:=Tryz.f17.body.getD .skip
theorem s_{W:Nat→Prop}(h:Heap)(mb mp:Nat)(M:Md)(L:List bV)(ck:Nat)(ea:Option Addr)(ec:Nat)(es:List Value)(md:bH W h mb mp M L ck ea ec es)(kd n:Int)(s:ByteArray)(oa:Option Addr)(on oc:Nat)(ka:Option Addr)(kn kc:Nat)(hsz:s.size ≤9223372036854775807)(kt:bl h)(hE:M.E.length ≤1099511627)(A:An)(hA:c7 M kd s=A):Sat Tryz.prog 34 #[.pointer (some ⟨mb,0,none⟩),.agg #[.int .i64 kd,.string s,.slice oa on oc,.int .i64 n,.slice ka kn kc]] h fun v h'=>∃qa qc ia ic pa pc,v=px A (.slice qa A.b.length qc) (.slice ia A.i.length ic) (.slice pa A.p.length pc)∧Own h' (.slice qa A.b.length qc) 5 A.b.length 1 (A.b.map bv)∧Own h' (.slice ia A.i.length ic) 9 A.i.length 1 (A.i.map Value.string)∧Own h' (.slice pa A.p.length pc) 39 A.p.length 32 (hcs A.p)∧aq A.p ∧(∀k,AF qa ia pa k→h.size ≤k)∧eD (fun k=>W k∨AF qa ia pa k) h' mb mp M∧Ext h h':=by
 subst hA
 exact(AE h mb mp M L ck ea ec es md kd n s oa on oc ka kn kc hsz kt hE).mono fun v h' ⟨⟨qa,qc,ia,ic,pa,pc,e,r1,r2,r3,r4,r5,r6⟩,g⟩=>⟨qa,qc,ia,ic,pa,pc,e,r1,r2,r3,r4,r5,r6,g⟩
set_option maxHeartbeats 2000000 in
theorem Jp{W:Nat→Prop}(h:Heap)(mb mp:Nat)(M:Md)(L:List bV)(ck:Nat)(ea:Option Addr)(ec:Nat)(es:List Value)(md:bH W h mb mp M L ck ea ec es)(hW:∀k,W k→k<h.size)(kd n:Int)(s:ByteArray)(l:List UInt8)(oa:Option Addr)(oc:Nat)(ka:Option Addr)(kn kc:Nat)(hr:Row h (.slice oa l.length oc) l.length 1 (l.map bv))(hsz:s.size ≤9223372036854775807)(kt:bl h)(hE:M.E.length ≤1099511627):Sat Tryz.prog 17 #[.pointer (some ⟨mb,0,none⟩),.agg #[.int .i64 kd,.string s,.slice oa l.length oc,.int .i64 n,.slice ka kn kc]] h fun v h'=>n4 W h.size h' mb mp (step M kd n s l).1 v (step M kd n s l).2 ∧MG mb mp h h':=by
 have hm:=md.hm
 have hp:=md.hp
 have o:=Ext.refl h
 have q:Sep h.size h.size []:=Sep.nil _ _
 refine ag Tryz.func17 78 fun a d=>qS d<|tN 0 (pV h.size) #[.int .i64 kd,.string s,.slice oa l.length oc,.int .i64 n,.slice ka kn kc] 35 fun h1 g2 B=> ?_
 have HZ:=ak B
 replace q:=q.nw o.size B
 refine tN 1 (pV h1.size) ((b6 0).toArray) 47 fun h6 w m=> ?_
 replace o:=o.ext g2
 have Er:=o.size
 replace q:=q.nw o.size m
 refine sT [(3,pV h.size),(4,pV h1.size)] fun a d=>cS<|qS d ?_
 replace B:=B.x w
 refine tO 1 0 B<|sT [(6,.int .i64 kd)] fun a d=>cB 0<|qP [(8,.bool (decide (kd=(1:Int))))] d fun a d=>cJ 8 d (fun S=> ?_) fun S=> ?_
 ·refine rS d<|tO 2 1 B<|tO 4 2 B ?_
  replace kt:=(kt.ext g2).ext w
  replace o:=o.ext w
  refine tG 5 (Aw _ mb mp M L ck ea ec es (md.ext o) (fun k hk=>Nat.lt_of_lt_of_le (hW k hk) o.size) s hsz l oa oc (hr.ext o) kt hE) ?_
  rintro _ h12 ⟨rfl,hmod,F⟩
  have z:MG mb mp h h12:=(MG.aK o).trans F
  have hbm:=ak hm;have hbp:=ak hp
  replace m:=F.blk m (by omega) (by omega)
  refine tV 7 0 [.int .i64 ((db M s l).2)] (b6 ((db M s l).2)) m fun h13 g14 r=> ?_
  replace hmod:=hmod.aO g14 m (by decide) (by omega)
  replace m:=r
  refine sE [] fun a d=>bK<|tK<|qS d<|tR 0 m<|bA 1 (b6 ((db M s l).2)) m fun h15 g16 r=> ?_
  replace hmod:=hmod.aO g16 m (by decide) (by omega)
  replace m:=r
  refine sT [] fun a d=>cR<|rB m d ?_
  replace z:=(z.mS g14 (fun x e=>by cases e;omega)).mS g16 (fun x e=>by cases e;omega)
  rw[gB S];exact⟨j2 hmod _,z⟩
 ·refine cS<|qP [(17,.bool (decide (kd=(4:Int))))] d fun a d=>cJ 17 d (fun U=> ?_) fun U=> ?_
  ·refine cN<|tK<|cJ 17 d (fun xg=> ?_) fun xg=>absurd U xg
   refine rS d<|tR 1 B ?_
   replace o:=o.ext w
   refine tG 2 (iL _ mb mp M L ck ea ec es (md.ext o) kd n s oa l.length oc ka kn kc hsz) ?_
   rintro _ h19 ⟨rfl,hmod,F⟩
   have z:MG mb mp h h19:=(MG.aK o).trans F
   have hbm:=ak hm;have hbp:=ak hp
   replace m:=F.blk m (by omega) (by omega)
   refine tV 4 0 [.int .i64 ((ff M kd n s).2)] (b6 ((ff M kd n s).2)) m fun h20 g21 r=> ?_
   replace hmod:=hmod.aO g21 m (by decide) (by omega)
   replace m:=r
   refine sE [] fun a d=>bK<|tK<|qS d<|tR 0 m<|bA 1 (b6 ((ff M kd n s).2)) m fun h22 g23 r=> ?_
   replace hmod:=hmod.aO g23 m (by decide) (by omega)
   replace m:=r
   refine sT [] fun a d=>cR<|rB m d ?_
   replace z:=(z.mS g21 (fun x e=>by cases e;omega)).mS g23 (fun x e=>by cases e;omega)
   rw[eQ (by omega)];exact⟨j2 hmod _,z⟩
  ·refine qP [(17,.bool (decide (kd=(5:Int))))] d fun a d=>cJ 17 d (fun V=> ?_) fun V=> ?_
   ·refine cN<|tK<|cJ 17 d (fun hx25=> ?_) fun hx25=>absurd V hx25
    refine rS d<|tR 1 B ?_
    replace o:=o.ext w
    refine tG 2 (iL _ mb mp M L ck ea ec es (md.ext o) kd n s oa l.length oc ka kn kc hsz) ?_
    rintro _ kg ⟨rfl,hmod,F⟩
    have z:MG mb mp h kg:=(MG.aK o).trans F
    have hbm:=ak hm;have hbp:=ak hp
    replace m:=F.blk m (by omega) (by omega)
    refine tV 4 0 [.int .i64 ((ff M kd n s).2)] (b6 ((ff M kd n s).2)) m fun h27 xe r=> ?_
    replace hmod:=hmod.aO xe m (by decide) (by omega)
    replace m:=r
    refine sE [] fun a d=>bK<|tK<|qS d<|tR 0 m<|bA 1 (b6 ((ff M kd n s).2)) m fun FM D8 r=> ?_
    replace hmod:=hmod.aO D8 m (by decide) (by omega)
    replace m:=r
    refine sT [] fun a d=>cR<|rB m d ?_
    replace z:=(z.mS xe (fun x e=>by cases e;omega)).mS D8 (fun x e=>by cases e;omega)
    rw[eQ (by omega)];exact⟨j2 hmod _,z⟩
   ·refine rP [(17,.bool (decide (kd=(6:Int))))] d fun a d=>tK<|cJ 17 d (fun hc31=> ?_) fun hc31=> ?_
    ·refine rS d<|tR 1 B ?_
     replace o:=o.ext w
     refine tG 2 (iL _ mb mp M L ck ea ec es (md.ext o) kd n s oa l.length oc ka kn kc hsz) ?_
     rintro _ h32 ⟨rfl,hmod,F⟩
     have z:MG mb mp h h32:=(MG.aK o).trans F
     have hbm:=ak hm;have hbp:=ak hp
     replace m:=F.blk m (by omega) (by omega)
     refine tV 4 0 [.int .i64 ((ff M kd n s).2)] (b6 ((ff M kd n s).2)) m fun zc D9 r=> ?_
     replace hmod:=hmod.aO D9 m (by decide) (by omega)
     replace m:=r
     refine sE [] fun a d=>bK<|tK<|qS d<|tR 0 m<|bA 1 (b6 ((ff M kd n s).2)) m fun h35 Hy r=> ?_
     replace hmod:=hmod.aO Hy m (by decide) (by omega)
     replace m:=r
     refine sT [] fun a d=>cR<|rB m d ?_
     replace z:=(z.mS D9 (fun x e=>by cases e;omega)).mS Hy (fun x e=>by cases e;omega)
     rw[eQ (by omega)];exact⟨j2 hmod _,z⟩
    ·refine cS<|qP [(25,.bool (decide (kd=(2:Int))))] d fun a d=>cJ 25 d (fun X=> ?_) fun X=> ?_
     ·refine cN<|tK<|cJ 25 d (fun hx38=> ?_) fun hx38=>absurd X hx38
      refine qS d<|tR 1 B ?_
      obtain⟨A,hA⟩:∃A,c7 M kd s=A:=⟨_,rfl⟩
      have hbm:=ak hm
      replace kt:=(kt.ext g2).ext w
      replace o:=o.ext w
      refine tG 2 (s_ _ mb mp M L ck ea ec es (md.ext o) kd n s oa l.length oc ka kn kc hsz kt hE A hA) ?_
      rintro _ uN ⟨qa,qc,ia,ic,pa,pc,rfl,r1,r2,r3,r4,hgA,hmW,g⟩
      replace hgA:=fun k e=>Nat.le_trans o.size (hgA k e)
      replace o:=o.ext g
      replace m:=m.x g
      replace q:=q.up g.size
      clear g
      refine bA 3 (bN A.c (.slice qa A.b.length qc) A.sx A.se A.sh A.sg (.slice ia A.i.length ic) A.n A.y A.k (.slice pa A.p.length pc)) m fun yZ G r=> ?_
      replace r1:=r1.aO G m (by decide)
      replace r2:=r2.aO G m (by decide)
      replace r3:=r3.aO G m (by decide)
      replace hmW:=hmW.aO G m (by decide) (by omega)
      replace m:=r
      refine sT [] fun a d=>cR (yB (yT ?_))
      refine rB m d ?_
      replace o:=o.grew G (q.l 0)
      rw[dr (by omega),hA];exact⟨⟨_,_,_,_,_,_,rfl,r1,r2,r3,r4,hgA,hmW⟩,MG.aK o⟩
     ·refine qP [(25,.bool (decide (kd=(3:Int))))] d fun a d=>cJ 25 d (fun Y=> ?_) fun Y=> ?_
      ·refine cN<|tK<|cJ 25 d (fun FN=> ?_) fun FN=>absurd Y FN
       refine qS d<|tR 1 B ?_
       obtain⟨A,hA⟩:∃A,c7 M kd s=A:=⟨_,rfl⟩
       have hbm:=ak hm
       replace kt:=(kt.ext g2).ext w
       replace o:=o.ext w
       refine tG 2 (s_ _ mb mp M L ck ea ec es (md.ext o) kd n s oa l.length oc ka kn kc hsz kt hE A hA) ?_
       rintro _ Es ⟨qa,qc,ia,ic,pa,pc,rfl,r1,r2,r3,r4,hgA,hmW,g⟩
       replace hgA:=fun k e=>Nat.le_trans o.size (hgA k e)
       replace o:=o.ext g
       replace m:=m.x g
       replace q:=q.up g.size
       clear g
       refine bA 3 (bN A.c (.slice qa A.b.length qc) A.sx A.se A.sh A.sg (.slice ia A.i.length ic) A.n A.y A.k (.slice pa A.p.length pc)) m fun h45 H r=> ?_
       replace r1:=r1.aO H m (by decide)
       replace r2:=r2.aO H m (by decide)
       replace r3:=r3.aO H m (by decide)
       replace hmW:=hmW.aO H m (by decide) (by omega)
       replace m:=r
       refine sT [] fun a d=>cR (yB (yT ?_))
       refine rB m d ?_
       replace o:=o.grew H (q.l 0)
       rw[dr (by omega),hA];exact⟨⟨_,_,_,_,_,_,rfl,r1,r2,r3,r4,hgA,hmW⟩,MG.aK o⟩
      ·refine qP [(25,.bool (decide (kd=(16:Int))))] d fun a d=>cJ 25 d (fun Z=> ?_) fun Z=> ?_
       ·refine cN<|tK<|cJ 25 d (fun FO=> ?_) fun FO=>absurd Z FO
        refine qS d<|tR 1 B ?_
        obtain⟨A,hA⟩:∃A,c7 M kd s=A:=⟨_,rfl⟩
        have hbm:=ak hm
        replace kt:=(kt.ext g2).ext w
        replace o:=o.ext w
        refine tG 2 (s_ _ mb mp M L ck ea ec es (md.ext o) kd n s oa l.length oc ka kn kc hsz kt hE A hA) ?_
        rintro _ D_ ⟨qa,qc,ia,ic,pa,pc,rfl,r1,r2,r3,r4,hgA,hmW,g⟩
        replace hgA:=fun k e=>Nat.le_trans o.size (hgA k e)
        replace o:=o.ext g
        replace m:=m.x g
        replace q:=q.up g.size
        clear g
        refine bA 3 (bN A.c (.slice qa A.b.length qc) A.sx A.se A.sh A.sg (.slice ia A.i.length ic) A.n A.y A.k (.slice pa A.p.length pc)) m fun h50 I r=> ?_
        replace r1:=r1.aO I m (by decide)
        replace r2:=r2.aO I m (by decide)
        replace r3:=r3.aO I m (by decide)
        replace hmW:=hmW.aO I m (by decide) (by omega)
        replace m:=r
        refine sT [] fun a d=>cR (yB (yT ?_))
        refine rB m d ?_
        replace o:=o.grew I (q.l 0)
        rw[dr (by omega),hA];exact⟨⟨_,_,_,_,_,_,rfl,r1,r2,r3,r4,hgA,hmW⟩,MG.aK o⟩
       ·refine rP [(25,.bool (decide (kd=(15:Int))))] d fun a d=>tK<|cJ 25 d (fun Jq=> ?_) fun Jq=> ?_
        ·refine qS d<|tR 1 B ?_
         obtain⟨A,hA⟩:∃A,c7 M kd s=A:=⟨_,rfl⟩
         have hbm:=ak hm
         replace kt:=(kt.ext g2).ext w
         replace o:=o.ext w
         refine tG 2 (s_ _ mb mp M L ck ea ec es (md.ext o) kd n s oa l.length oc ka kn kc hsz kt hE A hA) ?_
         rintro _ ID ⟨qa,qc,ia,ic,pa,pc,rfl,r1,r2,r3,r4,hgA,hmW,g⟩
         replace hgA:=fun k e=>Nat.le_trans o.size (hgA k e)
         replace o:=o.ext g
         replace m:=m.x g
         replace q:=q.up g.size
         clear g
         refine bA 3 (bN A.c (.slice qa A.b.length qc) A.sx A.se A.sh A.sg (.slice ia A.i.length ic) A.n A.y A.k (.slice pa A.p.length pc)) m fun Co J r=> ?_
         replace r1:=r1.aO J m (by decide)
         replace r2:=r2.aO J m (by decide)
         replace r3:=r3.aO J m (by decide)
         replace hmW:=hmW.aO J m (by decide) (by omega)
         replace m:=r
         refine sT [] fun a d=>cR (yB (yT ?_))
         refine rB m d ?_
         replace o:=o.grew J (q.l 0)
         rw[dr (by omega),hA];exact⟨⟨_,_,_,_,_,_,rfl,r1,r2,r3,r4,hgA,hmW⟩,MG.aK o⟩
        ·refine cS<|qP [(33,.bool (decide (kd=(7:Int))))] d fun a d=>cJ 33 d (fun K=> ?_) fun K=> ?_
         ·refine cN<|tK<|cJ 33 d (fun FP=> ?_) fun FP=>absurd K FP
          refine rS d<|tO 2 0 B<|eF 3 kd 8 ?_
          replace o:=o.ext w
          refine tG 4 (Az _ mb mp M L ck ea ec es (md.ext o) hE) ?_
          rintro _ Cp ⟨N,C,rfl,u,Jr,rp⟩
          replace q:=q.co rp Jr u o.size
          replace m:=m.x rp
          refine tV 6 39 [.slice N ((iJ M).length) C] (bN (0:Int) (.slice none 0 0) dn 0 false false (.slice N ((iJ M).length) C) (0:Int) dn (0:Int) (.slice none 0 0)) m fun h63 vH r=> ?_
          replace m:=r
          refine sE [] fun a d=>bK<|tK<|qS d<|tR 0 m<|bA 1 (bN (0:Int) (.slice none 0 0) dn 0 false false (.slice N ((iJ M).length) C) (0:Int) dn (0:Int) (.slice none 0 0)) m fun h65 zf r=> ?_
          replace m:=r
          refine sT [] fun a d=>cR<|rB m d ?_
          replace o:=((o.ext rp).grew vH (q.l 1)).grew zf (q.l 1)
          replace u:=(u.k vH (q.ap 0 1)).k zf (q.ap 0 1)
          rw[py K];exact⟨g' md o rfl (Own.nil _ _ _) e8 u (q.low 0 rfl) (Own.nil _ _ _) e8 aq.nil,MG.aK o⟩
         ·refine rP [(33,.bool (decide (kd=(8:Int))))] d fun a d=>tK<|cJ 33 d (fun FQ=> ?_) fun FQ=> ?_
          ·refine rS d<|tO 2 0 B<|eT 3 kd 8 ?_
           replace o:=o.ext w
           refine tG 4 (AA _ mb mp M L ck ea ec es (md.ext o) hE) ?_
           rintro _ h72 ⟨O,D,rfl,u,De,C2⟩
           replace q:=q.co C2 De u o.size
           replace m:=m.x C2
           refine tV 6 39 [.slice O ((eE M).length) D] (bN (0:Int) (.slice none 0 0) dn 0 false false (.slice O ((eE M).length) D) (0:Int) dn (0:Int) (.slice none 0 0)) m fun zu Ac r=> ?_
           replace m:=r
           refine sE [] fun a d=>bK<|tK<|qS d<|tR 0 m<|bA 1 (bN (0:Int) (.slice none 0 0) dn 0 false false (.slice O ((eE M).length) D) (0:Int) dn (0:Int) (.slice none 0 0)) m fun Ax z8 r=> ?_
           replace m:=r
           refine sT [] fun a d=>cR<|rB m d ?_
           replace o:=((o.ext C2).grew Ac (q.l 1)).grew z8 (q.l 1)
           replace u:=(u.k Ac (q.ap 0 1)).k z8 (q.ap 0 1)
           rw[pz FQ];exact⟨g' md o rfl (Own.nil _ _ _) e8 u (q.low 0 rfl) (Own.nil _ _ _) e8 aq.nil,MG.aK o⟩
          ·refine qP [(42,.bool (decide (kd=(9:Int))))] d fun a d=>cJ 42 d (fun FR=> ?_) fun FR=> ?_
           ·refine cD [0,1,3,7,15,0,32,96,255,511,1023] 18 mixed d<|mP 7 [0,1,2] [pV mb,pV mb,.pointer (some ⟨mb,1,none⟩)] ?_
            replace o:=o.ext w
            refine mO 15 8 3 1 (.slice ea M.E.length ec) (o.blk hm)<|mP 63 [4,5] [nV M.E.length,pV mb] ?_
            replace kt:=(kt.ext g2).ext w
            refine fT 127 96 6 [3] (Does.call (f:=37) (args:= #[.pointer (some ⟨mb,0,none⟩)]) (by kernel_rfl) (lL _ mb mp M L ck ea ec es (md.ext o) kt hE)) ?_
            rintro _ h82 ⟨Js,FT,rfl,P,Jt,R⟩
            replace q:=q.co R Jt P o.size
            replace o:=o.ext R
            refine⟨?_,?_⟩
            ·intro j hj
             simp only[List.mem_cons,List.not_mem_nil,or_false] at hj
             subst hj
             exact aG (Calm.load (T:=67) (p:=⟨mb,1,none⟩) (by kernel_rfl) (Loads.one (k:=1) (by kernel_rfl) ((an (o.blk hm)).trans rfl)))
            replace kt:=kt.ext R
            refine fT 255 224 7 [3] (Does.call (f:=36) (args:= #[.slice Js M.E.length FT]) (by kernel_rfl) (AD _ (cE M.E) _ _ M.E.length (HR.of P (gZ _)) (by omega) kt)) ?_
            rintro _ h84 ⟨rfl,Eb⟩
            replace o:=o.ext Eb
            refine⟨?_,?_⟩
            ·intro j hj
             simp only[List.mem_cons,List.not_mem_nil,or_false] at hj
             subst hj
             exact aG (Calm.load (T:=67) (p:=⟨mb,1,none⟩) (by kernel_rfl) (Loads.one (k:=1) (by kernel_rfl) ((an (o.blk hm)).trans rfl)))
            refine mP 1023 [8,9] [.agg (hdc ((M.E.length :Nat):Int) (pf (root (cE M.E)))).toArray,.pointer (some ⟨h1.size,40,none⟩)] ?_
            replace m:=(m.x R).x Eb
            refine mV 2047 2047 10 40 (hdc ((M.E.length :Nat):Int) (pf (root (cE M.E)))) (bN (0:Int) (.slice none 0 0) dn 0 false false (.slice none 0 0) ((M.E.length :Nat):Int) (pf (root (cE M.E))) (0:Int) (.slice none 0 0)) m fun Hk vJ r=> ?_
            replace m:=r
            refine mE [] fun a d=>bK<|tK<|qS d<|tR 0 m<|bA 1 (bN (0:Int) (.slice none 0 0) dn 0 false false (.slice none 0 0) ((M.E.length :Nat):Int) (pf (root (cE M.E))) (0:Int) (.slice none 0 0)) m fun h87 Ff r=> ?_
            replace m:=r
            refine sT [] fun a d=>cR<|rB m d ?_
            replace o:=(o.grew vJ (q.l 1)).grew Ff (q.l 1)
            rw[step_head FR];exact⟨g' md o rfl (Own.nil _ _ _) e8 (Own.nil _ _ _) e8 (Own.nil _ _ _) e8 aq.nil,MG.aK o⟩
           ·refine qP [(54,.bool (decide (kd=(10:Int))))] d fun a d=>cJ 54 d (fun FU=> ?_) fun FU=> ?_
            ·refine cD [0,1,3,7,0,16,48,0,128,384,896,1920,4080,8191,16383,32767,65535] 20 mixed d<|mP 7 [0,1,2] [pV mb,pV mb,.pointer (some ⟨mb,2,none⟩)] ?_
             replace o:=o.ext w
             refine mO 15 8 3 2 (.int .i64 M.t) (o.blk hm)<|mP 31 [4] [.pointer (some ⟨h.size,3,none⟩)]<|mO 63 40 5 3 (.int .i64 n) B<|m1 127 6 (.int .i64 (max 0 n)) (.int .i64 (if n>(0:Int) then n else (0:Int))) (congrArg (Value.int .i64) (by omega))<|mP 1023 [7,8,9] [pV mb,pV mb,.pointer (some ⟨mb,2,none⟩)]<|mO 2047 1064 10 2 (.int .i64 M.t) (o.blk hm)<|m1 4095 11 (.int .i64 (1099511627776 - M.t)) (.int .i64 (IntKind.i64.wrap ((1099511627776:Int) - M.t))) (congrArg (Value.int .i64) (k7 (by have:=md.t0;have:=md.t1;omega) (by have:=md.t0;have:=md.t1;omega))) ?_
             refine m1 8191 12 (.int .i64 (min (max 0 n) (1099511627776 - M.t))) (.int .i64 (if (1099511627776 - M.t)<(max 0 n) then (1099511627776 - M.t) else (max 0 n))) (congrArg (Value.int .i64) (by have:=md.t0;have:=md.t1;omega))<|m1 16383 13 (.int .i64 (M.t +min (max 0 n) (1099511627776 - M.t))) (.int .i64 (IntKind.i64.wrap (M.t +min (max 0 n) (1099511627776 - M.t)))) (congrArg (Value.int .i64) (k7 (by have:=md.t0;have:=md.t1;omega) (by have:=md.t0;have:=md.t1;omega)))<|mP 65535 [14,15] [pV mb,.pointer (some ⟨mb,2,none⟩)] ?_
             have hmo:=o.blk hm
             refine iO 131071 131071 16 (Does.store (b:=mb) (off:=2) (vs:=[.int .i64 (M.t +min (max 0 n) (1099511627776 - M.t))]) (l:=[.map (some mp),.slice ea M.E.length ec,.int .i64 M.t]) (by kernel_rfl) hmo (of_decide_eq_true (by kernel_rfl)) (List.all_eq_true.1 (by kernel_rfl))) ?_
             rintro _ Ju ⟨rfl,hh⟩
             have gt:=bC hh
             have hmn:Ju[mb]? =some (.cells ([.map (some mp),.slice ea M.E.length ec,.int .i64 (M.t +min (max 0 n) (1099511627776 - M.t))]).toArray 83):=bR (off:=2) (vs:=[.int .i64 (M.t +min (max 0 n) (1099511627776 - M.t))]) (l:=[.map (some mp),.slice ea M.E.length ec,.int .i64 M.t]) hh (by kernel_rfl) hmo
             have ht0:=md.t0;have ht1:=md.t1
             have hmod:eD W Ju mb mp ⟨M.f,M.E,(M.t +min (max 0 n) (1099511627776 - M.t))⟩:=⟨_,_,_,_,_,(md.ext o).tick gt hmn (by omega) (by omega)⟩
             have F:=MG.Iv (p:=mp) gt
             have z:MG mb mp h Ju:=(MG.aK o).trans F
             have hbm:=ak hm;have hbp:=ak hp
             replace m:=F.blk m (by omega) (by omega)
             refine mE [] fun a d=>bK<|tK<|qS d<|tR 0 m<|bA 1 (b6 0) m fun NN Ec r=> ?_
             replace hmod:=hmod.aO Ec m (by decide) (by omega)
             replace m:=r
             refine sT [] fun a d=>cR<|rB m d ?_
             replace z:=z.mS Ec (fun x e=>by cases e;omega)
             rw[eJ FU];exact⟨j2 hmod 0,z⟩
            ·refine cS<|qP [(72,.bool (decide (kd=(11:Int))))] d fun a d=>cJ 72 d (fun hc93=> ?_) fun hc93=> ?_
             ·refine cN<|tK<|cJ 72 d (fun FV=> ?_) fun FV=>absurd hc93 FV
              refine cN<|bK<|tK<|qS d<|tR 0 m<|bA 1 (b6 0) m fun h95 NO r=> ?_
              replace m:=r
              refine sT [] fun a d=>cR<|rB m d ?_
              replace o:=(o.ext w).grew NO (q.l 0)
              rw[b1 (by omega)];exact⟨fF md o 0,MG.aK o⟩
             ·refine qP [(72,.bool (decide (kd=(12:Int))))] d fun a d=>cJ 72 d (fun FW=> ?_) fun FW=> ?_
              ·refine cN<|tK<|cJ 72 d (fun hx98=> ?_) fun hx98=>absurd FW hx98
               refine cN<|bK<|tK<|qS d<|tR 0 m<|bA 1 (b6 0) m fun h99 Jv r=> ?_
               replace m:=r
               refine sT [] fun a d=>cR<|rB m d ?_
               replace o:=(o.ext w).grew Jv (q.l 0)
               rw[b1 (by omega)];exact⟨fF md o 0,MG.aK o⟩
              ·refine qP [(72,.bool (decide (kd=(13:Int))))] d fun a d=>cJ 72 d (fun Q=> ?_) fun Q=> ?_
               ·refine cN<|tK<|cJ 72 d (fun hx102=> ?_) fun hx102=>absurd Q hx102
                refine cN<|bK<|tK<|qS d<|tR 0 m<|bA 1 (b6 0) m fun FX Jw r=> ?_
                replace m:=r
                refine sT [] fun a d=>cR<|rB m d ?_
                replace o:=(o.ext w).grew Jw (q.l 0)
                rw[b1 (by omega)];exact⟨fF md o 0,MG.aK o⟩
               ·refine rP [(72,.bool (decide (kd=(14:Int))))] d fun a d=>tK<|cJ 72 d (fun FY=> ?_) fun FY=> ?_
                ·refine cN<|bK<|tK<|qS d<|tR 0 m<|bA 1 (b6 0) m fun zy Jx r=> ?_
                 replace m:=r
                 refine sT [] fun a d=>cR<|rB m d ?_
                 replace o:=(o.ext w).grew Jx (q.l 0)
                 rw[b1 (by omega)];exact⟨fF md o 0,MG.aK o⟩
                ·refine rS d<|tV 1 0 [.int .i64 1] (b6 1) m fun NP Jy r=> ?_
                 replace m:=r
                 refine sE [] fun a d=>bK<|tK<|qS d<|tR 0 m<|bA 1 (b6 1) m fun Ad Jz r=> ?_
                 replace m:=r
                 refine sT [] fun a d=>cR<|rB m d ?_
                 replace o:=((o.ext w).grew Jy (q.l 0)).grew Jz (q.l 0)
                 rw[kN (by omega) (by omega) (by omega) (by omega) (by omega) (by omega) (by omega) (by omega)];exact⟨fF md o 1,MG.aK o⟩
theorem Df(h:Heap)(mb mp:Nat)(M:Md)(m:Mod h mb mp M)(kd n:Int)(s:ByteArray)(l:List UInt8)(oa:Option Addr)(oc:Nat)(ka:Option Addr)(kn kc:Nat)(hr:Row h (.slice oa l.length oc) l.length 1 (l.map bv))(hsz:s.size ≤9223372036854775807)(kt:bl h)(hE:M.E.length ≤1099511627):Sat Tryz.prog 17 #[.pointer (some ⟨mb,0,none⟩),.agg #[.int .i64 kd,.string s,.slice oa l.length oc,.int .i64 n,.slice ka kn kc]] h fun v h'=>AnsAt h' v (step M kd n s l).2 ∧Mod h' mb mp (step M kd n s l).1 ∧MG mb mp h h':=by
 obtain⟨L,ck,ea,ec,es,md⟩:=m
 exact(Jp h mb mp M L ck ea ec es md (fun _ e=>e.elim) kd n s l oa oc ka kn kc hr hsz kt hE).mono fun v h' ⟨a,g⟩=>⟨a.at_,a.mod,g⟩
noncomputable def b15:Code:=Tryz.f15.body.getD .skip
theorem bH.new{W:Nat→Prop}{h:Heap}{b p:Nat}(m:h[b]? =some (.cells #[.map (some p),.slice none 0 0,.int .i64 0] 83))(hp:h[p]? =some (.map #[] 0))(kp:0<p)(kb:0<b):eD W h b p ⟨fun _=>none,[],0⟩:=
 ⟨[],0,none,0,[],{hm:=m,hp:=hp,bo:=⟨by simp,by simp⟩,nd:=by simp,ob:=by simp,al:=by simp,er:=cr.nil _ _ _,en:=⟨rfl,by simp⟩,ln:=rfl,t0:=by decide,t1:=by decide,kb:=kb,kp:=kp}⟩
theorem BM(h:Heap)(hk0:0<h.size):Sat Tryz.prog 15 #[] h fun v h'=>∃b p,v= .pointer (some ⟨b,0,none⟩)∧Mod h' b p ⟨fun _=>none,[],0⟩∧h.size ≤b∧h.size ≤p∧Ext h h':=by
 have c:=Ext.refl h
 refine ag Tryz.func15 4 fun a d=>qP [] d fun a d=>qS d<|tF 0 (Does.new (v:= .map (some h.size)) (o:= .map #[] 0) (by kernel_rfl)) ?_
 rintro _ e ⟨rfl,hh⟩
 have g:=aY hh
 have mp:=bj hh
 clear hh
 refine tN 2 (pV e.size) #[.map (some h.size),.slice none 0 0,.int .i64 0] 83 fun k f i=> ?_
 replace c:=c.ext g
 have j:=c.size
 refine sT [(0,pV e.size)] fun a d=>cR<|rT 0 (pV e.size) d ?_
 replace c:=c.ext f
 replace mp:=Ext.blk f mp
 exact⟨_,_,rfl,bH.new i mp hk0 (by omega),by omega,Nat.le_refl _,c⟩
noncomputable def b23:Code:=Tryz.f23.body.getD .skip
set_option maxHeartbeats 1000000 in
theorem AG{W:Nat→Prop}(h:Heap)(mb mp:Nat)(M:Md)(L:List bV)(ck:Nat)(ea:Option Addr)(ec:Nat)(es:List Value)(md:bH W h mb mp M L ck ea ec es)(hW:∀k,W k→k<h.size)(hE:M.E.length ≤1099511627):Sat Tryz.prog 23 #[.pointer (some ⟨mb,0,none⟩)] h fun v h'=>∃c q,v= .pointer (some ⟨c,0,none⟩)∧eD W h' c q M∧h.size ≤c∧h.size ≤q∧Ext h h':=by
 have hm:=md.hm
 have hp:=md.hp
 obtain⟨aB,hg⟩:=md.choose
 have hLn:=md.ln
 have r:=Ext.refl h
 have d:Sep h.size h.size []:=Sep.nil _ _
 refine ag Tryz.func23 40 fun a s=>qP [] s fun a s=>cS<|cD [0,1,3,7,15,31,0,64,192,448,991,0,2048,6144,14336,32767,65535,131071] 1 mixed s<|mP 7 [0,1,2] [pV mb,pV mb,pV mb]<|mO 15 8 3 0 (.map (some mp)) (r.blk hm)<|mL 31 24 4 (.int .i64 ((L.length :Nat):Int)) (Calm.ll (by kernel_rfl) (r.blk hp) rfl) ?_
 refine mP 479 [6,7,8] [pV mb,pV mb,.pointer (some ⟨mb,1,none⟩)]<|mO 991 536 9 1 (.slice ea M.E.length ec) (r.blk hm)<|mP 15327 [11,12,13] [pV mb,pV mb,.pointer (some ⟨mb,2,none⟩)]<|mO 31711 16920 14 2 (.int .i64 M.t) (r.blk hm)<|aH.oK (is:=[5,10]) (by kernel_rfl) (by simp) ?_
 intro q hq
 simp only[List.mem_cons,List.not_mem_nil,or_false] at hq
 rcases hq with rfl|rfl
 ·refine qg 31743 63 5 [9,14] (Does.new (v:= .map (some h.size)) (o:= .map #[] 0) (by kernel_rfl)) ?_
  rintro _ h1 ⟨rfl,hh⟩
  have g:=aY hh
  have hq:=bj hh
  have z:=r.size
  have a8:=d
  replace r:=r.ext g
  replace d:=a8.new z (ak hq)
  clear a8 z hh g
  refine⟨?_,?_⟩
  ·intro j hj
   simp only[List.mem_cons,List.not_mem_nil,or_false] at hj
   rcases hj with rfl|rfl
   ·exact aG (Calm.load (T:=67) (p:=⟨mb,1,none⟩) (by kernel_rfl) (Loads.one (k:=1) (by kernel_rfl) ((an (r.blk hm)).trans rfl)))
   ·exact aG (Calm.load (T:=3) (p:=⟨mb,2,none⟩) (by kernel_rfl) (Loads.one (k:=1) (by kernel_rfl) ((an (r.blk hm)).trans rfl)))
  refine fT 32767 2047 10 [14] (Does.call (f:=44) (args:= #[.slice ea M.E.length ec]) (by kernel_rfl) (lI _ es M.E.length ea ec (md.er.1.1.ext r) (by omega) (fp md.en))) ?_
  rintro _ K ⟨H,G,rfl,i,hg5,g4⟩
  replace d:=d.co g4 hg5 i r.size
  replace r:=r.ext g4
  refine⟨?_,?_⟩
  ·intro j hj
   simp only[List.mem_cons,List.not_mem_nil,or_false] at hj
   subst hj
   exact aG (Calm.load (T:=3) (p:=⟨mb,2,none⟩) (by kernel_rfl) (Loads.one (k:=1) (by kernel_rfl) ((an (r.blk hm)).trans rfl)))
  refine mP 65535 [15] [.agg #[.map (some h.size),.slice H M.E.length G,.int .i64 M.t]]<|mN 131071 131071 16 (pV K.size) #[.map (some h.size),.slice H M.E.length G,.int .i64 M.t] 83 fun Y g8 F=> ?_
  replace d:=d.nw r.size F
  refine mP 262143 [17] [pV K.size]<|mE [(3,pV K.size)] fun a s=>tK<|cS<|qS s ?_
  replace r:=r.ext g8
  refine tO 3 0 (r.blk hm)<|tF 4 (Does.range (t:=81) (k:=9) (el:=101) (by kernel_rfl) (by kernel_rfl) (r.blk hp)) ?_
  rintro _ h10 ⟨rfl,hh⟩
  have g:=aY hh
  have hit:=bj hh
  have z:=r.size
  have a8:=d
  replace hq:=g8.blk (g4.blk hq)
  replace i:=i.ext g8
  replace r:=r.ext g
  replace hq:=g.blk hq
  replace i:=i.ext g
  replace F:=F.x g
  replace d:=a8.new z (ak hit)
  clear a8 z hh g
  refine sT [(27,pV Y.size)] fun a s=>cB 0 ?_
  have hq:h10[h.size]? =some (.map (ents ([]:List bV)) ([]:List bV).length):=hq
  refine cL (fun m a h'=>∃D:List bV,∃R:List bV,∃N:List bV,m=R.length ∧(Ext h h')∧(h'[K.size]? =some (.cells #[.map (some h.size),.slice H M.E.length G,.int .i64 M.t] 83))∧((D++R).Perm L)∧(N.map pr=D.map pr)∧(Born N N.length)∧(h'[Y.size]? =some (oU mp ck D))∧(h'[h.size]? =some (.map (ents N) N.length))∧(Own h' (.slice H M.E.length G) 32 M.E.length 1 es)∧(Sep h.size h'.size [some (Y.size),some (K.size),H.map (·.block),some (h.size)])∧(Fr a 40 [(3,.pointer (some ⟨K.size,0,none⟩)),(27,.pointer (some ⟨Y.size,0,none⟩))])) (L.length) ⟨[],L,[],rfl,r,F,(List.Perm.refl _),rfl,Born.nil,hit,hq,i,d,s.to⟩ ?_
  clear s a
  clear r
  clear F
  clear hit
  clear hq
  clear i
  clear d
  rintro m a h11 ⟨D,R,N,rfl,r,F,hP,hN,hB,hit,hq,i,d,s⟩
  refine cS ?_
  rcases(by cases R<;>simp:R=[]∨R≠[]) with V|V
  ·refine rS s<|tC 0 (.tuple #[.bool false]) (jq (by kernel_rfl) hit (r.blk hp) hP md.bo V)<|sE [(29,.bool false)] fun a s=>tK<|cS<|cF 29 s<|cX 0 (xT (xT (xB ?_)))
   refine tK<|qP [(2,pV K.size)] s fun a s=>cR<|rT 2 (pV K.size) s ?_
   subst V
   rw[List.append_nil] at hP
   exact⟨_,_,rfl,md.cloned r F hq hN hP hB i (d.low 1 rfl _ rfl) (d.low 3 rfl _ rfl) hW (d.low 2 rfl),d.low 1 rfl _ rfl,d.low 3 rfl _ rfl,r⟩
  ·refine rS s<|tF 0 (gy (by kernel_rfl) hit (r.blk hp) hP md.bo V) ?_
   rintro _ Z ⟨x,R',hP2,hRl,hxL,rfl,hh⟩
   obtain⟨hit2,gi⟩:=jr hh hit
   replace r:=r.grew gi (d.l 0)
   replace i:=i.k gi (d.ap 2 0)
   replace hit:=hit
   replace hq:=gi.blk hq (d.bp 3 0)
   replace F:=F.y gi (d.bp 1 0)
   replace d:=d.up gi.size
   clear hit;have hit:=hit2;clear hit2 hh gi
   have hh3:=hg x hxL
   have hDl:D.length <L.length :=by have:=hP2.length_eq;simp at this;omega
   refine sE [(29,.bool true)] fun a s=>tK<|cS<|cT 29 s<|cN<|tK<|cB 1 ?_
   refine qS s<|tC 0 (.tuple #[.string x.1,.agg (c8 ((aL aB x).b) ((aL aB x).e) ((aL aB x).ho) ((aL aB x).go) (.slice (aL aB x).ad ((aL aB x).n) ((aL aB x).cap)) (.slice (aB x).ba ((aB x).o.dt.length) ((aB x).bc))).toArray]) (lB (by kernel_rfl) hit (r.blk hp) hxL md.bo hh3.hv)<|tN 3 (pV Z.size) ((c6 (.slice none 0 0)).toArray) 101 fun h13 O P=> ?_
   replace d:=d.nw r.size P
   refine bA 5 (c8 ((aL aB x).b) ((aL aB x).e) ((aL aB x).ho) ((aL aB x).go) (.slice (aL aB x).ad ((aL aB x).n) ((aL aB x).cap)) (.slice (aB x).ba ((aB x).o.dt.length) ((aB x).bc))) P fun h16 I zq=> ?_
   replace P:=zq
   refine sT [(4,.string x.1),(5,pV Z.size)] fun a s=>cD [0,1,3,7,0,0,63] 5 mixed s<|mP 7 [0,1,2] [pV K.size,pV K.size,pV K.size] ?_
   replace F:=(F.x O).y I (d.bp 2 0)
   refine mO 15 8 3 0 (.map (some h.size)) F<|mP 31 [4] [.string x.1]<|mR 63 40 5 P ?_
   replace hq:=I.blk (O.blk hq) (d.bp 4 0)
   refine iO 127 127 6 (Does.qH (t:=81) (k:=9) (el:=101) (v:= .agg (c8 ((aL aB x).b) ((aL aB x).e) ((aL aB x).ho) ((aL aB x).go) (.slice (aL aB x).ad ((aL aB x).n) ((aL aB x).cap)) (.slice (aB x).ba ((aB x).o.dt.length) ((aB x).bc))).toArray) (by kernel_rfl) (by kernel_rfl) (by kernel_rfl) hq (wN hN hP2 md.nd)) ?_
   rintro _ h18 ⟨rfl,hh⟩
   have gq:=bC hh
   have hq2:=fo hh hq
   replace r:=(r.ext O).grew I (d.l 0)
   replace i:=(i.ext O).k I (d.ap 3 0)
   replace hit:=I.blk (O.blk hit) (d.bp 1 0)
   replace d:=d.up I.size
   replace r:=r.grew gq (d.l 4)
   replace i:=i.k gq (d.ap 3 4)
   replace hit:=gq.blk hit (d.bp 1 4)
   replace hq:=hq
   replace F:=F.y gq (d.bp 2 4)
   replace d:=d.up gq.size
   rw[show N.length +1=(N++[(x.1,(.agg (c8 ((aL aB x).b) ((aL aB x).e) ((aL aB x).ho) ((aL aB x).go) (.slice (aL aB x).ad ((aL aB x).n) ((aL aB x).cap)) (.slice (aB x).ba ((aB x).o.dt.length) ((aB x).bc))).toArray :Value),N.length)]).length by rw[List.length_append];rfl] at hq2
   clear hq;have hq:=hq2;clear hq2 hh gq
   refine mE [] fun a s=>bK ?_
   clear P
   replace d:=d.sub (l':=[some (Y.size),some (K.size),H.map (·.block),some (h.size)]) (.cons _ (.cons_cons _ (.cons_cons _ (.cons_cons _ (.cons_cons _ (.slnil))))))
   show ∃m',m'<_∧_
   refine⟨_,?_,(D++[x]),R',(N++[(x.1,_,N.length)]),rfl,r,F,hP2,(sR hN hh3.hv _),(hB.one _ _),hit,hq,i,d,s.to⟩
   omega
 ·refine qg 32735 2015 10 [14] (Does.call (f:=44) (args:= #[.slice ea M.E.length ec]) (by kernel_rfl) (lI _ es M.E.length ea ec (md.er.1.1.ext r) (by omega) (fp md.en))) ?_
  rintro _ B ⟨A,C,rfl,i,JB,g21⟩
  replace d:=d.co g21 JB i r.size
  replace r:=r.ext g21
  refine⟨?_,?_⟩
  ·intro j hj
   simp only[List.mem_cons,List.not_mem_nil,or_false] at hj
   subst hj
   exact aG (Calm.load (T:=3) (p:=⟨mb,2,none⟩) (by kernel_rfl) (Loads.one (k:=1) (by kernel_rfl) ((an (r.blk hm)).trans rfl)))
  refine fT 32767 2047 5 [14] (Does.new (v:= .map (some B.size)) (o:= .map #[] 0) (by kernel_rfl)) ?_
  rintro _ w ⟨rfl,hh⟩
  have g:=aY hh
  have hq:=bj hh
  have z:=r.size
  have a8:=d
  replace r:=r.ext g
  replace i:=i.ext g
  replace d:=a8.new z (ak hq)
  clear a8 z hh g
  refine⟨?_,?_⟩
  ·intro j hj
   simp only[List.mem_cons,List.not_mem_nil,or_false] at hj
   subst hj
   exact aG (Calm.load (T:=3) (p:=⟨mb,2,none⟩) (by kernel_rfl) (Loads.one (k:=1) (by kernel_rfl) ((an (r.blk hm)).trans rfl)))
  refine mP 65535 [15] [.agg #[.map (some B.size),.slice A M.E.length C,.int .i64 M.t]]<|mN 131071 131071 16 (pV w.size) #[.map (some B.size),.slice A M.E.length C,.int .i64 M.t] 83 fun Q X u=> ?_
  replace d:=d.nw r.size u
  refine mP 262143 [17] [pV w.size]<|mE [(3,pV w.size)] fun a s=>tK<|cS<|qS s ?_
  replace r:=r.ext X
  refine tO 3 0 (r.blk hm)<|tF 4 (Does.range (t:=81) (k:=9) (el:=101) (by kernel_rfl) (by kernel_rfl) (r.blk hp)) ?_
  rintro _ h28 ⟨rfl,hh⟩
  have g:=aY hh
  have hit:=bj hh
  have z:=r.size
  have a8:=d
  replace i:=i.ext X
  replace hq:=X.blk hq
  replace r:=r.ext g
  replace i:=i.ext g
  replace hq:=g.blk hq
  replace u:=u.x g
  replace d:=a8.new z (ak hit)
  clear a8 z hh g
  refine sT [(27,pV Q.size)] fun a s=>cB 0 ?_
  have hq:h28[B.size]? =some (.map (ents ([]:List bV)) ([]:List bV).length):=hq
  refine cL (fun m a h'=>∃D:List bV,∃R:List bV,∃N:List bV,m=R.length ∧(Ext h h')∧(h'[w.size]? =some (.cells #[.map (some B.size),.slice A M.E.length C,.int .i64 M.t] 83))∧((D++R).Perm L)∧(N.map pr=D.map pr)∧(Born N N.length)∧(h'[Q.size]? =some (oU mp ck D))∧(h'[B.size]? =some (.map (ents N) N.length))∧(Own h' (.slice A M.E.length C) 32 M.E.length 1 es)∧(Sep h.size h'.size [some (Q.size),some (w.size),some (B.size),A.map (·.block)])∧(Fr a 40 [(3,.pointer (some ⟨w.size,0,none⟩)),(27,.pointer (some ⟨Q.size,0,none⟩))])) (L.length) ⟨[],L,[],rfl,r,u,(List.Perm.refl _),rfl,Born.nil,hit,hq,i,d,s.to⟩ ?_
  clear s a
  clear r
  clear u
  clear hit
  clear hq
  clear i
  clear d
  rintro m a FM ⟨D,R,N,rfl,r,u,hP,hN,hB,hit,hq,i,d,s⟩
  refine cS ?_
  rcases(by cases R<;>simp:R=[]∨R≠[]) with V|V
  ·refine rS s<|tC 0 (.tuple #[.bool false]) (jq (by kernel_rfl) hit (r.blk hp) hP md.bo V)<|sE [(29,.bool false)] fun a s=>tK<|cS<|cF 29 s<|cX 0 (xT (xT (xB ?_)))
   refine tK<|qP [(2,pV w.size)] s fun a s=>cR<|rT 2 (pV w.size) s ?_
   subst V
   rw[List.append_nil] at hP
   exact⟨_,_,rfl,md.cloned r u hq hN hP hB i (d.low 1 rfl _ rfl) (d.low 2 rfl _ rfl) hW (d.low 3 rfl),d.low 1 rfl _ rfl,d.low 2 rfl _ rfl,r⟩
  ·refine rS s<|tF 0 (gy (by kernel_rfl) hit (r.blk hp) hP md.bo V) ?_
   rintro _ h30 ⟨x,R',hP2,hRl,hxL,rfl,hh⟩
   obtain⟨hit2,gi⟩:=jr hh hit
   replace r:=r.grew gi (d.l 0)
   replace i:=i.k gi (d.ap 3 0)
   replace hit:=hit
   replace hq:=gi.blk hq (d.bp 2 0)
   replace u:=u.y gi (d.bp 1 0)
   replace d:=d.up gi.size
   clear hit;have hit:=hit2;clear hit2 hh gi
   have hh3:=hg x hxL
   have hDl:D.length <L.length :=by have:=hP2.length_eq;simp at this;omega
   refine sE [(29,.bool true)] fun a s=>tK<|cS<|cT 29 s<|cN<|tK<|cB 1 ?_
   refine qS s<|tC 0 (.tuple #[.string x.1,.agg (c8 ((aL aB x).b) ((aL aB x).e) ((aL aB x).ho) ((aL aB x).go) (.slice (aL aB x).ad ((aL aB x).n) ((aL aB x).cap)) (.slice (aB x).ba ((aB x).o.dt.length) ((aB x).bc))).toArray]) (lB (by kernel_rfl) hit (r.blk hp) hxL md.bo hh3.hv)<|tN 3 (pV h30.size) ((c6 (.slice none 0 0)).toArray) 101 fun h31 S U=> ?_
   replace d:=d.nw r.size U
   refine bA 5 (c8 ((aL aB x).b) ((aL aB x).e) ((aL aB x).ho) ((aL aB x).go) (.slice (aL aB x).ad ((aL aB x).n) ((aL aB x).cap)) (.slice (aB x).ba ((aB x).o.dt.length) ((aB x).bc))) U fun vk J zq=> ?_
   replace U:=zq
   refine sT [(4,.string x.1),(5,pV h30.size)] fun a s=>cD [0,1,3,7,0,0,63] 5 mixed s<|mP 7 [0,1,2] [pV w.size,pV w.size,pV w.size] ?_
   replace u:=(u.x S).y J (d.bp 2 0)
   refine mO 15 8 3 0 (.map (some B.size)) u<|mP 31 [4] [.string x.1]<|mR 63 40 5 U ?_
   replace hq:=J.blk (S.blk hq) (d.bp 3 0)
   refine iO 127 127 6 (Does.qH (t:=81) (k:=9) (el:=101) (v:= .agg (c8 ((aL aB x).b) ((aL aB x).e) ((aL aB x).ho) ((aL aB x).go) (.slice (aL aB x).ad ((aL aB x).n) ((aL aB x).cap)) (.slice (aB x).ba ((aB x).o.dt.length) ((aB x).bc))).toArray) (by kernel_rfl) (by kernel_rfl) (by kernel_rfl) hq (wN hN hP2 md.nd)) ?_
   rintro _ Cm ⟨rfl,hh⟩
   have gq:=bC hh
   have hq2:=fo hh hq
   replace r:=(r.ext S).grew J (d.l 0)
   replace i:=(i.ext S).k J (d.ap 4 0)
   replace hit:=J.blk (S.blk hit) (d.bp 1 0)
   replace d:=d.up J.size
   replace r:=r.grew gq (d.l 3)
   replace i:=i.k gq (d.ap 4 3)
   replace hit:=gq.blk hit (d.bp 1 3)
   replace hq:=hq
   replace u:=u.y gq (d.bp 2 3)
   replace d:=d.up gq.size
   rw[show N.length +1=(N++[(x.1,(.agg (c8 ((aL aB x).b) ((aL aB x).e) ((aL aB x).ho) ((aL aB x).go) (.slice (aL aB x).ad ((aL aB x).n) ((aL aB x).cap)) (.slice (aB x).ba ((aB x).o.dt.length) ((aB x).bc))).toArray :Value),N.length)]).length by rw[List.length_append];rfl] at hq2
   clear hq;have hq:=hq2;clear hq2 hh gq
   refine mE [] fun a s=>bK ?_
   clear U
   replace d:=d.sub (l':=[some (Q.size),some (w.size),some (B.size),A.map (·.block)]) (.cons _ (.cons_cons _ (.cons_cons _ (.cons_cons _ (.cons_cons _ (.slnil))))))
   show ∃m',m'<_∧_
   refine⟨_,?_,(D++[x]),R',(N++[(x.1,_,N.length)]),rfl,r,u,hP2,(sR hN hh3.hv _),(hB.one _ _),hit,hq,i,d,s.to⟩
   omega
noncomputable def b20:Code:=Tryz.f20.body.getD .skip
end Go.Proofs.YtegkejcglfgpmaaGreatDoor
end
section
namespace Go.aN
open Go Go.aj
/-! ### two models are the same -/
def uP(o p:Ob):Prop:=fG o.b o.e o.ho o.go p.b p.e p.ho p.go =true∧o.dt =p.dt
def pP:Option Ob→Option Ob→Prop
  |none,none=>True
  |some o,some p=>uP o p
  |_,_=>False
def iB(M N:Md):Prop:=(∀s,pP (M.f s) (N.f s))∧M.E =N.E
open Classical in
noncomputable def ef(M N:Md):Bool:=decide (iB M N)
section
variable {M N:Md} {s:ByteArray} {o p:Ob} {k:Nat}
theorem xh(h:iB M N):ef M N=true:=by unfold ef;simp[h]
theorem fK(h:¬iB M N):ef M N=false:=by unfold ef;simp[h]
theorem xj(h:M.E.length ≠N.E.length):¬iB M N:=fun k=>h (by rw[k.2])
theorem AH(h:M.f s=some o)(k:N.f s=none):¬iB M N:=fun q=>by have:=q.1 s;rw[h,k] at this;exact this
theorem ta(h:M.f s=some o)(k:N.f s=some p)(n:¬uP o p):¬iB M N:=fun q=>by have:=q.1 s;rw[h,k] at this;exact n this
theorem Dg{e e':List UInt8}(h:M.E[k]? =some e)(j:N.E[k]? =some e')(n:e≠e'):¬iB M N:=fun q=>by rw[q.2,j] at h;cases h;exact n rfl
theorem AI(h:M.f s=some o)(k:N.f s=some p)(n:uP o p):pP (M.f s) (N.f s):=by rw[h,k];exact n
theorem uQ(h:∀i,i<k→M.E[i]? =N.E[i]?)(e:M.E[k]? =N.E[k]?):∀i,i<k+1→M.E[i]? =N.E[i]? :=fun i hi=>by
  rcases Nat.lt_succ_iff_lt_or_eq.1 hi with h1|rfl
  · exact h i h1
  · exact e
theorem xk(hl:M.E.length =N.E.length)(h:∀i,i<k→M.E[i]? =N.E[i]?)(hk:k=M.E.length):M.E =N.E :=List.ext_getElem? fun i=>by
  by_cases hi:i<k
  · exact h i hi
  · rw[List.getElem?_eq_none (by omega),List.getElem?_eq_none (by omega)]
theorem FZ(N:Md)(s:ByteArray)(o:Ob):N.f s=none∨∃p,N.f s=some p∧(fG o.b o.e o.ho o.go p.b p.e p.ho p.go =false∨(fG o.b o.e o.ho o.go p.b p.e p.ho p.go =true∧o.dt ≠p.dt)∨(fG o.b o.e o.ho o.go p.b p.e p.ho p.go =true∧o.dt =p.dt)):=by
  cases h:N.f s with
  |none=>exact .inl rfl
  | some p =>
    refine .inr ⟨p,rfl, ?_⟩
    cases e:fG o.b o.e o.ho o.go p.b p.e p.ho p.go with
    |false=>exact .inl rfl
    |true=>by_cases d:o.dt =p.dt;exact .inr (.inr ⟨rfl,d⟩);exact .inr (.inl ⟨rfl,d⟩)
theorem F0(h:fG o.b o.e o.ho o.go p.b p.e p.ho p.go =false):¬uP o p:=fun k=>by rw[k.1] at h;cases h
theorem F1(h:o.dt ≠p.dt):¬uP o p:=fun k=>h k.2
end
theorem F2{a b:List UInt8}(h:a≠b):(ByteArray.mk a.toArray)≠ByteArray.mk b.toArray :=fun e=>h (by have:=congrArg (fun x:ByteArray=>x.data.toList) e;simpa using this)
theorem xl{a b:List UInt8}(h:a≠b):(!((ByteArray.mk a.toArray).toList ==(ByteArray.mk b.toArray).toList))=true:=by rw[ju,decide_eq_false (F2 h)];rfl
theorem xm{a b:List UInt8}(h:a=b):(!((ByteArray.mk a.toArray).toList ==(ByteArray.mk b.toArray).toList))=false:=by subst h;rw[ju,decide_eq_true rfl];rfl
theorem bH.F4 {W W2 : Nat → Prop} {h : Heap} {b p c q : Nat} {M N : Md} {L L2 : List bV} {ck ck2 : Nat} {ea Dh : Option Addr} {ec AJ : Nat} {es es2 : List Value} (m : bH W h b p M L ck ea ec es) (n : bH W2 h c q N L2 ck2 Dh AJ es2) (hl : M.E.length = N.E.length) (ha : ∀ x ∈ L, pP (M.f x.1) (N.f x.1)) (s : ByteArray) : pP (M.f s) (N.f s) := by
  cases hf:M.f s with
  |some o=>obtain⟨x,hx,rfl⟩:=m.al s o hf;rw[←hf];exact ha x hx
  | none =>
    cases hg:N.f s with
    |none=>trivial
    | some r =>
      exfalso
      have hs:∀x∈L,x.1 ≠s:=fun x hx e=>by obtain⟨o,h1,_⟩:=m.ob x hx;rw[e,hf] at h1;cases h1
      have nd:(s::L.map fun x=>x.1).Nodup :=List.nodup_cons.2 ⟨fun e=>by obtain⟨x,hx,e⟩:=List.mem_map.1 e;exact hs x hx e,m.nd⟩
      have hin:(s::L.map fun x=>x.1) ⊆ L2.map fun x=>x.1 :=fun t ht=>by
        rcases List.mem_cons.1 ht with rfl|ht
        · obtain⟨y,hy,e⟩:=n.al _ _ hg;exact List.mem_map.2 ⟨y,hy,e⟩
        · obtain ⟨x, hx, rfl⟩ := List.mem_map.1 ht
          obtain⟨o,h1,_⟩:=m.ob x hx
          have:=ha x hx
          rw[h1] at this
          cases hn:N.f x.1 with
          |none=>rw[hn] at this;exact this.elim
          |some r=>obtain⟨y,hy,e⟩:=n.al _ _ hn;exact List.mem_map.2 ⟨y,hy,e⟩
      have:=nd.length_le_of_subset hin
      simp only[List.length_cons,List.length_map] at this
      have h1:=m.ln
      have h2:=n.ln
      omega
theorem bH.F5{W:Nat→Prop}{h:Heap}{b p:Nat}{M:Md}{L:List bV}{ck:Nat}{ea:Option Addr}{ec:Nat}{es:List Value}(m:bH W h b p M L ck ea ec es){s:ByteArray}(hf:M.f s=none):∀y∈L,y.1 ≠s:=fun y hy e=>by
  obtain⟨o,h1,_⟩:=m.ob y hy;rw[e,hf] at h1;cases h1
theorem xn{α:Type}{P:α→Prop}{D:List α}{x:α}(h:∀y∈D,P y)(k:P x):∀y∈D++[x],P y:=fun y hy=>(List.mem_append.1 hy).elim (h y) fun e=>by rw[List.mem_singleton.1 e];exact k
end Go.aN
end
section
namespace Go.Proofs.YtegkejcglfgpmaaGreatDoor
open Go Go.aj Go.aN
noncomputable def b25:Code:=Tryz.f25.body.getD .skip
set_option maxHeartbeats 1000000 in
theorem xo{W:Nat→Prop}(h:Heap)(mb mp:Nat)(M:Md)(L:List bV)(ck:Nat)(ea:Option Addr)(ec:Nat)(es:List Value)(md:bH W h mb mp M L ck ea ec es){W2:Nat→Prop}(nb np:Nat)(N:Md)(L2:List bV)(ck2:Nat)(Dh:Option Addr)(AJ:Nat)(es2:List Value)(ru:bH W2 h nb np N L2 ck2 Dh AJ es2)(hl:M.E.length ≤2199023255552):Sat Tryz.prog 25 #[.pointer (some ⟨mb,0,none⟩),.pointer (some ⟨nb,0,none⟩)] h fun v h'=>v= .bool (ef M N)∧Ext h h':=by
 have hm:=md.hm
 have hp:=md.hp
 have hm2:=ru.hm
 have hp2:=ru.hp
 have hLn:=md.ln
 have NQ:=ru.ln
 obtain⟨aB,hg⟩:=md.choose
 have d:=Ext.refl h
 have s:Sep h.size h.size []:=Sep.nil _ _
 refine ag Tryz.func25 94 fun a c=>qP [] c fun a c=>cS<|cS ?_
 rcases(by omega:M.E.length =N.E.length ∨M.E.length ≠N.E.length) with hEl|hEl
 ·refine cD [0,1,3,7,15,0,32,96,224,511,1023,2047,4095,8191,16383,32767,65535,4095,135167,397311,921599,1970175,4194303,8388607] 1 mixed c<|mP 7 [0,1,2] [pV mb,pV mb,pV mb]<|mO 15 8 3 0 (.map (some mp)) (d.blk hm)<|mL 31 24 4 (.int .i64 ((L.length :Nat):Int)) (Calm.ll (by kernel_rfl) (d.blk hp) rfl)<|mP 255 [5,6,7] [pV nb,pV nb,pV nb]<|mO 511 280 8 0 (.map (some np)) (d.blk hm2)<|mL 1023 792 9 (.int .i64 ((L2.length :Nat):Int)) (Calm.ll (by kernel_rfl) (d.blk hp2) rfl) ?_
  refine KW 2047 10 ((L.length :Nat):Int) ((L2.length :Nat):Int)<|mP 32767 [11,12,13,14] [.bool false,pV mb,pV mb,.pointer (some ⟨mb,1,none⟩)]<|mO 65535 33560 15 1 (.slice ea M.E.length ec) (d.blk hm)<|mP 1048575 [16,17,18,19] [nV M.E.length,pV nb,pV nb,.pointer (some ⟨nb,1,none⟩)]<|mO 2097151 1082136 20 1 (.slice Dh N.E.length AJ) (d.blk hm2)<|mP 4194303 [21] [nV N.E.length]<|KW 8388607 22 ((M.E.length :Nat):Int) ((N.E.length :Nat):Int) ?_
  refine mP 16777215 [23] [.bool false]<|mE [(34,.bool false)] fun a c=>tK<|cF 34 c<|cN<|tK<|cS ?_
  refine qS c<|tO 3 0 (d.blk hm)<|tF 4 (Does.range (t:=81) (k:=9) (el:=101) (by kernel_rfl) (by kernel_rfl) (d.blk hp)) ?_
  rintro _ h1 ⟨rfl,hh⟩
  have g:=aY hh
  have hit:=bj hh
  have Q:=d.size
  have a8:=s
  replace d:=d.ext g
  replace s:=a8.new Q (ak hit)
  clear a8 Q hh g
  refine sT [(39,pV h.size)] fun a c=>cB 0<|cL (fun m a h'=>∃D:List bV,∃R:List bV,m=R.length ∧(Ext h h')∧((D++R).Perm L)∧(∀x∈D,pP (M.f x.1) (N.f x.1))∧(h'[h.size]? =some (oU mp ck D))∧(Sep h.size h'.size [some (h.size)])∧(Fr a 94 [(0,.pointer (some ⟨mb,0,none⟩)),(1,.pointer (some ⟨nb,0,none⟩)),(39,.pointer (some ⟨h.size,0,none⟩))])) (L.length) ⟨[],L,rfl,d,(List.Perm.refl _),(fun _ h=>by cases h),hit,s,c.to⟩ ?_
  clear c a
  clear d
  clear hit
  clear s
  rintro m a h2 ⟨D,R,rfl,d,hP,hall,hit,s,c⟩
  refine cS ?_
  rcases(by cases R<;>simp:R=[]∨R≠[]) with hR|hR
  ·refine rS c<|tC 0 (.tuple #[.bool false]) (jq (by kernel_rfl) hit (d.blk hp) hP md.bo hR)<|sE [(41,.bool false)] fun a c=>tK<|cS<|cF 41 c<|cX 0 (xT (xT (xB ?_)))
   refine tK<|cS<|qS c<|tO 3 1 (d.blk hm)<|sT [(75,.slice ea M.E.length ec),(76,nV M.E.length),(77,.int .i64 0)] fun a c=>cB 2 ?_
   subst hR
   rw[List.append_nil] at hP
   refine cL (fun m a h'=>∃k:Nat,m=M.E.length - k∧(Ext h h')∧(k≤M.E.length)∧(∀i,i<k→M.E[i]? =N.E[i]?)∧(Fr a 94 [(1,.pointer (some ⟨nb,0,none⟩)),(75,.slice ea M.E.length ec),(76,.int .i64 ((M.E.length :Nat):Int)),(77,.int .i64 ((k:Nat):Int))])) (M.E.length - 0) ⟨0,rfl,d,(by omega),(fun i h=>absurd h (Nat.not_lt_zero i)),c.to⟩ ?_
   clear c a
   clear d
   rintro m a h3 ⟨k,rfl,d,hk,hen,c⟩
   refine qP [(78,.bool (decide (((k:Nat):Int)<((M.E.length :Nat):Int))))] c fun a c=>cS<|cJ 78 c (fun hc4=> ?_) fun hc4=> ?_
   ·have hkn:k<M.E.length :=by omega
    obtain⟨e,he⟩:∃e,M.E[k]? =some e:=⟨_,List.getElem?_eq_getElem hkn⟩
    obtain⟨e2,he2⟩:∃e,N.E[k]? =some e:=⟨_,List.getElem?_eq_getElem (by omega)⟩
    obtain⟨hel,xa,xc,hes,hrx⟩:=md.en.2 k e he
    obtain⟨_,LS,LU,hes2,F6⟩:=ru.en.2 k e2 he2
    have hFn:=c
    obtain⟨aa,rfl,bW⟩:=md.er.1.1.bg (by omega)
    have c:=hFn;clear hFn
    have hFn:=c
    obtain⟨Ee,rfl,F7⟩:=ru.er.1.1.bg (by omega)
    have c:=hFn;clear hFn
    refine cN<|tK<|cS<|cB 3<|qS c<|tI 1 aa M.E.length 1 k k<|tC 2 (.slice xa e.length xc) (Calm.load (T:=32) (p:=(Addr.add aa k)) (by kernel_rfl) (Loads.one (k:=1) (by kernel_rfl) ((md.er.1.1.ext d).cells _ _ hes))) ?_
    refine sT [(9,nV k),(10,.slice xa e.length xc)] fun a c=>cS ?_
    rcases Classical.em (e=e2) with hee|hee
    ·refine cD [0,1,0,4,12,28,0,124,252,508,1023] 12 mixed c<|mP 1 [0] [.slice xa e.length xc]<|mL 3 2 1 (.string (ByteArray.mk e.toArray)) (Calm.str (l:=e) (by kernel_rfl) (hrx.1.1.ext d))<|mP 31 [2,3,4] [pV nb,pV nb,.pointer (some ⟨nb,1,none⟩)]<|mO 63 34 5 1 (.slice (some Ee) N.E.length AJ) (d.blk hm2)<|mP 127 [6] [nV k]<|mI 255 7 Ee N.E.length 1 k k ?_
     refine mL 511 290 8 (.slice LS e2.length LU) (Calm.load (T:=32) (p:=(Addr.add Ee k)) (by kernel_rfl) (Loads.one (k:=1) (by kernel_rfl) ((ru.er.1.1.ext d).cells _ _ hes2)))<|mL 1023 802 9 (.string (ByteArray.mk e2.toArray)) (Calm.str (l:=e2) (by kernel_rfl) (F6.1.1.ext d))<|m1 2047 10 (.bool false) (.bool (!((ByteArray.mk e.toArray).toList ==(ByteArray.mk e2.toArray).toList))) (congrArg Value.bool (xm hee))<|mE [(92,.bool false)] fun a c=>tK<|cF 92 c<|cN ?_
     refine bK<|tK<|rS c<|tA 0 k 1<|sE [(77,nV (k+1))] fun a c=> ?_
     show ∃m',m'<_∧_
     refine⟨_,?_,(k+1),rfl,d,(by omega),(uQ hen (by rw[he,he2,hee])),c.to⟩
     omega
    ·have hns:=Dg he he2 hee
     refine cD [0,1,0,4,12,28,0,124,252,508,1023] 12 mixed c<|mP 1 [0] [.slice xa e.length xc]<|mL 3 2 1 (.string (ByteArray.mk e.toArray)) (Calm.str (l:=e) (by kernel_rfl) (hrx.1.1.ext d))<|mP 31 [2,3,4] [pV nb,pV nb,.pointer (some ⟨nb,1,none⟩)]<|mO 63 34 5 1 (.slice (some Ee) N.E.length AJ) (d.blk hm2)<|mP 127 [6] [nV k]<|mI 255 7 Ee N.E.length 1 k k ?_
     refine mL 511 290 8 (.slice LS e2.length LU) (Calm.load (T:=32) (p:=(Addr.add Ee k)) (by kernel_rfl) (Loads.one (k:=1) (by kernel_rfl) ((ru.er.1.1.ext d).cells _ _ hes2)))<|mL 1023 802 9 (.string (ByteArray.mk e2.toArray)) (Calm.str (l:=e2) (by kernel_rfl) (F6.1.1.ext d))<|m1 2047 10 (.bool true) (.bool (!((ByteArray.mk e.toArray).toList ==(ByteArray.mk e2.toArray).toList))) (congrArg Value.bool (xl hee))<|mE [(92,.bool true)] fun a c=>tK<|cT 92 c<|qP [(4,.bool false)] c fun a c=> ?_
     refine cR (yB (yT (yT (yB (yT ?_)))))
     exact rT 4 (.bool false) c<|⟨congrArg Value.bool (fK hns).symm,d⟩
   ·refine cX 2 (xT (xT (xB ?_)))
    exact tK<|qP [(4,.bool true)] c fun a c=>cR<|rT 4 (.bool true) c<|⟨congrArg Value.bool (xh ⟨md.F4 ru hEl fun x hx=>hall x (hP.mem_iff.2 hx),xk hEl hen (by omega)⟩).symm,d⟩
  ·refine rS c<|tF 0 (gy (by kernel_rfl) hit (d.blk hp) hP md.bo hR) ?_
   rintro _ h5 ⟨x,R',hP2,hRl,hxL,rfl,hh⟩
   obtain⟨hit2,gi⟩:=jr hh hit
   replace d:=d.grew gi (s.l 0)
   replace hit:=hit
   replace s:=s.up gi.size
   clear hit;have hit:=hit2;clear hit2 hh gi
   have hh3:=hg x hxL
   have hDl:D.length <L.length :=by have:=hP2.length_eq;simp at this;omega
   refine sE [(41,.bool true)] fun a c=>tK<|cS<|cT 41 c<|cN<|tK<|cB 1 ?_
   refine qS c<|tC 0 (.tuple #[.string x.1,.agg (c8 ((aL aB x).b) ((aL aB x).e) ((aL aB x).ho) ((aL aB x).go) (.slice (aL aB x).ad ((aL aB x).n) ((aL aB x).cap)) (.slice (aB x).ba ((aB x).o.dt.length) ((aB x).bc))).toArray]) (lB (by kernel_rfl) hit (d.blk hp) hxL md.bo hh3.hv)<|tN 3 (pV h5.size) ((c6 (.slice none 0 0)).toArray) 101 fun h6 S A=> ?_
   replace s:=s.nw d.size A
   refine bA 5 (c8 ((aL aB x).b) ((aL aB x).e) ((aL aB x).ho) ((aL aB x).go) (.slice (aL aB x).ad ((aL aB x).n) ((aL aB x).cap)) (.slice (aB x).ba ((aB x).o.dt.length) ((aB x).bc))) A fun F B J=> ?_
   replace A:=J
   refine sT [(5,.string x.1),(6,pV h5.size)] fun a c=>cS ?_
   rcases FZ N x.1 (aB x).o with hno|⟨q,hq3,hst|⟨hst,hdt⟩|⟨hst,hdt⟩⟩
   ·have hns:=AH hh3.hf hno
    refine rS c ?_
    replace d:=(d.ext S).grew B (s.l 0)
    refine tO 3 0 (d.blk hm2)<|tC 5 (.tuple #[.agg (c6 (.slice none 0 0)).toArray,.bool false]) (nX (t:=81) 9 101 (by kernel_rfl) (by kernel_rfl) (by kernel_rfl) (.agg (c6 (.slice none 0 0)).toArray) (by kernel_rfl) (d.blk hp2) (ru.F5 hno))<|tN 9 (pV F.size) ((c6 (.slice none 0 0)).toArray) 101 fun h11 g12 U=> ?_
    replace s:=(s.up B.size).nw d.size U
    refine bA 10 (c6 (.slice none 0 0)) U fun kA g15 J=>sE [(7,pV F.size),(8,.bool false)] fun a c=>tK<|cS<|cD [0,1,3,7,15,7,63,127,255,511,1023,2047,4095,1023,9215,25599,65535,131071] 7 mixed c<|mP 262143 [0,1,2,3,4,5,6,7,8,9,10,11,12,13,14,15,16,17] [.bool false,.bool true,.bool true,undef,undef,undef,undef,undef,.bool true,.bool true,undef,undef,undef,undef,undef,undef,undef,.bool true]<|mE [(71,.bool true)] fun a c=> ?_
    refine tK<|cT 71 c<|qP [(4,.bool false)] c fun a c=>cR (yB (yT (yB (yT ?_))))
    refine rT 4 (.bool false) c ?_
    replace d:=(d.ext g12).grew g15 (s.l 0)
    exact⟨congrArg Value.bool (fK hns).symm,d⟩
   ·obtain⟨x2,hx2,hs2,ca,cc,ba,bc,hv2,vp⟩:=ru.at hq3
    have hns:=ta hh3.hf hq3 (F0 hst)
    refine rS c ?_
    replace d:=(d.ext S).grew B (s.l 0)
    refine tO 3 0 (d.blk hm2)<|tC 5 (.tuple #[.agg (c8 q.b q.e q.ho q.go (.slice ca 0 cc) (.slice ba q.dt.length bc)).toArray,.bool true]) (gW (t:=81) 9 101 (by kernel_rfl) (by kernel_rfl) (by kernel_rfl) (.agg (c6 (.slice none 0 0)).toArray) (by kernel_rfl) (d.blk hp2) hx2 hs2 ru.nd hv2)<|tN 9 (pV F.size) ((c6 (.slice none 0 0)).toArray) 101 fun h16 V C=> ?_
    replace s:=(s.up B.size).nw d.size C
    refine bA 10 (c8 q.b q.e q.ho q.go (.slice ca 0 cc) (.slice ba q.dt.length bc)) C fun h19 X J=> ?_
    replace C:=J
    refine sE [(7,pV F.size),(8,.bool true)] fun a c=>tK<|cS<|cD [0,1,3,7,15,7,63,127,255,511,1023,2047,4095,1023,9215,25599,65535,131071] 7 mixed c<|mP 7 [0,1,2] [.bool true,.bool false,.bool false] ?_
    replace A:=(A.x V).y X (s.bp 1 0)
    refine mR 15 8 3 A<|mR 47 40 5 C<|fT 63 31 4 [5] (Does.call (f:=45) (args:= #[.agg (c8 ((aL aB x).b) ((aL aB x).e) ((aL aB x).ho) ((aL aB x).go) (.slice (aL aB x).ad ((aL aB x).n) ((aL aB x).cap)) (.slice (aB x).ba ((aB x).o.dt.length) ((aB x).bc))).toArray]) (by kernel_rfl) (eU _ (aL aB x).b ((aL aB x).e) ((aL aB x).ho) ((aL aB x).go) (.slice (aL aB x).ad ((aL aB x).n) ((aL aB x).cap)) (.slice (aB x).ba ((aB x).o.dt.length) ((aB x).bc)))) ?_
    rintro _ h22 ⟨rfl,Y⟩
    replace C:=C.x Y
    refine⟨?_,?_⟩
    ·intro j hj
     simp only[List.mem_cons,List.not_mem_nil,or_false] at hj
     subst hj
     exact aG (Calm.load (T:=101) (p:=⟨F.size,0,none⟩) (by kernel_rfl) (Loads.blk (vs:=c8 q.b q.e q.ho q.go (.slice ca 0 cc) (.slice ba q.dt.length bc)) (by kernel_rfl) C rfl))
    refine fZ 127 127 6 (eU _ q.b q.e q.ho q.go (.slice ca 0 cc) (.slice ba q.dt.length bc)) ?_
    rintro _ Bv ⟨rfl,g23⟩
    refine mF 255 7 (.bool true) (Calm.Fw (q:=false) (r:=false) (by kernel_rfl) fun w=>(jt ((aL aB x).b) ((aL aB x).e) ((aL aB x).ho) ((aL aB x).go) q.b q.e q.ho q.go w).trans (congrArg (fun b=>Result.ok b w) hst))<|mP 262143 [8,9,10,11,12,13,14,15,16,17] [.bool true,.bool true,undef,undef,undef,undef,undef,undef,undef,.bool true]<|mE [(71,.bool true)] fun a c=>tK<|cT 71 c<|qP [(4,.bool false)] c fun a c=>cR (yB (yT (yB (yT ?_))))
    refine rT 4 (.bool false) c ?_
    replace d:=(((d.ext V).grew X (s.l 0)).ext Y).ext g23
    exact⟨congrArg Value.bool (fK hns).symm,d⟩
   ·obtain⟨x2,hx2,hs2,ca,cc,ba,bc,hv2,vp⟩:=ru.at hq3
    have hns:=ta hh3.hf hq3 (F1 hdt)
    refine rS c ?_
    replace d:=(d.ext S).grew B (s.l 0)
    refine tO 3 0 (d.blk hm2)<|tC 5 (.tuple #[.agg (c8 q.b q.e q.ho q.go (.slice ca 0 cc) (.slice ba q.dt.length bc)).toArray,.bool true]) (gW (t:=81) 9 101 (by kernel_rfl) (by kernel_rfl) (by kernel_rfl) (.agg (c6 (.slice none 0 0)).toArray) (by kernel_rfl) (d.blk hp2) hx2 hs2 ru.nd hv2)<|tN 9 (pV F.size) ((c6 (.slice none 0 0)).toArray) 101 fun wG Z z=> ?_
    replace s:=(s.up B.size).nw d.size z
    refine bA 10 (c8 q.b q.e q.ho q.go (.slice ca 0 cc) (.slice ba q.dt.length bc)) z fun h28 qi J=> ?_
    replace z:=J
    refine sE [(7,pV F.size),(8,.bool true)] fun a c=>tK<|cS<|cD [0,1,3,7,15,7,63,127,255,511,1023,2047,4095,1023,9215,25599,65535,131071] 7 mixed c<|mP 7 [0,1,2] [.bool true,.bool false,.bool false] ?_
    replace A:=(A.x Z).y qi (s.bp 1 0)
    refine mR 15 8 3 A<|mR 47 40 5 z<|fT 63 31 4 [5] (Does.call (f:=45) (args:= #[.agg (c8 ((aL aB x).b) ((aL aB x).e) ((aL aB x).ho) ((aL aB x).go) (.slice (aL aB x).ad ((aL aB x).n) ((aL aB x).cap)) (.slice (aB x).ba ((aB x).o.dt.length) ((aB x).bc))).toArray]) (by kernel_rfl) (eU _ (aL aB x).b ((aL aB x).e) ((aL aB x).ho) ((aL aB x).go) (.slice (aL aB x).ad ((aL aB x).n) ((aL aB x).cap)) (.slice (aB x).ba ((aB x).o.dt.length) ((aB x).bc)))) ?_
    rintro _ h31 ⟨rfl,K⟩
    replace z:=z.x K
    refine⟨?_,?_⟩
    ·intro j hj
     simp only[List.mem_cons,List.not_mem_nil,or_false] at hj
     subst hj
     exact aG (Calm.load (T:=101) (p:=⟨F.size,0,none⟩) (by kernel_rfl) (Loads.blk (vs:=c8 q.b q.e q.ho q.go (.slice ca 0 cc) (.slice ba q.dt.length bc)) (by kernel_rfl) z rfl))
    refine fZ 127 127 6 (eU _ q.b q.e q.ho q.go (.slice ca 0 cc) (.slice ba q.dt.length bc)) ?_
    rintro _ zc ⟨rfl,O⟩
    refine mF 255 7 (.bool false) (Calm.Fw (q:=false) (r:=true) (by kernel_rfl) fun w=>(jt ((aL aB x).b) ((aL aB x).e) ((aL aB x).ho) ((aL aB x).go) q.b q.e q.ho q.go w).trans (congrArg (fun b=>Result.ok b w) hst))<|mP 2047 [8,9,10] [.bool false,.bool false,.pointer (some ⟨h5.size,39,none⟩)] ?_
    replace A:=(A.x K).x O
    refine mO 4095 2088 11 39 (.slice (aB x).ba ((aB x).o.dt.length) ((aB x).bc)) A ?_
    replace d:=(((d.ext Z).grew qi (s.l 0)).ext K).ext O
    refine mL 8191 6184 12 (.string (ByteArray.mk (aB x).o.dt.toArray)) (Calm.str (l:=(aB x).o.dt) (by kernel_rfl) (hh3.rd.1.ext d))<|mP 16383 [13] [.pointer (some ⟨F.size,39,none⟩)] ?_
    replace z:=z.x O
    refine mO 32767 22568 14 39 (.slice ba q.dt.length bc) z<|mL 65535 55336 15 (.string (ByteArray.mk q.dt.toArray)) (Calm.str (l:=q.dt) (by kernel_rfl) (vp.1.ext d))<|m1 131071 16 (.bool true) (.bool (!((ByteArray.mk (aB x).o.dt.toArray).toList ==(ByteArray.mk q.dt.toArray).toList))) (congrArg Value.bool (xl hdt))<|mP 262143 [17] [.bool true]<|mE [(71,.bool true)] fun a c=>tK<|cT 71 c ?_
    refine qP [(4,.bool false)] c fun a c=>cR (yB (yT (yB (yT ?_))))
    exact rT 4 (.bool false) c<|⟨congrArg Value.bool (fK hns).symm,d⟩
   ·obtain⟨x2,hx2,hs2,ca,cc,ba,bc,hv2,vp⟩:=ru.at hq3
    refine rS c ?_
    replace d:=(d.ext S).grew B (s.l 0)
    refine tO 3 0 (d.blk hm2)<|tC 5 (.tuple #[.agg (c8 q.b q.e q.ho q.go (.slice ca 0 cc) (.slice ba q.dt.length bc)).toArray,.bool true]) (gW (t:=81) 9 101 (by kernel_rfl) (by kernel_rfl) (by kernel_rfl) (.agg (c6 (.slice none 0 0)).toArray) (by kernel_rfl) (d.blk hp2) hx2 hs2 ru.nd hv2)<|tN 9 (pV F.size) ((c6 (.slice none 0 0)).toArray) 101 fun vk P u=> ?_
    replace s:=(s.up B.size).nw d.size u
    refine bA 10 (c8 q.b q.e q.ho q.go (.slice ca 0 cc) (.slice ba q.dt.length bc)) u fun h37 I J=> ?_
    replace u:=J
    refine sE [(7,pV F.size),(8,.bool true)] fun a c=>tK<|cS<|cD [0,1,3,7,15,7,63,127,255,511,1023,2047,4095,1023,9215,25599,65535,131071] 7 mixed c<|mP 7 [0,1,2] [.bool true,.bool false,.bool false] ?_
    replace A:=(A.x P).y I (s.bp 1 0)
    refine mR 15 8 3 A<|mR 47 40 5 u<|fT 63 31 4 [5] (Does.call (f:=45) (args:= #[.agg (c8 ((aL aB x).b) ((aL aB x).e) ((aL aB x).ho) ((aL aB x).go) (.slice (aL aB x).ad ((aL aB x).n) ((aL aB x).cap)) (.slice (aB x).ba ((aB x).o.dt.length) ((aB x).bc))).toArray]) (by kernel_rfl) (eU _ (aL aB x).b ((aL aB x).e) ((aL aB x).ho) ((aL aB x).go) (.slice (aL aB x).ad ((aL aB x).n) ((aL aB x).cap)) (.slice (aB x).ba ((aB x).o.dt.length) ((aB x).bc)))) ?_
    rintro _ yZ ⟨rfl,G⟩
    replace u:=u.x G
    refine⟨?_,?_⟩
    ·intro j hj
     simp only[List.mem_cons,List.not_mem_nil,or_false] at hj
     subst hj
     exact aG (Calm.load (T:=101) (p:=⟨F.size,0,none⟩) (by kernel_rfl) (Loads.blk (vs:=c8 q.b q.e q.ho q.go (.slice ca 0 cc) (.slice ba q.dt.length bc)) (by kernel_rfl) u rfl))
    refine fZ 127 127 6 (eU _ q.b q.e q.ho q.go (.slice ca 0 cc) (.slice ba q.dt.length bc)) ?_
    rintro _ h42 ⟨rfl,H⟩
    refine mF 255 7 (.bool false) (Calm.Fw (q:=false) (r:=true) (by kernel_rfl) fun w=>(jt ((aL aB x).b) ((aL aB x).e) ((aL aB x).ho) ((aL aB x).go) q.b q.e q.ho q.go w).trans (congrArg (fun b=>Result.ok b w) hst))<|mP 2047 [8,9,10] [.bool false,.bool false,.pointer (some ⟨h5.size,39,none⟩)] ?_
    replace A:=(A.x G).x H
    refine mO 4095 2088 11 39 (.slice (aB x).ba ((aB x).o.dt.length) ((aB x).bc)) A ?_
    replace d:=(((d.ext P).grew I (s.l 0)).ext G).ext H
    refine mL 8191 6184 12 (.string (ByteArray.mk (aB x).o.dt.toArray)) (Calm.str (l:=(aB x).o.dt) (by kernel_rfl) (hh3.rd.1.ext d))<|mP 16383 [13] [.pointer (some ⟨F.size,39,none⟩)] ?_
    replace u:=u.x H
    refine mO 32767 22568 14 39 (.slice ba q.dt.length bc) u<|mL 65535 55336 15 (.string (ByteArray.mk q.dt.toArray)) (Calm.str (l:=q.dt) (by kernel_rfl) (vp.1.ext d))<|m1 131071 16 (.bool false) (.bool (!((ByteArray.mk (aB x).o.dt.toArray).toList ==(ByteArray.mk q.dt.toArray).toList))) (congrArg Value.bool (xm hdt))<|mP 262143 [17] [.bool false]<|mE [(71,.bool false)] fun a c=>tK<|cF 71 c ?_
    refine cN<|bK ?_
    clear A
    clear u
    replace hit:=H.blk (G.blk (I.blk (P.blk (B.blk (S.blk hit) (s.bp 2 1))) (s.bp 2 0)))
    replace s:=((s.up I.size).up G.size).up H.size
    replace s:=s.sub (l':=[some (h.size)]) (.cons _ (.cons _ (.cons_cons _ (.slnil))))
    show ∃m',m'<_∧_
    refine⟨_,?_,(D++[x]),R',rfl,d,hP2,(xn hall (AI hh3.hf hq3 ⟨hst,hdt⟩)),hit,s,c.to⟩
    omega
 ·have hns:=xj hEl
  refine cD [0,1,3,7,15,0,32,96,224,511,1023,2047,4095,8191,16383,32767,65535,4095,135167,397311,921599,1970175,4194303,8388607] 1 mixed c<|mP 7 [0,1,2] [pV mb,pV mb,pV mb]<|mO 15 8 3 0 (.map (some mp)) (d.blk hm)<|mL 31 24 4 (.int .i64 ((L.length :Nat):Int)) (Calm.ll (by kernel_rfl) (d.blk hp) rfl)<|mP 255 [5,6,7] [pV nb,pV nb,pV nb]<|mO 511 280 8 0 (.map (some np)) (d.blk hm2)<|mL 1023 792 9 (.int .i64 ((L2.length :Nat):Int)) (Calm.ll (by kernel_rfl) (d.blk hp2) rfl) ?_
  refine Mc 2047 10 ((L.length :Nat):Int) ((L2.length :Nat):Int)<|mP 16777215 [11,12,13,14,15,16,17,18,19,20,21,22,23] [.bool true,undef,undef,undef,undef,undef,undef,undef,undef,undef,undef,undef,.bool true]<|mE [(34,.bool true)] fun a c=>tK<|cT 34 c<|qP [(4,.bool false)] c fun a c=>cR (yT ?_)
  exact rT 4 (.bool false) c<|⟨congrArg Value.bool (fK hns).symm,d⟩
noncomputable def b19:Code:=Tryz.f19.body.getD .skip
noncomputable def b55:Code:=Tryz.f55.body.getD .skip
theorem xr(h:Heap)(kd n:Int)(s:ByteArray)(oa:Option Addr)(on oc:Nat)(ka:Option Addr)(kn kc:Nat):Sat Tryz.prog 55 #[.agg #[.int .i64 kd,.string s,.slice oa on oc,.int .i64 n,.slice ka kn kc]] h fun v h'=>v= .tuple #[.bool (au kd).1,.bool (au kd).2]∧Ext h h':=by
 have c:=Ext.refl h
 refine ag Tryz.func55 20 fun a b=>qS b<|tN 0 (pV h.size) #[.int .i64 kd,.string s,.slice oa on oc,.int .i64 n,.slice ka kn kc] 35 fun u d t=>sT [(1,pV h.size)] fun a b=>cS<|qS b<|tO 1 0 t ?_
 refine sT [(5,.int .i64 kd)] fun a b=>cB 0<|cS<|qP [(6,.bool (decide (kd=(1:Int))))] b fun a b=>cJ 6 b (fun m=> ?_) fun m=> ?_
 ·refine cN<|tK<|cJ 6 b (fun hx5=> ?_) fun hx5=>absurd m hx5
  refine qP [(2,.bool true),(3,.bool true)] b fun a b=>cR (yB (yT ?_))
  refine aI [.tmp 2,.tmp 3] [.bool true,.bool true] (.tuple #[.bool true,.bool true]) rfl b ⟨rfl,rfl,trivial⟩ rfl ?_
  replace c:=c.ext d
  rw[cu (by omega)];exact⟨rfl,c⟩
 ·refine qP [(6,.bool (decide (kd=(4:Int))))] b fun a b=>cJ 6 b (fun o=> ?_) fun o=> ?_
  ·refine cN<|tK<|cJ 6 b (fun hx7=> ?_) fun hx7=>absurd o hx7
   refine qP [(2,.bool true),(3,.bool true)] b fun a b=>cR (yB (yT ?_))
   refine aI [.tmp 2,.tmp 3] [.bool true,.bool true] (.tuple #[.bool true,.bool true]) rfl b ⟨rfl,rfl,trivial⟩ rfl ?_
   replace c:=c.ext d
   rw[cu (by omega)];exact⟨rfl,c⟩
  ·refine qP [(6,.bool (decide (kd=(5:Int))))] b fun a b=>cJ 6 b (fun p=> ?_) fun p=> ?_
   ·refine cN<|tK<|cJ 6 b (fun LV=> ?_) fun LV=>absurd p LV
    refine qP [(2,.bool true),(3,.bool true)] b fun a b=>cR (yB (yT ?_))
    refine aI [.tmp 2,.tmp 3] [.bool true,.bool true] (.tuple #[.bool true,.bool true]) rfl b ⟨rfl,rfl,trivial⟩ rfl ?_
    replace c:=c.ext d
    rw[cu (by omega)];exact⟨rfl,c⟩
   ·refine rP [(6,.bool (decide (kd=(6:Int))))] b fun a b=>tK<|cJ 6 b (fun q=> ?_) fun q=> ?_
    ·refine qP [(2,.bool true),(3,.bool true)] b fun a b=>cR (yB (yT ?_))
     refine aI [.tmp 2,.tmp 3] [.bool true,.bool true] (.tuple #[.bool true,.bool true]) rfl b ⟨rfl,rfl,trivial⟩ rfl ?_
     replace c:=c.ext d
     rw[cu (by omega)];exact⟨rfl,c⟩
    ·refine cS<|qP [(11,.bool (decide (kd=(2:Int))))] b fun a b=>cJ 11 b (fun e=> ?_) fun e=> ?_
     ·refine cN<|tK<|cJ 11 b (fun F8=> ?_) fun F8=>absurd e F8
      refine qP [(2,.bool true),(3,.bool false)] b fun a b=>cR (yB (yT ?_))
      refine aI [.tmp 2,.tmp 3] [.bool true,.bool false] (.tuple #[.bool true,.bool false]) rfl b ⟨rfl,rfl,trivial⟩ rfl ?_
      replace c:=c.ext d
      rw[bT (by omega) (by omega)];exact⟨rfl,c⟩
     ·refine qP [(11,.bool (decide (kd=(3:Int))))] b fun a b=>cJ 11 b (fun f=> ?_) fun f=> ?_
      ·refine cN<|tK<|cJ 11 b (fun F9=> ?_) fun F9=>absurd f F9
       refine qP [(2,.bool true),(3,.bool false)] b fun a b=>cR (yB (yT ?_))
       refine aI [.tmp 2,.tmp 3] [.bool true,.bool false] (.tuple #[.bool true,.bool false]) rfl b ⟨rfl,rfl,trivial⟩ rfl ?_
       replace c:=c.ext d
       rw[bT (by omega) (by omega)];exact⟨rfl,c⟩
      ·refine qP [(11,.bool (decide (kd=(7:Int))))] b fun a b=>cJ 11 b (fun g=> ?_) fun g=> ?_
       ·refine cN<|tK<|cJ 11 b (fun hx16=> ?_) fun hx16=>absurd g hx16
        refine qP [(2,.bool true),(3,.bool false)] b fun a b=>cR (yB (yT ?_))
        refine aI [.tmp 2,.tmp 3] [.bool true,.bool false] (.tuple #[.bool true,.bool false]) rfl b ⟨rfl,rfl,trivial⟩ rfl ?_
        replace c:=c.ext d
        rw[bT (by omega) (by omega)];exact⟨rfl,c⟩
       ·refine qP [(11,.bool (decide (kd=(8:Int))))] b fun a b=>cJ 11 b (fun i=> ?_) fun i=> ?_
        ·refine cN<|tK<|cJ 11 b (fun xg=> ?_) fun xg=>absurd i xg
         refine qP [(2,.bool true),(3,.bool false)] b fun a b=>cR (yB (yT ?_))
         refine aI [.tmp 2,.tmp 3] [.bool true,.bool false] (.tuple #[.bool true,.bool false]) rfl b ⟨rfl,rfl,trivial⟩ rfl ?_
         replace c:=c.ext d
         rw[bT (by omega) (by omega)];exact⟨rfl,c⟩
        ·refine qP [(11,.bool (decide (kd=(9:Int))))] b fun a b=>cJ 11 b (fun j=> ?_) fun j=> ?_
         ·refine cN<|tK<|cJ 11 b (fun F_=> ?_) fun F_=>absurd j F_
          refine qP [(2,.bool true),(3,.bool false)] b fun a b=>cR (yB (yT ?_))
          refine aI [.tmp 2,.tmp 3] [.bool true,.bool false] (.tuple #[.bool true,.bool false]) rfl b ⟨rfl,rfl,trivial⟩ rfl ?_
          replace c:=c.ext d
          rw[bT (by omega) (by omega)];exact⟨rfl,c⟩
         ·refine qP [(11,.bool (decide (kd=(11:Int))))] b fun a b=>cJ 11 b (fun k=> ?_) fun k=> ?_
          ·refine cN<|tK<|cJ 11 b (fun F'=> ?_) fun F'=>absurd k F'
           refine qP [(2,.bool true),(3,.bool false)] b fun a b=>cR (yB (yT ?_))
           refine aI [.tmp 2,.tmp 3] [.bool true,.bool false] (.tuple #[.bool true,.bool false]) rfl b ⟨rfl,rfl,trivial⟩ rfl ?_
           replace c:=c.ext d
           rw[bT (by omega) (by omega)];exact⟨rfl,c⟩
          ·refine qP [(11,.bool (decide (kd=(15:Int))))] b fun a b=>cJ 11 b (fun l=> ?_) fun l=> ?_
           ·refine cN<|tK<|cJ 11 b (fun hx24=> ?_) fun hx24=>absurd l hx24
            refine qP [(2,.bool true),(3,.bool false)] b fun a b=>cR (yB (yT ?_))
            refine aI [.tmp 2,.tmp 3] [.bool true,.bool false] (.tuple #[.bool true,.bool false]) rfl b ⟨rfl,rfl,trivial⟩ rfl ?_
            replace c:=c.ext d
            rw[bT (by omega) (by omega)];exact⟨rfl,c⟩
           ·refine rP [(11,.bool (decide (kd=(16:Int))))] b fun a b=>tK<|cJ 11 b (fun r=> ?_) fun r=> ?_
            ·refine qP [(2,.bool true),(3,.bool false)] b fun a b=>cR (yB (yT ?_))
             refine aI [.tmp 2,.tmp 3] [.bool true,.bool false] (.tuple #[.bool true,.bool false]) rfl b ⟨rfl,rfl,trivial⟩ rfl ?_
             replace c:=c.ext d
             rw[bT (by omega) (by omega)];exact⟨rfl,c⟩
            ·refine cN<|bK<|tK<|qP [(2,.bool false),(3,.bool false)] b fun a b=>cR<|aI [.tmp 2,.tmp 3] [.bool false,.bool false] (.tuple #[.bool false,.bool false]) rfl b ⟨rfl,rfl,trivial⟩ rfl ?_
             replace c:=c.ext d
             rw[dX (by omega) (by omega)];exact⟨rfl,c⟩
noncomputable def b94:Code:=Tryz.f94.body.getD .skip
theorem AK(h:Heap)(l r:List ByteArray)(va:Option Addr)(vc:Nat)(vb:Option Addr)(vd:Nat)(hl1:aC h (.slice va l.length vc) l.length 1 (l.map Value.string))(hr1:aC h (.slice vb r.length vd) r.length 1 (r.map Value.string))(hlb:l.length ≤1099511627776):Sat Tryz.prog 94 #[.slice va l.length vc,.slice vb r.length vd] h fun v h'=>v= .bool (decide (l=r))∧h'=h:=by
 refine ag Tryz.func94 26 fun a c=>qP [] c fun a c=>cS<|cS ?_
 rcases Nat.decEq l.length r.length with hle|hle
 ·refine rS c<|uT 4 ((l.length :Nat):Int) ((r.length :Nat):Int)<|sE [(10,.bool true)] fun a c=>tK<|cT 10 c<|qP [(4,.bool false)] c fun a c=>cR (yT ?_)
  exact rT 4 (.bool false) c<|⟨by rw[decide_eq_false (fun e=>hle (by rw[e]))],rfl⟩
 ·refine rS c<|uF 4 ((l.length :Nat):Int) ((r.length :Nat):Int)<|sE [(10,.bool false)] fun a c=>tK<|cF 10 c<|cN<|tK ?_
  refine cS<|qP [(12,nV l.length),(13,.int .i64 0)] c fun a c=>cB 0<|cL (fun m a h'=>∃k:Nat,m=l.length - k∧(h'=h)∧(k≤l.length)∧(l.take k=r.take k)∧(Fr a 26 [(0,.slice va l.length vc),(1,.slice vb r.length vd),(12,.int .i64 ((l.length :Nat):Int)),(13,.int .i64 ((k:Nat):Int))])) (l.length - 0) ⟨0,rfl,rfl,(by omega),rfl,c.to⟩ ?_
  clear c a
  rintro m a j ⟨k,rfl,hh,hk,ht,c⟩
  refine qP [(14,.bool (decide (((k:Nat):Int)<((l.length :Nat):Int))))] c fun a c=>cS<|cJ 14 c (fun g=> ?_) fun g=> ?_
  ·have i:k<l.length :=by omega
   have hFn:=c
   obtain⟨aa,rfl,bW⟩:=hl1.1.bg (by omega)
   have c:=hFn;clear hFn
   have hFn:=c
   obtain⟨ab,rfl,ov⟩:=hr1.1.bg (by omega)
   have c:=hFn;clear hFn
   refine cN<|tK<|cS<|cB 1<|qP [(5,nV k)] c fun a c=>cS<|cD [0,0,3,7,0,0,48,112,255] 6 mixed c ?_
   refine mP 3 [0,1] [.slice (some aa) l.length vc,nV k]<|mI 7 2 aa l.length 1 k k<|mL 15 8 3 (.string (l.getD k ByteArray.empty)) (Calm.load (T:=9) (p:=(Addr.add aa k)) (by kernel_rfl) (Loads.one (k:=1) (by kernel_rfl) (hh▸Row.str hl1.1 (by omega))))<|mP 63 [4,5] [.slice (some ab) r.length vd,nV k]<|mI 127 6 ab r.length 1 k k<|mL 255 136 7 (.string (r.getD k ByteArray.empty)) (Calm.load (T:=9) (p:=(Addr.add ab k)) (by kernel_rfl) (Loads.one (k:=1) (by kernel_rfl) (hh▸Row.str hr1.1 (by omega))))<|m1 511 8 (.bool (!decide ((l.getD k ByteArray.empty)=(r.getD k ByteArray.empty)))) (.bool (!((l.getD k ByteArray.empty).toList ==(r.getD k ByteArray.empty).toList))) (congrArg (fun b=>Value.bool (!b)) (ju _ _)) ?_
   refine mE [(24,.bool (!decide ((l.getD k ByteArray.empty)=(r.getD k ByteArray.empty))))] fun a c=>tK<|cI 24 c (fun f=> ?_) fun f=> ?_
   ·have hno:=lE f
    refine qP [(4,.bool false)] c fun a c=>cR (yB (yT (yT (yB (yT ?_)))))
    exact rT 4 (.bool false) c<|⟨by rw[decide_eq_false hno],hh⟩
   ·have hee:=f
    refine cN<|bK<|tK<|rS c<|tA 0 k 1<|sE [(13,nV (k+1))] fun a c=> ?_
    show ∃m',m'<_∧_
    refine⟨_,?_,(k+1),rfl,hh,(by omega),(pB (d:=ByteArray.empty) ht i (by omega) hee),c.to⟩
    omega
  ·refine cX 0 (xT (xT (xB ?_)))
   refine tK<|qP [(4,.bool true)] c fun a c=>cR<|rT 4 (.bool true) c ?_
   obtain rfl:k=l.length :=by omega
   rw[List.take_length,hle,List.take_length] at ht
   exact⟨by rw[decide_eq_true ht],hh⟩
noncomputable def b95:Code:=Tryz.f95.body.getD .skip
theorem xt(h:Heap)(l r:List (List UInt8))(va:Option Addr)(vc:Nat)(vb:Option Addr)(vd:Nat)(hl1:aC h (.slice va l.length vc) l.length 32 (hcs l))(hr1:aC h (.slice vb r.length vd) r.length 32 (hcs r))(h32:aq l)(zc:aq r)(hlb:l.length ≤1099511627776):Sat Tryz.prog 95 #[.slice va l.length vc,.slice vb r.length vd] h fun v h'=>v= .bool (decide (l=r))∧h'=h:=by
 refine ag Tryz.func95 26 fun a b=>qP [] b fun a b=>cS<|cS ?_
 rcases Nat.decEq l.length r.length with hle|hle
 ·refine rS b<|uT 4 ((l.length :Nat):Int) ((r.length :Nat):Int)<|sE [(10,.bool true)] fun a b=>tK<|cT 10 b<|qP [(4,.bool false)] b fun a b=>cR (yT ?_)
  exact rT 4 (.bool false) b<|⟨by rw[decide_eq_false (fun e=>hle (by rw[e]))],rfl⟩
 ·refine rS b<|uF 4 ((l.length :Nat):Int) ((r.length :Nat):Int)<|sE [(10,.bool false)] fun a b=>tK<|cF 10 b<|cN<|tK ?_
  refine cS<|qP [(12,nV l.length),(13,.int .i64 0)] b fun a b=>cB 0<|cL (fun m a h'=>∃k:Nat,m=l.length - k∧(h'=h)∧(k≤l.length)∧(l.take k=r.take k)∧(Fr a 26 [(0,.slice va l.length vc),(1,.slice vb r.length vd),(12,.int .i64 ((l.length :Nat):Int)),(13,.int .i64 ((k:Nat):Int))])) (l.length - 0) ⟨0,rfl,rfl,(by omega),rfl,b.to⟩ ?_
  clear b a
  rintro m a i ⟨k,rfl,hh,hk,ht,b⟩
  refine qP [(14,.bool (decide (((k:Nat):Int)<((l.length :Nat):Int))))] b fun a b=>cS<|cJ 14 b (fun f=> ?_) fun f=> ?_
  ·have g:k<l.length :=by omega
   have hFn:=b
   obtain⟨aa,rfl,bW⟩:=hl1.1.bg (by omega)
   have b:=hFn;clear hFn
   have hFn:=b
   obtain⟨ab,rfl,ov⟩:=hr1.1.bg (by omega)
   have b:=hFn;clear hFn
   refine cN<|tK<|cS<|cB 1<|qP [(5,nV k)] b fun a b=>cS<|cD [0,0,3,7,0,0,48,112,255] 6 mixed b ?_
   refine mP 3 [0,1] [.slice (some aa) l.length vc,nV k]<|mI 7 2 aa l.length 32 k (k*32)<|mH 15 8 3 k ((⟨hh.symm ▸hl1.1,h32,rfl⟩:HR _ _ _ _ _))<|mP 63 [4,5] [.slice (some ab) r.length vd,nV k]<|mI 127 6 ab r.length 32 k (k*32)<|mH 255 136 7 k ((⟨hh.symm ▸hr1.1,zc,rfl⟩:HR _ _ _ _ _))<|mF 511 8 (.bool (!decide ((l.getD k [])=(r.getD k [])))) (Ib (l:=(l.getD k [])) (r:=(r.getD k [])) (n:=32) (by kernel_rfl) ((⟨hl1.1,h32,rfl⟩:HR _ (some aa) _ _ _).2.1.get (k:=k) (by rw[(⟨hl1.1,h32,rfl⟩:HR _ (some aa) _ _ _).2.2];omega)) ((⟨hr1.1,zc,rfl⟩:HR _ (some ab) _ _ _).2.1.get (k:=k) (by rw[(⟨hr1.1,zc,rfl⟩:HR _ (some ab) _ _ _).2.2];omega))) ?_
   refine mE [(24,.bool (!decide ((l.getD k [])=(r.getD k []))))] fun a b=>tK<|cI 24 b (fun c=> ?_) fun c=> ?_
   ·have hno:=lE c
    refine qP [(4,.bool false)] b fun a b=>cR (yB (yT (yT (yB (yT ?_)))))
    exact rT 4 (.bool false) b<|⟨by rw[decide_eq_false hno],hh⟩
   ·have hee:=c
    refine cN<|bK<|tK<|rS b<|tA 0 k 1<|sE [(13,nV (k+1))] fun a b=> ?_
    show ∃m',m'<_∧_
    refine⟨_,?_,(k+1),rfl,hh,(by omega),(pB (d:=[]) ht g (by omega) hee),b.to⟩
    omega
  ·refine cX 0 (xT (xT (xB ?_)))
   refine tK<|qP [(4,.bool true)] b fun a b=>cR<|rT 4 (.bool true) b ?_
   obtain rfl:k=l.length :=by omega
   rw[List.take_length,hle,List.take_length] at ht
   exact⟨by rw[decide_eq_true ht],hh⟩
noncomputable def b56:Code:=Tryz.f56.body.getD .skip
set_option maxHeartbeats 1000000 in
theorem bQ(h:Heap)(A B:An)(JC:Option Addr)(qc1:Nat)(Hz:Option Addr)(HB:Nat)(HC:Option Addr)(pc1:Nat)(q1:aC h (.slice JC A.b.length qc1) A.b.length 1 (A.b.map bv))(i1:aC h (.slice Hz A.i.length HB) A.i.length 1 (A.i.map Value.string))(p1:aC h (.slice HC A.p.length pc1) A.p.length 32 (hcs A.p))(qa2:Option Addr)(qc2:Nat)(HD:Option Addr)(HE:Nat)(HF:Option Addr)(pc2:Nat)(q2:aC h (.slice qa2 B.b.length qc2) B.b.length 1 (B.b.map bv))(i2:aC h (.slice HD B.i.length HE) B.i.length 1 (B.i.map Value.string))(p2:aC h (.slice HF B.p.length pc2) B.p.length 32 (hcs B.p))(h32:aq A.p)(zc:aq B.p)(JH:A.i.length ≤1099511627776)(JI:A.p.length ≤1099511627776):Sat Tryz.prog 56 #[.agg (bN A.c (.slice JC A.b.length qc1) A.sx A.se A.sh A.sg (.slice Hz A.i.length HB) A.n A.y A.k (.slice HC A.p.length pc1)).toArray,.agg (bN B.c (.slice qa2 B.b.length qc2) B.sx B.se B.sh B.sg (.slice HD B.i.length HE) B.n B.y B.k (.slice HF B.p.length pc2)).toArray] h fun v h'=>v= .int .i64 (az A B)∧Ext h h':=by
 have e:=Ext.refl h
 refine ag Tryz.func56 52 fun a d=>qS d<|tN 0 (pV h.size) ((bN A.c (.slice JC A.b.length qc1) A.sx A.se A.sh A.sg (.slice Hz A.i.length HB) A.n A.y A.k (.slice HC A.p.length pc1)).toArray) 47 fun z C o=>tN 1 (pV z.size) ((bN B.c (.slice qa2 B.b.length qc2) B.sx B.se B.sh B.sg (.slice HD B.i.length HE) B.n B.y B.k (.slice HF B.p.length pc2)).toArray) 47 fun D w r=> ?_
 replace e:=e.ext C
 refine sT [(2,pV h.size),(3,pV z.size)] fun a d=>cS<|cB 0<|qS d ?_
 replace o:=o.x w
 refine tO 1 0 o<|tO 3 0 r<|sT [(5,.bool (!decide (A.c =B.c)))] fun a d=>cI 5 d (fun s=> ?_) fun s=> ?_
 ·have NR:=s
  refine qP [(4,.int .i64 1)] d fun a d=>cR (yB (yT ?_))
  refine rT 4 (.int .i64 1) d ?_
  replace e:=e.ext w
  exact⟨by rw[BE NR],e⟩
 ·have Di:=s
  refine qS d<|tO 1 1 o ?_
  replace e:=e.ext w
  refine tC 2 (.string (ByteArray.mk A.b.toArray)) (Calm.str (l:=A.b) (by kernel_rfl) (q1.1.ext e))<|tO 4 1 r<|tC 5 (.string (ByteArray.mk B.b.toArray)) (Calm.str (l:=B.b) (by kernel_rfl) (q2.1.ext e))<|t1 6 (.bool (!decide (A.b =B.b))) (.bool (!((ByteArray.mk A.b.toArray).toList ==(ByteArray.mk B.b.toArray).toList))) (congrArg (fun b=>Value.bool (!b)) (wO _ _))<|sT [(11,.bool (!decide (A.b =B.b)))] fun a d=>cI 11 d (fun t=> ?_) fun t=> ?_
  ·have NS:=t
   refine qP [(4,.int .i64 2)] d fun a d=>cR (yB (yT ?_))
   exact rT 4 (.int .i64 2) d<|⟨by rw[rule2 Di NS],e⟩
  ·have Ef:=t
   refine qS d<|tQ 1 2 (vn A.sx A.se A.sh A.sg) o<|tQ 3 2 (vn B.sx B.se B.sh B.sg) r<|tC 4 (.bool (!(fG A.sx A.se A.sh A.sg B.sx B.se B.sh B.sg))) ((Calm.Fw (q:=false) (by kernel_rfl) (jt A.sx A.se A.sh A.sg B.sx B.se B.sh B.sg)) _)<|sT [(19,.bool (!(fG A.sx A.se A.sh A.sg B.sx B.se B.sh B.sg)))] fun a d=>cC 19 (!(fG A.sx A.se A.sh A.sg B.sx B.se B.sh B.sg)) d (fun u=> ?_) (fun u=> ?_)
   ·have NT:=u
    refine qP [(4,.int .i64 3)] d fun a d=>cR (yB (yT ?_))
    exact rT 4 (.int .i64 3) d<|⟨by rw[Fx Di Ef (by simpa using NT)],e⟩
   ·have Ga:=u
    refine qS d<|tO 1 39 o<|tO 3 39 r<|tC 4 (.bool (decide (A.i =B.i))) (Does.call (f:=94) (args:= #[.slice Hz A.i.length HB,.slice HD B.i.length HE]) (by kernel_rfl) (AK _ A.i B.i _ _ _ _ (i1.ext e) (i2.ext e) JH))<|sT [(25,.bool (!decide (A.i =B.i)))] fun a d=>cI 25 d (fun g=> ?_) fun g=> ?_
    ·have NU:=g
     refine qP [(4,.int .i64 4)] d fun a d=>cR (yB (yT ?_))
     exact rT 4 (.int .i64 4) d<|⟨by rw[Fy Di Ef (by simpa using Ga) NU],e⟩
    ·have HG:=g
     refine qS d<|tQ 1 40 (hdc A.n A.y) o<|tQ 3 40 (hdc B.n B.y) r<|tC 4 (.bool (!(ma A.n A.y B.n B.y))) ((Calm.Fw (q:=false) (by kernel_rfl) (wL A.n A.y B.n B.y)) _)<|sT [(32,.bool (!(ma A.n A.y B.n B.y)))] fun a d=>cC 32 (!(ma A.n A.y B.n B.y)) d (fun j=> ?_) (fun j=> ?_)
     ·have NV:=j
      refine qP [(4,.int .i64 5)] d fun a d=>cR (yB (yT ?_))
      exact rT 4 (.int .i64 5) d<|⟨by rw[Fz Di Ef (by simpa using Ga) HG (by simpa using NV)],e⟩
     ·have JJ:=j
      refine cS ?_
      rcases Int.decEq A.k B.k with hk|hk
      ·refine rS d<|tO 1 73 o<|tO 3 73 r<|uT 4 A.k B.k <|sE [(38,.bool true)] fun a d=>tK<|cT 38 d ?_
       refine qP [(4,.int .i64 6)] d fun a d=>cR (yB (yT ?_))
       exact rT 4 (.int .i64 6) d<|⟨by rw[BF Di Ef (by simpa using Ga) HG (by simpa using JJ) (by first|exact .inl hk|exact .inr LW)],e⟩
      ·refine rS d<|tO 1 73 o<|tO 3 73 r<|uF 4 A.k B.k <|tO 7 74 o<|tO 9 74 r<|tC 10 (.bool (decide (A.p =B.p))) (Does.call (f:=95) (args:= #[.slice HC A.p.length pc1,.slice HF B.p.length pc2]) (by kernel_rfl) (xt _ A.p B.p _ _ _ _ (p1.ext e) (p2.ext e) h32 zc JI)) ?_
       refine sE [(38,.bool (!decide (A.p =B.p)))] fun a d=>tK<|cI 38 d (fun m=> ?_) fun m=> ?_
       ·have LW:=m
        refine qP [(4,.int .i64 6)] d fun a d=>cR (yB (yT ?_))
        exact rT 4 (.int .i64 6) d<|⟨by rw[BF Di Ef (by simpa using Ga) HG (by simpa using JJ) (by first|exact .inl hk|exact .inr LW)],e⟩
       ·have NW:=m
        exact cN<|bK<|tK<|qP [(4,.int .i64 0)] d fun a d=>cR<|rT 4 (.int .i64 0) d<|⟨by rw[pA Di Ef (by simpa using Ga) HG (by simpa using JJ) hk NW],e⟩
noncomputable def b61:Code:=Tryz.f61.body.getD .skip
theorem JK(kd c k:Int):(kd=11∧0≤k∧k≤6)∨(kd=11∧k<0)∨(kd=11∧0≤k∧6<k)∨(kd=15∧c=0∧0≤k∧k≤8)∨(kd=15∧c=0∧k<0)∨(kd=15∧c=0∧0≤k∧8<k)∨(kd=15∧c≠0)∨(kd≠11∧kd≠15):=by omega
theorem pQ(h:Heap)(mb mp:Nat)(M:Md)(m:Mod h mb mp M)(kd n:Int)(s:ByteArray)(l:List UInt8)(oa:Option Addr)(oc:Nat)(ka:Option Addr)(kn kc:Nat)(hr:Row h (.slice oa l.length oc) l.length 1 (l.map bv))(hsz:s.size ≤9223372036854775807)(kt:bl h)(hE:M.E.length ≤1099511627)(W:An)(hW:(step M kd n s l).2 =W):Sat Tryz.prog 17 #[.pointer (some ⟨mb,0,none⟩),.agg #[.int .i64 kd,.string s,.slice oa l.length oc,.int .i64 n,.slice ka kn kc]] h fun v h'=>∃qa qc ia ic pa pc,v=px W (.slice qa W.b.length qc) (.slice ia W.i.length ic) (.slice pa W.p.length pc)∧aC h' (.slice qa W.b.length qc) W.b.length 1 (W.b.map bv)∧aC h' (.slice ia W.i.length ic) W.i.length 1 (W.i.map Value.string)∧aC h' (.slice pa W.p.length pc) W.p.length 32 (hcs W.p)∧aq W.p ∧Mod h' mb mp (step M kd n s l).1 ∧MG mb mp h h':=by
 subst hW
 exact(Df h mb mp M m kd n s l oa oc ka kn kc hr hsz kt hE).mono fun v h' ⟨⟨qa,qc,ia,ic,pa,pc,e,r1,r2,r3,r4⟩,g⟩=>⟨qa,qc,ia,ic,pa,pc,e,r1,r2,r3,r4,g⟩
set_option maxHeartbeats 1000000 in
theorem xu(h:Heap)(jb mb mp:Nat)(M:Md)(m:Mod h mb mp M)(cv:Value)(o1 o2 o4:Bool)(hj:h[jb]? =some (.cells #[cv,.bool o1,.bool o2,.bool false,.bool o4] 77))(kd n:Int)(s:ByteArray)(l:List UInt8)(oa:Option Addr)(oc:Nat)(ka:Option Addr)(kn kc:Nat)(hr:Row h (.slice oa l.length oc) l.length 1 (l.map bv))(hsz:s.size ≤9223372036854775807)(X:An)(b_:Option Addr)(cd:Nat)(cf:Option Addr)(cj:Nat)(cm:Option Addr)(cn:Nat)(xq:aC h (.slice b_ X.b.length cd) X.b.length 1 (X.b.map bv))(xi:aC h (.slice cf X.i.length cj) X.i.length 1 (X.i.map Value.string))(xp:aC h (.slice cm X.p.length cn) X.p.length 32 (hcs X.p))(x32:aq X.p)(kt:bl h)(hE:M.E.length ≤1099511627):Sat Tryz.prog 61 #[.pointer (some ⟨jb,0,none⟩),.pointer (some ⟨mb,0,none⟩),.agg #[.int .i64 kd,.string s,.slice oa l.length oc,.int .i64 n,.slice ka kn kc],.agg (bN X.c (.slice b_ X.b.length cd) X.sx X.se X.sh X.sg (.slice cf X.i.length cj) X.n X.y X.k (.slice cm X.p.length cn)).toArray] h fun v h'=>v= .int .i64 (bw kd n s l X M).2 ∧Mod h' mb mp (bw kd n s l X M).1 ∧MG mb mp h h':=by
 have hbj:=ak hj
 obtain⟨hjm,hjp⟩:=m.Ak hj (by decide)
 have z:=Ext.refl h
 have q:Sep h.size h.size []:=Sep.nil _ _
 refine ag Tryz.func61 59 fun a d=>qS d<|tN 0 (pV h.size) #[.int .i64 kd,.string s,.slice oa l.length oc,.int .i64 n,.slice ka kn kc] 35 fun R D w=> ?_
 have T:=ak w
 replace q:=q.nw z.size w
 refine tN 1 (pV R.size) ((bN X.c (.slice b_ X.b.length cd) X.sx X.se X.sh X.sg (.slice cf X.i.length cj) X.n X.y X.k (.slice cm X.p.length cn)).toArray) 47 fun h6 B o=> ?_
 replace z:=z.ext D
 replace q:=q.nw z.size o
 refine sT [(6,pV h.size),(7,pV R.size)] fun a d=>qS d ?_
 replace w:=w.x B
 refine tR 1 w ?_
 obtain⟨W,hW⟩:∃W,(step M kd n s l).2 =W:=⟨_,rfl⟩
 replace z:=z.ext B
 have mE:=m.ext z;have hwb:=jA m kd n s l;rw[hW] at hwb
 replace kt:=(kt.ext D).ext B
 refine tG 2 (pQ _ mb mp M mE kd n s l oa oc ka kn kc (hr.ext z) hsz kt hE W hW) ?_
 rintro _ C ⟨qa,qc,ia,ic,pa,pc,rfl,r1,r2,r3,r4,hmod,A⟩
 have r:MG mb mp h C:=(MG.aK z).trans A
 have hbk:=m.kb
 replace hj:=(hj.x D).x B
 replace hj:=A.blk hj (by omega) (by omega)
 replace w:=A.blk w (by omega) (by omega)
 replace o:=A.blk o (by omega) (by omega)
 replace xq:=(xq.ext D).ext B
 replace xq:=xq.uy A mE
 replace xi:=(xi.ext D).ext B
 replace xi:=xi.uy A mE
 replace xp:=(xp.ext D).ext B
 replace xp:=xp.uy A mE
 replace q:=q.up A.1
 refine tN 3 (pV C.size) ((b6 0).toArray) 47 fun U g f=> ?_
 have S:=r.1
 replace q:=q.nw r.1 f
 refine bA 4 (bN W.c (.slice qa W.b.length qc) W.sx W.se W.sh W.sg (.slice ia W.i.length ic) W.n W.y W.k (.slice pa W.p.length pc)) f fun V j F=> ?_
 replace xq:=xq.ext g
 replace xq:=xq.aO j f (by decide)
 replace xi:=xi.ext g
 replace xi:=xi.aO j f (by decide)
 replace xp:=xp.ext g
 replace xp:=xp.aO j f (by decide)
 replace r1:=r1.ext g
 replace r1:=r1.aO j f (by decide)
 replace r2:=r2.ext g
 replace r2:=r2.aO j f (by decide)
 replace r3:=r3.ext g
 replace r3:=r3.aO j f (by decide)
 replace hmod:=hmod.ext g
 replace hmod:=hmod.aO j f (by decide) (by omega)
 replace hj:=hj.x g
 replace hj:=hj.y j
 replace f:=F
 refine sT [(9,pV C.size)] fun a d=>qP [(10,.int .i64 0)] d fun a d=>cS<|qS d ?_
 replace w:=(w.x g).y j (q.bp 2 0)
 refine tO 1 0 w<|sT [(15,.int .i64 kd)] fun a d=>cB 0<|cS ?_
 rcases JK kd W.c X.k with⟨hk,hy⟩|⟨hk,hx1⟩|⟨hk,hx1,hx2⟩|⟨hk,hWc,hy⟩|⟨hk,hWc,hx1⟩|⟨hk,hWc,hx1,hx2⟩|⟨hk,hWc⟩|hk
 ·have hfr:=jC (W:=W) (X:=X) (kd:=kd) (by omega)
  refine rS d<|eT 0 kd 11<|sE [(16,.bool true)] fun a d=>tK<|cT 16 d<|rP [(10,.int .i64 6)] d fun a d=>bK ?_
  refine tK<|cS<|qS d ?_
  replace o:=(o.x g).y j (q.bp 1 0)
  refine tO 4 73 o<|tT 5 ((0:Int)≤X.k)<|tO 9 73 o<|tT 11 (X.k ≤(6:Int))<|sT [(52,.bool true)] fun a d=>cT 52 d<|rS d ?_
  refine tO 1 73 o<|tV 3 73 [.int .i64 X.k] (bN W.c (.slice qa W.b.length qc) W.sx W.se W.sh W.sg (.slice ia W.i.length ic) W.n W.y X.k (.slice pa W.p.length pc)) f fun Y t F=> ?_
  replace xq:=xq.aO t f (by decide)
  replace xi:=xi.aO t f (by decide)
  replace xp:=xp.aO t f (by decide)
  replace r1:=r1.aO t f (by decide)
  replace r2:=r2.aO t f (by decide)
  replace r3:=r3.aO t f (by decide)
  replace hmod:=hmod.aO t f (by decide) (by omega)
  replace f:=F
  refine sE [] fun a d=>tK<|qS d<|tR 0 f ?_
  replace o:=o.y t (q.bp 1 0)
  refine tR 1 o<|tG 2 (bQ _ {W with k:=X.k } X _ _ _ _ _ _ r1 r2 r3 _ _ _ _ _ _ xq xi xp r4 x32 (by show W.i.length ≤_;omega) (by show W.p.length ≤_;omega)) ?_
  rintro _ Z ⟨rfl,G⟩
  refine sT [(8,.int .i64 (az {W with k:=X.k } X))] fun a d=>cR<|rT 8 (.int .i64 (az {W with k:=X.k } X)) d ?_
  replace r:=(((r.ext g).mS j (fun x e=>by cases e;omega)).mS t (fun x e=>by cases e;omega)).ext G
  replace hmod:=hmod.ext G
  exact⟨by unfold bw;rw[hW,hfr],hmod,r⟩
 ·have hfr:=fH (W:=W) (X:=X) (kd:=kd) (by omega)
  refine rS d<|eT 0 kd 11<|sE [(16,.bool true)] fun a d=>tK<|cT 16 d<|rP [(10,.int .i64 6)] d fun a d=>bK ?_
  refine tK<|cS<|qS d ?_
  replace o:=(o.x g).y j (q.bp 1 0)
  refine tO 4 73 o<|tX 5 ((0:Int)≤X.k)<|sT [(52,.bool false)] fun a d=>cF 52 d<|cN<|tK<|qS d ?_
  refine tR 0 f<|tR 1 o<|tG 2 (bQ _ W X _ _ _ _ _ _ r1 r2 r3 _ _ _ _ _ _ xq xi xp r4 x32 (by show W.i.length ≤_;omega) (by show W.p.length ≤_;omega)) ?_
  rintro _ Bv ⟨rfl,H⟩
  refine sT [(8,.int .i64 (az W X))] fun a d=>cR<|rT 8 (.int .i64 (az W X)) d ?_
  replace r:=((r.ext g).mS j (fun x e=>by cases e;omega)).ext H
  replace hmod:=hmod.ext H
  exact⟨by unfold bw;rw[hW,hfr],hmod,r⟩
 ·have hfr:=fH (W:=W) (X:=X) (kd:=kd) (by omega)
  refine rS d<|eT 0 kd 11<|sE [(16,.bool true)] fun a d=>tK<|cT 16 d<|rP [(10,.int .i64 6)] d fun a d=>bK ?_
  refine tK<|cS<|qS d ?_
  replace o:=(o.x g).y j (q.bp 1 0)
  refine tO 4 73 o<|tT 5 ((0:Int)≤X.k)<|tO 9 73 o<|tX 11 (X.k ≤(6:Int))<|sT [(52,.bool false)] fun a d=>cF 52 d<|cN ?_
  refine tK<|qS d<|tR 0 f<|tR 1 o<|tG 2 (bQ _ W X _ _ _ _ _ _ r1 r2 r3 _ _ _ _ _ _ xq xi xp r4 x32 (by show W.i.length ≤_;omega) (by show W.p.length ≤_;omega)) ?_
  rintro _ kg ⟨rfl,I⟩
  refine sT [(8,.int .i64 (az W X))] fun a d=>cR<|rT 8 (.int .i64 (az W X)) d ?_
  replace r:=((r.ext g).mS j (fun x e=>by cases e;omega)).ext I
  replace hmod:=hmod.ext I
  exact⟨by unfold bw;rw[hW,hfr],hmod,r⟩
 ·have hfr:=jC (W:=W) (X:=X) (kd:=kd) (by omega)
  refine rS d<|eF 0 kd 11<|sE [(16,.bool false)] fun a d=>tK<|cF 16 d<|qS d<|eT 0 kd 15 ?_
  refine sT [(18,.bool true)] fun a d=>cT 18 d<|qS d<|tO 1 0 f<|eT 2 W.c 0<|sT [(22,.bool true)] fun a d=>cT 22 d ?_
  refine rP [(10,.int .i64 8)] d fun a d=>bK<|tK<|cS<|qS d ?_
  replace o:=(o.x g).y j (q.bp 1 0)
  refine tO 4 73 o<|tT 5 ((0:Int)≤X.k)<|tO 9 73 o<|tT 11 (X.k ≤(8:Int))<|sT [(52,.bool true)] fun a d=>cT 52 d<|rS d ?_
  refine tO 1 73 o<|tV 3 73 [.int .i64 X.k] (bN W.c (.slice qa W.b.length qc) W.sx W.se W.sh W.sg (.slice ia W.i.length ic) W.n W.y X.k (.slice pa W.p.length pc)) f fun h27 u F=> ?_
  replace xq:=xq.aO u f (by decide)
  replace xi:=xi.aO u f (by decide)
  replace xp:=xp.aO u f (by decide)
  replace r1:=r1.aO u f (by decide)
  replace r2:=r2.aO u f (by decide)
  replace r3:=r3.aO u f (by decide)
  replace hmod:=hmod.aO u f (by decide) (by omega)
  replace f:=F
  refine sE [] fun a d=>tK<|qS d<|tR 0 f ?_
  replace o:=o.y u (q.bp 1 0)
  refine tR 1 o<|tG 2 (bQ _ {W with k:=X.k } X _ _ _ _ _ _ r1 r2 r3 _ _ _ _ _ _ xq xi xp r4 x32 (by show W.i.length ≤_;omega) (by show W.p.length ≤_;omega)) ?_
  rintro _ h30 ⟨rfl,J⟩
  refine sT [(8,.int .i64 (az {W with k:=X.k } X))] fun a d=>cR<|rT 8 (.int .i64 (az {W with k:=X.k } X)) d ?_
  replace r:=(((r.ext g).mS j (fun x e=>by cases e;omega)).mS u (fun x e=>by cases e;omega)).ext J
  replace hmod:=hmod.ext J
  exact⟨by unfold bw;rw[hW,hfr],hmod,r⟩
 ·have hfr:=fH (W:=W) (X:=X) (kd:=kd) (by omega)
  refine rS d<|eF 0 kd 11<|sE [(16,.bool false)] fun a d=>tK<|cF 16 d<|qS d<|eT 0 kd 15 ?_
  refine sT [(18,.bool true)] fun a d=>cT 18 d<|qS d<|tO 1 0 f<|eT 2 W.c 0<|sT [(22,.bool true)] fun a d=>cT 22 d ?_
  refine rP [(10,.int .i64 8)] d fun a d=>bK<|tK<|cS<|qS d ?_
  replace o:=(o.x g).y j (q.bp 1 0)
  refine tO 4 73 o<|tX 5 ((0:Int)≤X.k)<|sT [(52,.bool false)] fun a d=>cF 52 d<|cN<|tK<|qS d ?_
  refine tR 0 f<|tR 1 o<|tG 2 (bQ _ W X _ _ _ _ _ _ r1 r2 r3 _ _ _ _ _ _ xq xi xp r4 x32 (by show W.i.length ≤_;omega) (by show W.p.length ≤_;omega)) ?_
  rintro _ h32 ⟨rfl,K⟩
  refine sT [(8,.int .i64 (az W X))] fun a d=>cR<|rT 8 (.int .i64 (az W X)) d ?_
  replace r:=((r.ext g).mS j (fun x e=>by cases e;omega)).ext K
  replace hmod:=hmod.ext K
  exact⟨by unfold bw;rw[hW,hfr],hmod,r⟩
 ·have hfr:=fH (W:=W) (X:=X) (kd:=kd) (by omega)
  refine rS d<|eF 0 kd 11<|sE [(16,.bool false)] fun a d=>tK<|cF 16 d<|qS d<|eT 0 kd 15 ?_
  refine sT [(18,.bool true)] fun a d=>cT 18 d<|qS d<|tO 1 0 f<|eT 2 W.c 0<|sT [(22,.bool true)] fun a d=>cT 22 d ?_
  refine rP [(10,.int .i64 8)] d fun a d=>bK<|tK<|cS<|qS d ?_
  replace o:=(o.x g).y j (q.bp 1 0)
  refine tO 4 73 o<|tT 5 ((0:Int)≤X.k)<|tO 9 73 o<|tX 11 (X.k ≤(8:Int))<|sT [(52,.bool false)] fun a d=>cF 52 d<|cN ?_
  refine tK<|qS d<|tR 0 f<|tR 1 o<|tG 2 (bQ _ W X _ _ _ _ _ _ r1 r2 r3 _ _ _ _ _ _ xq xi xp r4 x32 (by show W.i.length ≤_;omega) (by show W.p.length ≤_;omega)) ?_
  rintro _ vk ⟨rfl,L⟩
  refine sT [(8,.int .i64 (az W X))] fun a d=>cR<|rT 8 (.int .i64 (az W X)) d ?_
  replace r:=((r.ext g).mS j (fun x e=>by cases e;omega)).ext L
  replace hmod:=hmod.ext L
  exact⟨by unfold bw;rw[hW,hfr],hmod,r⟩
 ·have hfr:=fH (W:=W) (X:=X) (kd:=kd) (by omega)
  refine rS d<|eF 0 kd 11<|sE [(16,.bool false)] fun a d=>tK<|cF 16 d<|qS d<|eT 0 kd 15 ?_
  refine sT [(18,.bool true)] fun a d=>cT 18 d<|qS d<|tO 1 0 f<|eF 2 W.c 0<|sT [(22,.bool false)] fun a d=>cF 22 d ?_
  refine cN<|bK<|tK<|cS<|qP [(52,.bool false)] d fun a d=>cF 52 d<|cN ?_
  refine tK<|qS d<|tR 0 f ?_
  replace o:=(o.x g).y j (q.bp 1 0)
  refine tR 1 o<|tG 2 (bQ _ W X _ _ _ _ _ _ r1 r2 r3 _ _ _ _ _ _ xq xi xp r4 x32 (by show W.i.length ≤_;omega) (by show W.p.length ≤_;omega)) ?_
  rintro _ Cm ⟨rfl,N⟩
  refine sT [(8,.int .i64 (az W X))] fun a d=>cR<|rT 8 (.int .i64 (az W X)) d ?_
  replace r:=((r.ext g).mS j (fun x e=>by cases e;omega)).ext N
  replace hmod:=hmod.ext N
  exact⟨by unfold bw;rw[hW,hfr],hmod,r⟩
 ·have hfr:=fH (W:=W) (X:=X) (kd:=kd) (by omega)
  refine rS d<|eF 0 kd 11<|sE [(16,.bool false)] fun a d=>tK<|cF 16 d<|qS d<|eF 0 kd 15 ?_
  refine sT [(18,.bool false)] fun a d=>cF 18 d<|qP [(23,.bool (decide (kd=(2:Int))))] d fun a d=>cJ 23 d (fun O=> ?_) fun O=> ?_
  ·refine qS d<|tO 3 3 hj<|sT [(39,.bool false)] fun a d=>cF 39 d<|cN<|bK<|tK ?_
   refine cS<|qP [(52,.bool false)] d fun a d=>cF 52 d<|cN<|tK<|qS d<|tR 0 f ?_
   replace o:=(o.x g).y j (q.bp 1 0)
   refine tR 1 o<|tG 2 (bQ _ W X _ _ _ _ _ _ r1 r2 r3 _ _ _ _ _ _ xq xi xp r4 x32 (by show W.i.length ≤_;omega) (by show W.p.length ≤_;omega)) ?_
   rintro _ uN ⟨rfl,P⟩
   refine sT [(8,.int .i64 (az W X))] fun a d=>cR<|rT 8 (.int .i64 (az W X)) d ?_
   replace r:=((r.ext g).mS j (fun x e=>by cases e;omega)).ext P
   replace hmod:=hmod.ext P
   exact⟨by unfold bw;rw[hW,hfr],hmod,r⟩
  ·refine cN<|bK<|tK<|cS<|qP [(52,.bool false)] d fun a d=>cF 52 d<|cN ?_
   refine tK<|qS d<|tR 0 f ?_
   replace o:=(o.x g).y j (q.bp 1 0)
   refine tR 1 o<|tG 2 (bQ _ W X _ _ _ _ _ _ r1 r2 r3 _ _ _ _ _ _ xq xi xp r4 x32 (by show W.i.length ≤_;omega) (by show W.p.length ≤_;omega)) ?_
   rintro _ vl ⟨rfl,Q⟩
   refine sT [(8,.int .i64 (az W X))] fun a d=>cR<|rT 8 (.int .i64 (az W X)) d ?_
   replace r:=((r.ext g).mS j (fun x e=>by cases e;omega)).ext Q
   replace hmod:=hmod.ext Q
   exact⟨by unfold bw;rw[hW,hfr],hmod,r⟩
theorem ow(h:Heap)(mb mp:Nat)(M:Md)(m:Mod h mb mp M)(hE:M.E.length ≤1099511627):Sat Tryz.prog 23 #[.pointer (some ⟨mb,0,none⟩)] h fun v h'=>∃c q,v= .pointer (some ⟨c,0,none⟩)∧Mod h' c q M∧h.size ≤c∧h.size ≤q∧Ext h h':=by
 obtain⟨L,ck,ea,ec,es,m⟩:=m
 exact AG h mb mp M L ck ea ec es m (fun _ e=>e.elim) hE
noncomputable def b60:Code:=Tryz.f60.body.getD .skip
set_option maxHeartbeats 1000000 in
theorem xv(h:Heap)(jb mb mp:Nat)(M:Md)(m:Mod h mb mp M)(kd n:Int)(s:ByteArray)(l:List UInt8)(oa:Option Addr)(oc:Nat)(ka:Option Addr)(kn kc:Nat)(hr:Row h (.slice oa l.length oc) l.length 1 (l.map bv))(hsz:s.size ≤9223372036854775807)(X:An)(b_:Option Addr)(cd:Nat)(cf:Option Addr)(cj:Nat)(cm:Option Addr)(cn:Nat)(xq:aC h (.slice b_ X.b.length cd) X.b.length 1 (X.b.map bv))(xi:aC h (.slice cf X.i.length cj) X.i.length 1 (X.i.map Value.string))(xp:aC h (.slice cm X.p.length cn) X.p.length 32 (hcs X.p))(x32:aq X.p)(kt:bl h)(hE:M.E.length ≤1099511627):Sat Tryz.prog 60 #[.pointer (some ⟨jb,0,none⟩),.pointer (some ⟨mb,0,none⟩),.agg #[.int .i64 kd,.string s,.slice oa l.length oc,.int .i64 n,.slice ka kn kc],.agg (bN X.c (.slice b_ X.b.length cd) X.sx X.se X.sh X.sg (.slice cf X.i.length cj) X.n X.y X.k (.slice cm X.p.length cn)).toArray] h fun v h'=>v= .int .i64 (bb kd n s l X M).2 ∧Mod h' mb mp (bb kd n s l X M).1 ∧MG mb mp h h':=by
 have r:=Ext.refl h
 have d:Sep h.size h.size []:=Sep.nil _ _
 refine ag Tryz.func60 26 fun a t=>qS t<|tN 0 (pV h.size) #[.int .i64 kd,.string s,.slice oa l.length oc,.int .i64 n,.slice ka kn kc] 35 fun h1 U K=> ?_
 have HZ:=ak K
 replace d:=d.nw r.size K
 refine tN 1 (pV h1.size) ((bN X.c (.slice b_ X.b.length cd) X.sx X.se X.sh X.sg (.slice cf X.i.length cj) X.n X.y X.k (.slice cm X.p.length cn)).toArray) 47 fun h6 O u=> ?_
 have Mh:=ak u
 replace r:=r.ext U
 replace d:=d.nw r.size u
 refine sT [(6,pV h.size),(7,pV h1.size)] fun a t=>cS<|cD [0,1,0,7,0,31] 1 mixed t<|mP 1 [0] [pV mb] ?_
 replace K:=K.x O
 refine mR 5 4 2 K<|aH.oK (is:=[1,4]) (by kernel_rfl) (by simp) ?_
 intro q hq
 simp only[List.mem_cons,List.not_mem_nil,or_false] at hq
 rcases hq with rfl|rfl
 ·replace r:=r.ext O
  refine qg 7 3 1 [2] (Does.call (f:=23) (args:= #[.pointer (some ⟨mb,0,none⟩)]) (by kernel_rfl) (ow _ mb mp M (m.ext r) hE)) ?_
  rintro _ P ⟨c,q,rfl,my,hc1,hq1,g⟩
  have hse:=r.size;have NX:=Nat.le_refl P.size;have hmk:=my.kb
  replace kt:=(kt.ext U).ext O
  replace xq:=(xq.ext U).ext O
  replace xi:=(xi.ext U).ext O
  replace xp:=(xp.ext U).ext O
  replace r:=r.ext g
  replace kt:=kt.ext g
  replace xq:=xq.ext g
  replace xi:=xi.ext g
  replace xp:=xp.ext g
  replace K:=K.x g
  replace u:=u.x g
  replace d:=d.up g.size
  clear g
  refine⟨?_,?_⟩
  ·intro j hj
   simp only[List.mem_cons,List.not_mem_nil,or_false] at hj
   subst hj
   exact aG (Calm.load (T:=35) (p:=⟨h.size,0,none⟩) (by kernel_rfl) (Loads.blk (vs:=[.int .i64 kd,.string s,.slice oa l.length oc,.int .i64 n,.slice ka kn kc]) (by kernel_rfl) K rfl))
  refine aH.oK (is:=[3,4]) (by kernel_rfl) (by simp) ?_
  intro q hq
  simp only[List.mem_cons,List.not_mem_nil,or_false] at hq
  rcases hq with rfl|rfl
  ·obtain⟨W,hW⟩:∃W,(step M kd n s l).2 =W:=⟨_,rfl⟩
   have hwb:=jA my kd n s l;rw[hW] at hwb
   refine qg 15 15 3 [] (Does.call (f:=17) (args:= #[.pointer (some ⟨c,0,none⟩),.agg #[.int .i64 kd,.string s,.slice oa l.length oc,.int .i64 n,.slice ka kn kc]]) (by kernel_rfl) (pQ _ c q M my kd n s l oa oc ka kn kc (hr.ext r) hsz kt hE W hW)) ?_
   rintro _ V ⟨qa,qc,ia,ic,pa,pc,rfl,r1,r2,r3,r4,_,G⟩
   refine⟨fun j hj=>by simp at hj,?_⟩
   replace r:Ext h V:=Gr.dj r G (by rintro k (e|e)<;>omega)
   replace u:=G.blk u (by omega) (by omega)
   replace xq:=xq.uy G my
   replace xi:=xi.uy G my
   replace xp:=xp.uy G my
   replace d:=d.up G.1
   refine mN 31 31 4 (pV V.size) ((b6 0).toArray) 47 fun h15 B A=> ?_
   replace d:=d.nw r.size A
   refine mV 63 63 5 0 (bN W.c (.slice qa W.b.length qc) W.sx W.se W.sh W.sg (.slice ia W.i.length ic) W.n W.y W.k (.slice pa W.p.length pc)) (bN W.c (.slice qa W.b.length qc) W.sx W.se W.sh W.sg (.slice ia W.i.length ic) W.n W.y W.k (.slice pa W.p.length pc)) A fun h20 C Y=> ?_
   replace xq:=xq.ext B
   replace xq:=xq.aO C A (by decide)
   replace xi:=xi.ext B
   replace xi:=xi.aO C A (by decide)
   replace xp:=xp.ext B
   replace xp:=xp.aO C A (by decide)
   replace r1:=r1.ext B
   replace r1:=r1.aO C A (by decide)
   replace r2:=r2.ext B
   replace r2:=r2.aO C A (by decide)
   replace r3:=r3.ext B
   replace r3:=r3.aO C A (by decide)
   replace A:=Y
   refine mE [(9,pV V.size)] fun a t=>tK<|cS<|cS ?_
   rcases Classical.em (W.c =0) with hWc|hWc
   ·refine rS t<|tO 1 0 A<|eT 2 W.c 0 ?_
    replace u:=(u.x B).y C (d.bp 1 0)
    refine tR 5 u<|tG 6 (bQ _ (b8 3) X none 0 none 0 none 0 (aC.nil _ _) (aC.nil _ _) (aC.nil _ _) _ _ _ _ _ _ xq xi xp aq.nil x32 (by decide) (by decide)) ?_
    rintro _ h23 ⟨rfl,H⟩
    refine t1 7 (.bool (decide (az (b8 3) X=(0:Int)))) (.bool (az (b8 3) X==(0:Int))) rfl<|sE [(22,.bool (decide (az (b8 3) X=(0:Int))))] fun a t=>tK<|cJ 22 t (fun Q=> ?_) fun Q=> ?_
    ·have hfu:=jD (hW▸hWc:(step M kd n s l).2.c =0) Q
     refine qP [(8,.int .i64 0)] t fun a t=>cR (yT ?_)
     refine rT 8 (.int .i64 0) t ?_
     replace r:=((r.ext B).grew C (d.l 0)).ext H
     rw[hfu];exact⟨rfl,m.ext r,MG.aK r⟩
    ·have hfu:=ib (kd:=kd) (n:=n) (s:=s) (l:=l) (M:=M) (fun e=>Q e.2)
     refine cN<|tK<|qS t ?_
     replace A:=A.x H
     refine tR 0 A ?_
     replace u:=u.x H
     refine tR 1 u ?_
     replace xq:=xq.ext H
     replace xi:=xi.ext H
     replace xp:=xp.ext H
     replace r1:=r1.ext H
     replace r2:=r2.ext H
     replace r3:=r3.ext H
     refine tG 2 (bQ _ W X _ _ _ _ _ _ r1 r2 r3 _ _ _ _ _ _ xq xi xp r4 x32 (by omega) (by omega)) ?_
     rintro _ kg ⟨rfl,mX⟩
     refine sT [(8,.int .i64 (az W X))] fun a t=>cR<|rT 8 (.int .i64 (az W X)) t ?_
     replace r:=(((r.ext B).grew C (d.l 0)).ext H).ext mX
     rw[hfu];exact⟨by rw[hW],m.ext r,MG.aK r⟩
   ·have hfu:=ib (X:=X) (fun e:(step M kd n s l).2.c =0∧az (b8 3) X=0=>hWc (hW▸e.1))
    refine rS t<|tO 1 0 A<|eF 2 W.c 0<|sE [(22,.bool false)] fun a t=>tK<|cF 22 t<|cN ?_
    refine tK<|qS t<|tR 0 A ?_
    replace u:=(u.x B).y C (d.bp 1 0)
    refine tR 1 u<|tG 2 (bQ _ W X _ _ _ _ _ _ r1 r2 r3 _ _ _ _ _ _ xq xi xp r4 x32 (by omega) (by omega)) ?_
    rintro _ h28 ⟨rfl,NY⟩
    refine sT [(8,.int .i64 (az W X))] fun a t=>cR<|rT 8 (.int .i64 (az W X)) t ?_
    replace r:=((r.ext B).grew C (d.l 0)).ext NY
    rw[hfu];exact⟨by rw[hW],m.ext r,MG.aK r⟩
  ·refine qg 23 19 4 [2] (Does.new (v:= .pointer (some ⟨P.size,0,none⟩)) (o:= .cells (b6 0).toArray 47) (by kernel_rfl)) ?_
   rintro _ Z ⟨rfl,hh⟩
   have L:Ext P Z:=aY hh
   have z:Z[P.size]? =some (.cells (b6 0).toArray 47):=bj hh
   clear hh
   replace d:=d.nw r.size z
   replace K:=K.x L
   refine⟨?_,?_⟩
   ·intro j hj
    simp only[List.mem_cons,List.not_mem_nil,or_false] at hj
    subst hj
    exact aG (Calm.load (T:=35) (p:=⟨h.size,0,none⟩) (by kernel_rfl) (Loads.blk (vs:=[.int .i64 kd,.string s,.slice oa l.length oc,.int .i64 n,.slice ka kn kc]) (by kernel_rfl) K rfl))
   obtain⟨W,hW⟩:∃W,(step M kd n s l).2 =W:=⟨_,rfl⟩
   replace my:=my.ext L
   have hwb:=jA my kd n s l;rw[hW] at hwb
   replace r:=r.ext L
   replace kt:=kt.ext L
   replace xq:=xq.ext L
   replace xi:=xi.ext L
   replace xp:=xp.ext L
   replace u:=u.x L
   refine fZ 31 31 3 (pQ _ c q M my kd n s l oa oc ka kn kc (hr.ext r) hsz kt hE W hW) ?_
   rintro _ h35 ⟨qa,qc,ia,ic,pa,pc,rfl,r1,r2,r3,r4,_,G⟩
   replace r:Ext h h35:=Gr.dj r G (by rintro k (e|e)<;>omega)
   replace u:=G.blk u (by omega) (by omega)
   replace z:=G.blk z (by omega) (by omega)
   replace xq:=xq.uy G my
   replace xi:=xi.uy G my
   replace xp:=xp.uy G my
   replace d:=d.up G.1
   refine mV 63 63 5 0 (bN W.c (.slice qa W.b.length qc) W.sx W.se W.sh W.sg (.slice ia W.i.length ic) W.n W.y W.k (.slice pa W.p.length pc)) (bN W.c (.slice qa W.b.length qc) W.sx W.se W.sh W.sg (.slice ia W.i.length ic) W.n W.y W.k (.slice pa W.p.length pc)) z fun Cm D Y=> ?_
   replace xq:=xq.aO D z (by decide)
   replace xi:=xi.aO D z (by decide)
   replace xp:=xp.aO D z (by decide)
   replace r1:=r1.aO D z (by decide)
   replace r2:=r2.aO D z (by decide)
   replace r3:=r3.aO D z (by decide)
   replace z:=Y
   refine mE [(9,pV P.size)] fun a t=>tK<|cS<|cS ?_
   rcases Classical.em (W.c =0) with hWc|hWc
   ·refine rS t<|tO 1 0 z<|eT 2 W.c 0 ?_
    replace u:=u.y D (d.bp 1 0)
    refine tR 5 u<|tG 6 (bQ _ (b8 3) X none 0 none 0 none 0 (aC.nil _ _) (aC.nil _ _) (aC.nil _ _) _ _ _ _ _ _ xq xi xp aq.nil x32 (by decide) (by decide)) ?_
    rintro _ uN ⟨rfl,I⟩
    refine t1 7 (.bool (decide (az (b8 3) X=(0:Int)))) (.bool (az (b8 3) X==(0:Int))) rfl<|sE [(22,.bool (decide (az (b8 3) X=(0:Int))))] fun a t=>tK<|cJ 22 t (fun R=> ?_) fun R=> ?_
    ·have hfu:=jD (hW▸hWc:(step M kd n s l).2.c =0) R
     refine qP [(8,.int .i64 0)] t fun a t=>cR (yT ?_)
     refine rT 8 (.int .i64 0) t ?_
     replace r:=(r.grew D (d.l 0)).ext I
     rw[hfu];exact⟨rfl,m.ext r,MG.aK r⟩
    ·have hfu:=ib (kd:=kd) (n:=n) (s:=s) (l:=l) (M:=M) (fun e=>R e.2)
     refine cN<|tK<|qS t ?_
     replace z:=z.x I
     refine tR 0 z ?_
     replace u:=u.x I
     refine tR 1 u ?_
     replace xq:=xq.ext I
     replace xi:=xi.ext I
     replace xp:=xp.ext I
     replace r1:=r1.ext I
     replace r2:=r2.ext I
     replace r3:=r3.ext I
     refine tG 2 (bQ _ W X _ _ _ _ _ _ r1 r2 r3 _ _ _ _ _ _ xq xi xp r4 x32 (by omega) (by omega)) ?_
     rintro _ h42 ⟨rfl,rn⟩
     refine sT [(8,.int .i64 (az W X))] fun a t=>cR<|rT 8 (.int .i64 (az W X)) t ?_
     replace r:=((r.grew D (d.l 0)).ext I).ext rn
     rw[hfu];exact⟨by rw[hW],m.ext r,MG.aK r⟩
   ·have hfu:=ib (X:=X) (fun e:(step M kd n s l).2.c =0∧az (b8 3) X=0=>hWc (hW▸e.1))
    refine rS t<|tO 1 0 z<|eF 2 W.c 0<|sE [(22,.bool false)] fun a t=>tK<|cF 22 t<|cN ?_
    refine tK<|qS t<|tR 0 z ?_
    replace u:=u.y D (d.bp 1 0)
    refine tR 1 u<|tG 2 (bQ _ W X _ _ _ _ _ _ r1 r2 r3 _ _ _ _ _ _ xq xi xp r4 x32 (by omega) (by omega)) ?_
    rintro _ Es ⟨rfl,vo⟩
    refine sT [(8,.int .i64 (az W X))] fun a t=>cR<|rT 8 (.int .i64 (az W X)) t ?_
    replace r:=(r.grew D (d.l 0)).ext vo
    rw[hfu];exact⟨by rw[hW],m.ext r,MG.aK r⟩
 ·refine qg 21 16 4 [2] (Does.new (v:= .pointer (some ⟨h6.size,0,none⟩)) (o:= .cells (b6 0).toArray 47) (by kernel_rfl)) ?_
  rintro _ h45 ⟨rfl,hh⟩
  have N:Ext h6 h45:=aY hh
  have w:h45[h6.size]? =some (.cells (b6 0).toArray 47):=bj hh
  clear hh
  have NZ:=ak w
  replace r:=r.ext O
  replace d:=d.nw r.size w
  replace K:=K.x N
  refine⟨?_,?_⟩
  ·intro j hj
   simp only[List.mem_cons,List.not_mem_nil,or_false] at hj
   subst hj
   exact aG (Calm.load (T:=35) (p:=⟨h.size,0,none⟩) (by kernel_rfl) (Loads.blk (vs:=[.int .i64 kd,.string s,.slice oa l.length oc,.int .i64 n,.slice ka kn kc]) (by kernel_rfl) K rfl))
  replace u:=u.x N
  have N0:=ak u
  replace r:=r.ext N
  refine fT 23 19 1 [2] (Does.call (f:=23) (args:= #[.pointer (some ⟨mb,0,none⟩)]) (by kernel_rfl) (ow _ mb mp M (m.ext r) hE)) ?_
  rintro _ ID ⟨c,q,rfl,my,hc1,hq1,g⟩
  have hse:=r.size;have NX:=Nat.le_refl ID.size;have hmk:=my.kb
  replace kt:=((kt.ext U).ext O).ext N
  replace xq:=((xq.ext U).ext O).ext N
  replace xi:=((xi.ext U).ext O).ext N
  replace xp:=((xp.ext U).ext O).ext N
  replace r:=r.ext g
  replace kt:=kt.ext g
  replace xq:=xq.ext g
  replace xi:=xi.ext g
  replace xp:=xp.ext g
  replace K:=K.x g
  replace u:=u.x g
  replace w:=w.x g
  replace d:=d.up g.size
  clear g
  refine⟨?_,?_⟩
  ·intro j hj
   simp only[List.mem_cons,List.not_mem_nil,or_false] at hj
   subst hj
   exact aG (Calm.load (T:=35) (p:=⟨h.size,0,none⟩) (by kernel_rfl) (Loads.blk (vs:=[.int .i64 kd,.string s,.slice oa l.length oc,.int .i64 n,.slice ka kn kc]) (by kernel_rfl) K rfl))
  obtain⟨W,hW⟩:∃W,(step M kd n s l).2 =W:=⟨_,rfl⟩
  have hwb:=jA my kd n s l;rw[hW] at hwb
  refine fZ 31 31 3 (pQ _ c q M my kd n s l oa oc ka kn kc (hr.ext r) hsz kt hE W hW) ?_
  rintro _ Co ⟨qa,qc,ia,ic,pa,pc,rfl,r1,r2,r3,r4,_,G⟩
  replace r:Ext h Co:=Gr.dj r G (by rintro k (e|e)<;>omega)
  replace u:=G.blk u (by omega) (by omega)
  replace w:=G.blk w (by omega) (by omega)
  replace xq:=xq.uy G my
  replace xi:=xi.uy G my
  replace xp:=xp.uy G my
  replace d:=d.up G.1
  refine mV 63 63 5 0 (bN W.c (.slice qa W.b.length qc) W.sx W.se W.sh W.sg (.slice ia W.i.length ic) W.n W.y W.k (.slice pa W.p.length pc)) (bN W.c (.slice qa W.b.length qc) W.sx W.se W.sh W.sg (.slice ia W.i.length ic) W.n W.y W.k (.slice pa W.p.length pc)) w fun Da F Y=> ?_
  replace xq:=xq.aO F w (by decide)
  replace xi:=xi.aO F w (by decide)
  replace xp:=xp.aO F w (by decide)
  replace r1:=r1.aO F w (by decide)
  replace r2:=r2.aO F w (by decide)
  replace r3:=r3.aO F w (by decide)
  replace w:=Y
  refine mE [(9,pV h6.size)] fun a t=>tK<|cS<|cS ?_
  rcases Classical.em (W.c =0) with hWc|hWc
  ·refine rS t<|tO 1 0 w<|eT 2 W.c 0 ?_
   replace u:=u.y F (d.bp 1 0)
   refine tR 5 u<|tG 6 (bQ _ (b8 3) X none 0 none 0 none 0 (aC.nil _ _) (aC.nil _ _) (aC.nil _ _) _ _ _ _ _ _ xq xi xp aq.nil x32 (by decide) (by decide)) ?_
   rintro _ Bw ⟨rfl,J⟩
   refine t1 7 (.bool (decide (az (b8 3) X=(0:Int)))) (.bool (az (b8 3) X==(0:Int))) rfl<|sE [(22,.bool (decide (az (b8 3) X=(0:Int))))] fun a t=>tK<|cJ 22 t (fun S=> ?_) fun S=> ?_
   ·have hfu:=jD (hW▸hWc:(step M kd n s l).2.c =0) S
    refine qP [(8,.int .i64 0)] t fun a t=>cR (yT ?_)
    refine rT 8 (.int .i64 0) t ?_
    replace r:=(r.grew F (d.l 0)).ext J
    rw[hfu];exact⟨rfl,m.ext r,MG.aK r⟩
   ·have hfu:=ib (kd:=kd) (n:=n) (s:=s) (l:=l) (M:=M) (fun e=>S e.2)
    refine cN<|tK<|qS t ?_
    replace w:=w.x J
    refine tR 0 w ?_
    replace u:=u.x J
    refine tR 1 u ?_
    replace xq:=xq.ext J
    replace xi:=xi.ext J
    replace xp:=xp.ext J
    replace r1:=r1.ext J
    replace r2:=r2.ext J
    replace r3:=r3.ext J
    refine tG 2 (bQ _ W X _ _ _ _ _ _ r1 r2 r3 _ _ _ _ _ _ xq xi xp r4 x32 (by omega) (by omega)) ?_
    rintro _ Ja ⟨rfl,rp⟩
    refine sT [(8,.int .i64 (az W X))] fun a t=>cR<|rT 8 (.int .i64 (az W X)) t ?_
    replace r:=((r.grew F (d.l 0)).ext J).ext rp
    rw[hfu];exact⟨by rw[hW],m.ext r,MG.aK r⟩
  ·have hfu:=ib (X:=X) (fun e:(step M kd n s l).2.c =0∧az (b8 3) X=0=>hWc (hW▸e.1))
   refine rS t<|tO 1 0 w<|eF 2 W.c 0<|sE [(22,.bool false)] fun a t=>tK<|cF 22 t<|cN ?_
   refine tK<|qS t<|tR 0 w ?_
   replace u:=u.y F (d.bp 1 0)
   refine tR 1 u<|tG 2 (bQ _ W X _ _ _ _ _ _ r1 r2 r3 _ _ _ _ _ _ xq xi xp r4 x32 (by omega) (by omega)) ?_
   rintro _ h63 ⟨rfl,N1⟩
   refine sT [(8,.int .i64 (az W X))] fun a t=>cR<|rT 8 (.int .i64 (az W X)) t ?_
   replace r:=(r.grew F (d.l 0)).ext N1
   rw[hfu];exact⟨by rw[hW],m.ext r,MG.aK r⟩
noncomputable def b59:Code:=Tryz.f59.body.getD .skip
set_option maxHeartbeats 1000000 in
theorem jI(h:Heap)(jb:Nat)(bs:List (Nat×Nat))(Ms:List Md)(o1 o2 o4:Bool)(ca:Option Addr)(cc:Nat)(ja:JA h jb bs ⟨Ms,o1,o2,false,o4⟩ ca cc)(kd n:Int)(s:ByteArray)(l:List UInt8)(oa:Option Addr)(oc:Nat)(ka:Option Addr)(kn kc:Nat)(hr:fS (JF jb bs) h (.slice oa l.length oc) l.length 1 (l.map bv))(hsz:s.size ≤9223372036854775807)(X:An)(b_:Option Addr)(cd:Nat)(cf:Option Addr)(cj:Nat)(cm:Option Addr)(cn:Nat)(xq:aC h (.slice b_ X.b.length cd) X.b.length 1 (X.b.map bv))(xi:aC h (.slice cf X.i.length cj) X.i.length 1 (X.i.map Value.string))(xp:aC h (.slice cm X.p.length cn) X.p.length 32 (hcs X.p))(x32:aq X.p)(kt:bl h)(hE:∀M∈Ms,M.E.length ≤1099511627)(hn:bs.length ≤1099511627):Sat Tryz.prog 59 #[.pointer (some ⟨jb,0,none⟩),.agg #[.int .i64 kd,.string s,.slice oa l.length oc,.int .i64 n,.slice ka kn kc],.agg (bN X.c (.slice b_ X.b.length cd) X.sx X.se X.sh X.sg (.slice cf X.i.length cj) X.n X.y X.k (.slice cm X.p.length cn)).toArray,.func (.func 61) #[.pointer (some ⟨jb,0,none⟩)] #[]] h fun v h'=>v= .int .i64 (bx ⟨Ms,o1,o2,false,o4⟩ (bw kd n s l X)).2 ∧∃bs' ca cc,JA h' jb bs' (bx ⟨Ms,o1,o2,false,o4⟩ (bw kd n s l X)).1 ca cc∧(∀x∈bs',x∈bs)∧Gr (JF jb bs) h h':=by
 obtain⟨hj,row,cs0⟩:=ja
 have hj0:=hj
 have hbj:=ak hj
 have hjb:=cs0.FA hj (by decide)
 have hnr:=cs0.n_ hj (by decide) (by decide)
 have C:=Ext.refl h
 have L:=kt.lt
 have j:Sep h.size h.size []:=Sep.nil _ _
 refine ag Tryz.func59 47 fun a g=>qS g<|tN 0 (pV h.size) #[.int .i64 kd,.string s,.slice oa l.length oc,.int .i64 n,.slice ka kn kc] 35 fun D U r=> ?_
 have Z:=ak r
 replace j:=j.nw C.size r
 refine tN 1 (pV D.size) ((bN X.c (.slice b_ X.b.length cd) X.sx X.se X.sh X.sg (.slice cf X.i.length cj) X.n X.y X.k (.slice cm X.p.length cn)).toArray) 47 fun V S w=> ?_
 replace C:=C.ext U
 replace j:=j.nw C.size w
 refine sT [(5,pV h.size),(6,pV D.size)] fun a g=>qP [(9,.slice none 0 0)] g fun a g=>qP [(10,.int .i64 0)] g fun a g=>cS<|qS g ?_
 replace hj:=(hj.x U).x S
 refine tO 3 0 hj<|sT [(17,.slice ca bs.length cc),(18,nV bs.length),(19,.int .i64 0)] fun a g=>cB 0 ?_
 have d:Own V (.slice none 0 0) 55 0 1 ((bP (bw kd n s l X) bs Ms 0).map lF):=Own.nil _ _ _
 replace C:=C.ext S
 have N:=C.size
 replace j:=j.none N;clear N
 have gj:Gr (JF jb bs) h V:=(Gr.start _ _).ext C
 have cs:CA V bs Ms:=cs0.ext C
 replace kt:=(kt.ext U).ext S
 replace r:=r.x S
 refine cL (fun m a h'=>∃k:Nat,∃ad:Option Addr,∃cap:Nat,m=bs.length - k∧(bl h')∧(h'[jb]? =some (.cells #[.slice ca bs.length cc,.bool o1,.bool o2,.bool false,.bool o4] 77))∧(h'[h.size]? =some (.cells #[.int .i64 kd,.string s,.slice oa l.length oc,.int .i64 n,.slice ka kn kc] 35))∧(h'[D.size]? =some (.cells (bN X.c (.slice b_ X.b.length cd) X.sx X.se X.sh X.sg (.slice cf X.i.length cj) X.n X.y X.k (.slice cm X.p.length cn)).toArray 47))∧(k≤bs.length)∧(Gr (JF jb bs) h h')∧(CA h' bs ((Ms.take k).map (fun M=>((bw kd n s l X) M).1)++Ms.drop k))∧(Own h' (.slice ad ((bP (bw kd n s l X) bs Ms k).length) cap) 55 ((bP (bw kd n s l X) bs Ms k).length) 1 ((bP (bw kd n s l X) bs Ms k).map lF))∧(Sep h.size h'.size [ad.map (·.block),some (D.size),some (h.size)])∧(Fr a 47 [(0,.pointer (some ⟨jb,0,none⟩)),(3,.func (.func 61) #[.pointer (some ⟨jb,0,none⟩)] #[]),(5,.pointer (some ⟨h.size,0,none⟩)),(6,.pointer (some ⟨D.size,0,none⟩)),(9,.slice ad ((bP (bw kd n s l X) bs Ms k).length) cap),(10,.int .i64 (mc (bw kd n s l X) Ms k)),(17,.slice ca bs.length cc),(18,.int .i64 ((bs.length :Nat):Int)),(19,.int .i64 ((k:Nat):Int))])) (bs.length - 0) ⟨0,none,0,rfl,kt,hj,r,w,(by omega),gj,cs,d,j,g.to⟩ ?_
 clear g a
 clear kt
 clear hj
 clear r
 clear w
 clear gj
 clear cs
 clear d
 clear j
 rintro m a h11 ⟨k,ad,cap,rfl,kt,hj,r,w,hk,gj,cs,d,j,g⟩
 refine qP [(20,.bool (decide (((k:Nat):Int)<((bs.length :Nat):Int))))] g fun a g=>cS<|cJ 20 g (fun O=> ?_) fun O=> ?_
 ·have hkn:k<bs.length :=by omega
  obtain⟨x,hx⟩:∃x,bs[k]? =some x:=⟨_,List.getElem?_eq_getElem hkn⟩
  obtain⟨M,F⟩:∃M,Ms[k]? =some M:=⟨_,List.getElem?_eq_getElem (by rw[←cs0.len];exact hkn)⟩
  have hxm:=List.mem_of_getElem? hx
  have W:=cs0.at_ k x M hx F
  have mk:=cs.at_ k x M hx (j4 (fun M=>((bw kd n s l X) M).1) F)
  have hmk:=W.kb;have Gb:=W.k1
  obtain⟨hjm,hjp⟩:=W.Ak hj0 (by decide)
  have AL:=hE M (List.mem_of_getElem? F)
  have hFn:=g
  obtain⟨aa,rfl,bW⟩:=row.1.bg (by omega)
  have g:=hFn;clear hFn
  refine cN<|tK<|cS<|cB 1<|qS g<|tI 1 aa bs.length 1 k k<|tC 2 (pV x.1) (Calm.load (T:=55) (p:=(Addr.add aa k)) (by kernel_rfl) (Loads.one (k:=1) (by kernel_rfl) ((row.fr gj fun i e=>(hnr i e).2).1.cells k (lF x) (by rw[List.getElem?_map,hx];rfl)))) ?_
  refine sT [(11,nV k),(12,pV x.1)] fun a g=>qS g<|tR 2 r<|tR 3 w<|tF 4 (Does.call (f:=61) (args:= #[.pointer (some ⟨jb,0,none⟩),.pointer (some ⟨x.1,0,none⟩),.agg #[.int .i64 kd,.string s,.slice oa l.length oc,.int .i64 n,.slice ka kn kc],.agg (bN X.c (.slice b_ X.b.length cd) X.sx X.se X.sh X.sg (.slice cf X.i.length cj) X.n X.y X.k (.slice cm X.p.length cn)).toArray]) (by kernel_rfl) (xu _ jb x.1 x.2 M mk _ o1 o2 o4 hj kd n s l oa oc ka kn kc (hr.gr gj) hsz X b_ cd cf cj cm cn (xq.fr gj fun i e=>(hnr i e).1) (xi.fr gj fun i e=>(hnr i e).1) (xp.fr gj fun i e=>(hnr i e).1) x32 kt AL)) ?_
  rintro _ Y ⟨rfl,hmod,I⟩
  replace cs:=cs.set hx (j4 (fun M=>((bw kd n s l X) M).1) F) I hmod
  rw[n5 (fun M=>((bw kd n s l X) M).1) F] at cs
  replace gj:=gj.wR I (by rintro i (e|e);exact .inl (.inr ⟨x,hxm,.inl e⟩);exact .inl (.inr ⟨x,hxm,.inr e⟩))
  replace kt:=kt.gr I (by rintro(e|e)<;>omega)
  replace hj:=I.blk hj (by omega) (by omega)
  replace r:=I.blk r (by omega) (by omega)
  replace w:=I.blk w (by omega) (by omega)
  replace d:=Gr.own I d (by rw[af];intro k e;have:=j.low 0 rfl k e;rintro(e2|e2)<;>omega)
  replace j:=j.up I.1
  refine sT [(13,.int .i64 (((bw kd n s l X) M).2))] fun a g=>cS<|qP [(30,.bool (decide ((((bw kd n s l X) M).2)=(0:Int))))] g fun a g=>cJ 30 g (fun A=> ?_) fun A=> ?_
  ·have G:=pC (f:=(bw kd n s l X)) hx F A
   have hfl:=sU (f:=(bw kd n s l X)) (bs:=bs) (Ms:=Ms) (i:=k)
   refine rS g<|tN 2 (.slice (some ⟨Y.size,0,none⟩) 1 1) #[pV x.1] 55 fun h15 q H=> ?_
   replace j:=j.nw gj.1 H
   replace d:=d.ext q
   refine tP 3 ((bP (bw kd n s l X) bs Ms k).length +1) 8 ((bP (bw kd n s l X) bs Ms k).map lF++[lF x]) d (Row.blk (n:=1) (sz:=1) (l:=[lF x]) H rfl) (List.all_eq_true.1 (by rfl)) (fun t z Bv B o J=> ?_)
   replace gj:=gj.ext q
   replace cs:=cs.ext q
   replace cs:=cs.pE o d (af ..) (by decide) (by decide)
   replace hj:=hj.x q
   replace hj:=hj.y o (fun e=>by have:=j.low 1 rfl _ e.symm;omega)
   have u:=j
   replace j:=j.sa o 1 J B gj.1;clear J
   replace d:=B;clear B
   have pR:(bP (bw kd n s l X) bs Ms k).length +1=(bP (bw kd n s l X) bs Ms (k+1)).length :=by rw[G,List.length_append];rfl
   rw[pR,show(bP (bw kd n s l X) bs Ms k).map lF++[lF x]=(bP (bw kd n s l X) bs Ms (k+1)).map lF by rw[G,List.map_append];rfl] at d
   refine sE [(9,.slice t ((bP (bw kd n s l X) bs Ms k).length +1) z)] fun a g=> ?_
   have K:((bP (bw kd n s l X) bs Ms k).length +1:Nat)=(bP (bw kd n s l X) bs Ms (k+1)).length :=by first|exact pR| (simp;done)| (simp;omega)
   rw[K] at g;clear K
   refine tK<|qP [(36,.bool (decide (((k:Nat):Int)=(0:Int))))] g fun a g=>cJ 36 g (fun P=> ?_) fun P=> ?_
   ·have hk0:k=0:=by omega
    have ox:=jw (f:=(bw kd n s l X)) hk0 F
    refine rP [(10,.int .i64 (((bw kd n s l X) M).2))] g fun a g=> ?_
    rw[←ox] at g
    refine bK<|tK<|rS g<|tA 0 k 1<|sE [(19,nV (k+1))] fun a g=> ?_
    clear H
    replace kt:=(kt.ext q).grew o (u.zero 1 rfl L)
    replace r:=(r.x q).y o (u.bp 3 1)
    replace w:=(w.x q).y o (u.bp 2 1)
    replace gj:=gj.bX o (fun i e=> .inr (by have:=u.low 1 rfl i e;omega))
    replace j:=j.sub (l':=[t.map (·.block),some (D.size),some (h.size)]) (.cons _ (.cons_cons _ (.cons_cons _ (.cons_cons _ (.slnil)))))
    show ∃m',m'<_∧_
    refine⟨_,?_,(k+1),t,z,rfl,kt,hj,r,w,(by omega),gj,cs,d,j,g.to⟩
    omega
   ·rw[←jx (bw kd n s l X) Ms (k:=k) (by omega)] at g
    refine cN<|bK<|tK<|rS g<|tA 0 k 1<|sE [(19,nV (k+1))] fun a g=> ?_
    clear H
    replace kt:=(kt.ext q).grew o (u.zero 1 rfl L)
    replace r:=(r.x q).y o (u.bp 3 1)
    replace w:=(w.x q).y o (u.bp 2 1)
    replace gj:=gj.bX o (fun i e=> .inr (by have:=u.low 1 rfl i e;omega))
    replace j:=j.sub (l':=[t.map (·.block),some (D.size),some (h.size)]) (.cons _ (.cons_cons _ (.cons_cons _ (.cons_cons _ (.slnil)))))
    show ∃m',m'<_∧_
    refine⟨_,?_,(k+1),t,z,rfl,kt,hj,r,w,(by omega),gj,cs,d,j,g.to⟩
    omega
  ·have G:=sS (f:=(bw kd n s l X)) hx F A
   rw[←G] at d g
   refine cN<|tK<|qP [(36,.bool (decide (((k:Nat):Int)=(0:Int))))] g fun a g=>cJ 36 g (fun Q=> ?_) fun Q=> ?_
   ·have hk0:k=0:=by omega
    have ox:=jw (f:=(bw kd n s l X)) hk0 F
    refine rP [(10,.int .i64 (((bw kd n s l X) M).2))] g fun a g=> ?_
    rw[←ox] at g
    refine bK<|tK<|rS g<|tA 0 k 1<|sE [(19,nV (k+1))] fun a g=> ?_
    replace j:=j.sub (l':=[ad.map (·.block),some (D.size),some (h.size)]) (.cons_cons _ (.cons_cons _ (.cons_cons _ (.slnil))))
    show ∃m',m'<_∧_
    refine⟨_,?_,(k+1),ad,cap,rfl,kt,hj,r,w,(by omega),gj,cs,d,j,g.to⟩
    omega
   ·rw[←jx (bw kd n s l X) Ms (k:=k) (by omega)] at g
    refine cN<|bK<|tK<|rS g<|tA 0 k 1<|sE [(19,nV (k+1))] fun a g=> ?_
    replace j:=j.sub (l':=[ad.map (·.block),some (D.size),some (h.size)]) (.cons_cons _ (.cons_cons _ (.cons_cons _ (.slnil))))
    show ∃m',m'<_∧_
    refine⟨_,?_,(k+1),ad,cap,rfl,kt,hj,r,w,(by omega),gj,cs,d,j,g.to⟩
    omega
 ·refine cX 0 (xT (xT (xB ?_)))
  refine tK<|cS<|qP [(41,.bool (decide ((((bP (bw kd n s l X) bs Ms k).length :Nat):Int)=(0:Int))))] g fun a g=>cJ 41 g (fun R=> ?_) fun R=> ?_
  ·have hke:k=bs.length :=by omega
   rw[jy _ _ (hke.trans cs0.len)] at cs
   have hfn:=sV (f:=(bw kd n s l X)) (bs:=bs) (Ms:=Ms) cs0.len (by rw[←hke];omega)
   refine qP [(8,.int .i64 (mc (bw kd n s l X) Ms k))] g fun a g=>cR (yT ?_)
   refine rT 8 (.int .i64 (mc (bw kd n s l X) Ms k)) g ?_
   rw[sX (f:=(bw kd n s l X)) hfn];exact⟨by rw[sW (hke.trans cs0.len)],bs,ca,cc,⟨hj,row.fr gj fun i e=>(hnr i e).2,cs⟩,fun x hx=>hx,gj⟩
  ·have hke:k=bs.length :=by omega
   rw[jy _ _ (hke.trans cs0.len)] at cs
   have hfn:=wQ (f:=(bw kd n s l X)) (bs:=bs) (Ms:=Ms) cs0.len (by rw[←hke];omega)
   refine cN<|tK<|qS g<|tW 4 0 ([.slice ad ((bP (bw kd n s l X) bs Ms k).length) cap]) ([.slice ca bs.length cc,.bool o1,.bool o2,.bool false,.bool o4]) ([.slice ad ((bP (bw kd n s l X) bs Ms k).length) cap,.bool o1,.bool o2,.bool false,.bool o4]) hj (fun FM gz hjz=> ?_)
   refine sT [] fun a g=>qP [(8,.int .i64 0)] g fun a g=>cR<|rT 8 (.int .i64 0) g ?_
   have JL:∀i,i=jb→aZ _ i:=fun i e=>e▸aZ.cells hj (by decide)
   have hnp:∀i,i=jb→Aj _ i:=fun i e cs fr e2=>by rw[e,hj] at e2;cases e2
   rw[lG (f:=(bw kd n s l X)) hfn];exact⟨rfl,bP (bw kd n s l X) bs Ms k,_,_,⟨hjz,(kC.of d).fr gz.pe hnp,(hke▸cs.fit cs0.len).fr gz.pe JL fun x hx=>by have:=hjb x (jv x hx);exact⟨fun e=>this.1 e.symm,fun e=>this.2 e.symm⟩⟩,jv,gj.bX gz (fun i e=>by cases e;exact .inl (.inl rfl))⟩
set_option maxHeartbeats 1000000 in
theorem ns(h:Heap)(jb:Nat)(bs:List (Nat×Nat))(Ms:List Md)(o1 o2 o4:Bool)(ca:Option Addr)(cc:Nat)(ja:JA h jb bs ⟨Ms,o1,o2,false,o4⟩ ca cc)(kd n:Int)(s:ByteArray)(l:List UInt8)(oa:Option Addr)(oc:Nat)(ka:Option Addr)(kn kc:Nat)(hr:fS (JF jb bs) h (.slice oa l.length oc) l.length 1 (l.map bv))(hsz:s.size ≤9223372036854775807)(X:An)(b_:Option Addr)(cd:Nat)(cf:Option Addr)(cj:Nat)(cm:Option Addr)(cn:Nat)(xq:aC h (.slice b_ X.b.length cd) X.b.length 1 (X.b.map bv))(xi:aC h (.slice cf X.i.length cj) X.i.length 1 (X.i.map Value.string))(xp:aC h (.slice cm X.p.length cn) X.p.length 32 (hcs X.p))(x32:aq X.p)(kt:bl h)(hE:∀M∈Ms,M.E.length ≤1099511627)(hn:bs.length ≤1099511627):Sat Tryz.prog 59 #[.pointer (some ⟨jb,0,none⟩),.agg #[.int .i64 kd,.string s,.slice oa l.length oc,.int .i64 n,.slice ka kn kc],.agg (bN X.c (.slice b_ X.b.length cd) X.sx X.se X.sh X.sg (.slice cf X.i.length cj) X.n X.y X.k (.slice cm X.p.length cn)).toArray,.func (.func 60) #[.pointer (some ⟨jb,0,none⟩)] #[]] h fun v h'=>v= .int .i64 (bx ⟨Ms,o1,o2,false,o4⟩ (bb kd n s l X)).2 ∧∃bs' ca cc,JA h' jb bs' (bx ⟨Ms,o1,o2,false,o4⟩ (bb kd n s l X)).1 ca cc∧(∀x∈bs',x∈bs)∧Gr (JF jb bs) h h':=by
 obtain⟨hj,row,cs0⟩:=ja
 have hj0:=hj
 have hbj:=ak hj
 have hjb:=cs0.FA hj (by decide)
 have hnr:=cs0.n_ hj (by decide) (by decide)
 have C:=Ext.refl h
 have L:=kt.lt
 have j:Sep h.size h.size []:=Sep.nil _ _
 refine ag Tryz.func59 47 fun a g=>qS g<|tN 0 (pV h.size) #[.int .i64 kd,.string s,.slice oa l.length oc,.int .i64 n,.slice ka kn kc] 35 fun D U r=> ?_
 have Z:=ak r
 replace j:=j.nw C.size r
 refine tN 1 (pV D.size) ((bN X.c (.slice b_ X.b.length cd) X.sx X.se X.sh X.sg (.slice cf X.i.length cj) X.n X.y X.k (.slice cm X.p.length cn)).toArray) 47 fun V S w=> ?_
 replace C:=C.ext U
 replace j:=j.nw C.size w
 refine sT [(5,pV h.size),(6,pV D.size)] fun a g=>qP [(9,.slice none 0 0)] g fun a g=>qP [(10,.int .i64 0)] g fun a g=>cS<|qS g ?_
 replace hj:=(hj.x U).x S
 refine tO 3 0 hj<|sT [(17,.slice ca bs.length cc),(18,nV bs.length),(19,.int .i64 0)] fun a g=>cB 0 ?_
 have d:Own V (.slice none 0 0) 55 0 1 ((bP (bb kd n s l X) bs Ms 0).map lF):=Own.nil _ _ _
 replace C:=C.ext S
 have N:=C.size
 replace j:=j.none N;clear N
 have gj:Gr (JF jb bs) h V:=(Gr.start _ _).ext C
 have cs:CA V bs Ms:=cs0.ext C
 replace kt:=(kt.ext U).ext S
 replace r:=r.x S
 refine cL (fun m a h'=>∃k:Nat,∃ad:Option Addr,∃cap:Nat,m=bs.length - k∧(bl h')∧(h'[jb]? =some (.cells #[.slice ca bs.length cc,.bool o1,.bool o2,.bool false,.bool o4] 77))∧(h'[h.size]? =some (.cells #[.int .i64 kd,.string s,.slice oa l.length oc,.int .i64 n,.slice ka kn kc] 35))∧(h'[D.size]? =some (.cells (bN X.c (.slice b_ X.b.length cd) X.sx X.se X.sh X.sg (.slice cf X.i.length cj) X.n X.y X.k (.slice cm X.p.length cn)).toArray 47))∧(k≤bs.length)∧(Gr (JF jb bs) h h')∧(CA h' bs ((Ms.take k).map (fun M=>((bb kd n s l X) M).1)++Ms.drop k))∧(Own h' (.slice ad ((bP (bb kd n s l X) bs Ms k).length) cap) 55 ((bP (bb kd n s l X) bs Ms k).length) 1 ((bP (bb kd n s l X) bs Ms k).map lF))∧(Sep h.size h'.size [ad.map (·.block),some (D.size),some (h.size)])∧(Fr a 47 [(0,.pointer (some ⟨jb,0,none⟩)),(3,.func (.func 60) #[.pointer (some ⟨jb,0,none⟩)] #[]),(5,.pointer (some ⟨h.size,0,none⟩)),(6,.pointer (some ⟨D.size,0,none⟩)),(9,.slice ad ((bP (bb kd n s l X) bs Ms k).length) cap),(10,.int .i64 (mc (bb kd n s l X) Ms k)),(17,.slice ca bs.length cc),(18,.int .i64 ((bs.length :Nat):Int)),(19,.int .i64 ((k:Nat):Int))])) (bs.length - 0) ⟨0,none,0,rfl,kt,hj,r,w,(by omega),gj,cs,d,j,g.to⟩ ?_
 clear g a
 clear kt
 clear hj
 clear r
 clear w
 clear gj
 clear cs
 clear d
 clear j
 rintro m a h11 ⟨k,ad,cap,rfl,kt,hj,r,w,hk,gj,cs,d,j,g⟩
 refine qP [(20,.bool (decide (((k:Nat):Int)<((bs.length :Nat):Int))))] g fun a g=>cS<|cJ 20 g (fun O=> ?_) fun O=> ?_
 ·have hkn:k<bs.length :=by omega
  obtain⟨x,hx⟩:∃x,bs[k]? =some x:=⟨_,List.getElem?_eq_getElem hkn⟩
  obtain⟨M,F⟩:∃M,Ms[k]? =some M:=⟨_,List.getElem?_eq_getElem (by rw[←cs0.len];exact hkn)⟩
  have hxm:=List.mem_of_getElem? hx
  have W:=cs0.at_ k x M hx F
  have mk:=cs.at_ k x M hx (j4 (fun M=>((bb kd n s l X) M).1) F)
  have hmk:=W.kb;have Gb:=W.k1
  obtain⟨hjm,hjp⟩:=W.Ak hj0 (by decide)
  have AL:=hE M (List.mem_of_getElem? F)
  have hFn:=g
  obtain⟨aa,rfl,bW⟩:=row.1.bg (by omega)
  have g:=hFn;clear hFn
  refine cN<|tK<|cS<|cB 1<|qS g<|tI 1 aa bs.length 1 k k<|tC 2 (pV x.1) (Calm.load (T:=55) (p:=(Addr.add aa k)) (by kernel_rfl) (Loads.one (k:=1) (by kernel_rfl) ((row.fr gj fun i e=>(hnr i e).2).1.cells k (lF x) (by rw[List.getElem?_map,hx];rfl)))) ?_
  refine sT [(11,nV k),(12,pV x.1)] fun a g=>qS g<|tR 2 r<|tR 3 w<|tF 4 (Does.call (f:=60) (args:= #[.pointer (some ⟨jb,0,none⟩),.pointer (some ⟨x.1,0,none⟩),.agg #[.int .i64 kd,.string s,.slice oa l.length oc,.int .i64 n,.slice ka kn kc],.agg (bN X.c (.slice b_ X.b.length cd) X.sx X.se X.sh X.sg (.slice cf X.i.length cj) X.n X.y X.k (.slice cm X.p.length cn)).toArray]) (by kernel_rfl) (xv _ jb x.1 x.2 M mk kd n s l oa oc ka kn kc (hr.gr gj) hsz X b_ cd cf cj cm cn (xq.fr gj fun i e=>(hnr i e).1) (xi.fr gj fun i e=>(hnr i e).1) (xp.fr gj fun i e=>(hnr i e).1) x32 kt AL)) ?_
  rintro _ Y ⟨rfl,hmod,I⟩
  replace cs:=cs.set hx (j4 (fun M=>((bb kd n s l X) M).1) F) I hmod
  rw[n5 (fun M=>((bb kd n s l X) M).1) F] at cs
  replace gj:=gj.wR I (by rintro i (e|e);exact .inl (.inr ⟨x,hxm,.inl e⟩);exact .inl (.inr ⟨x,hxm,.inr e⟩))
  replace kt:=kt.gr I (by rintro(e|e)<;>omega)
  replace hj:=I.blk hj (by omega) (by omega)
  replace r:=I.blk r (by omega) (by omega)
  replace w:=I.blk w (by omega) (by omega)
  replace d:=Gr.own I d (by rw[af];intro k e;have:=j.low 0 rfl k e;rintro(e2|e2)<;>omega)
  replace j:=j.up I.1
  refine sT [(13,.int .i64 (((bb kd n s l X) M).2))] fun a g=>cS<|qP [(30,.bool (decide ((((bb kd n s l X) M).2)=(0:Int))))] g fun a g=>cJ 30 g (fun A=> ?_) fun A=> ?_
  ·have G:=pC (f:=(bb kd n s l X)) hx F A
   have hfl:=sU (f:=(bb kd n s l X)) (bs:=bs) (Ms:=Ms) (i:=k)
   refine rS g<|tN 2 (.slice (some ⟨Y.size,0,none⟩) 1 1) #[pV x.1] 55 fun h15 q H=> ?_
   replace j:=j.nw gj.1 H
   replace d:=d.ext q
   refine tP 3 ((bP (bb kd n s l X) bs Ms k).length +1) 8 ((bP (bb kd n s l X) bs Ms k).map lF++[lF x]) d (Row.blk (n:=1) (sz:=1) (l:=[lF x]) H rfl) (List.all_eq_true.1 (by rfl)) (fun t z Bv B o J=> ?_)
   replace gj:=gj.ext q
   replace cs:=cs.ext q
   replace cs:=cs.pE o d (af ..) (by decide) (by decide)
   replace hj:=hj.x q
   replace hj:=hj.y o (fun e=>by have:=j.low 1 rfl _ e.symm;omega)
   have u:=j
   replace j:=j.sa o 1 J B gj.1;clear J
   replace d:=B;clear B
   have pR:(bP (bb kd n s l X) bs Ms k).length +1=(bP (bb kd n s l X) bs Ms (k+1)).length :=by rw[G,List.length_append];rfl
   rw[pR,show(bP (bb kd n s l X) bs Ms k).map lF++[lF x]=(bP (bb kd n s l X) bs Ms (k+1)).map lF by rw[G,List.map_append];rfl] at d
   refine sE [(9,.slice t ((bP (bb kd n s l X) bs Ms k).length +1) z)] fun a g=> ?_
   have K:((bP (bb kd n s l X) bs Ms k).length +1:Nat)=(bP (bb kd n s l X) bs Ms (k+1)).length :=by first|exact pR| (simp;done)| (simp;omega)
   rw[K] at g;clear K
   refine tK<|qP [(36,.bool (decide (((k:Nat):Int)=(0:Int))))] g fun a g=>cJ 36 g (fun P=> ?_) fun P=> ?_
   ·have hk0:k=0:=by omega
    have ox:=jw (f:=(bb kd n s l X)) hk0 F
    refine rP [(10,.int .i64 (((bb kd n s l X) M).2))] g fun a g=> ?_
    rw[←ox] at g
    refine bK<|tK<|rS g<|tA 0 k 1<|sE [(19,nV (k+1))] fun a g=> ?_
    clear H
    replace kt:=(kt.ext q).grew o (u.zero 1 rfl L)
    replace r:=(r.x q).y o (u.bp 3 1)
    replace w:=(w.x q).y o (u.bp 2 1)
    replace gj:=gj.bX o (fun i e=> .inr (by have:=u.low 1 rfl i e;omega))
    replace j:=j.sub (l':=[t.map (·.block),some (D.size),some (h.size)]) (.cons _ (.cons_cons _ (.cons_cons _ (.cons_cons _ (.slnil)))))
    show ∃m',m'<_∧_
    refine⟨_,?_,(k+1),t,z,rfl,kt,hj,r,w,(by omega),gj,cs,d,j,g.to⟩
    omega
   ·rw[←jx (bb kd n s l X) Ms (k:=k) (by omega)] at g
    refine cN<|bK<|tK<|rS g<|tA 0 k 1<|sE [(19,nV (k+1))] fun a g=> ?_
    clear H
    replace kt:=(kt.ext q).grew o (u.zero 1 rfl L)
    replace r:=(r.x q).y o (u.bp 3 1)
    replace w:=(w.x q).y o (u.bp 2 1)
    replace gj:=gj.bX o (fun i e=> .inr (by have:=u.low 1 rfl i e;omega))
    replace j:=j.sub (l':=[t.map (·.block),some (D.size),some (h.size)]) (.cons _ (.cons_cons _ (.cons_cons _ (.cons_cons _ (.slnil)))))
    show ∃m',m'<_∧_
    refine⟨_,?_,(k+1),t,z,rfl,kt,hj,r,w,(by omega),gj,cs,d,j,g.to⟩
    omega
  ·have G:=sS (f:=(bb kd n s l X)) hx F A
   rw[←G] at d g
   refine cN<|tK<|qP [(36,.bool (decide (((k:Nat):Int)=(0:Int))))] g fun a g=>cJ 36 g (fun Q=> ?_) fun Q=> ?_
   ·have hk0:k=0:=by omega
    have ox:=jw (f:=(bb kd n s l X)) hk0 F
    refine rP [(10,.int .i64 (((bb kd n s l X) M).2))] g fun a g=> ?_
    rw[←ox] at g
    refine bK<|tK<|rS g<|tA 0 k 1<|sE [(19,nV (k+1))] fun a g=> ?_
    replace j:=j.sub (l':=[ad.map (·.block),some (D.size),some (h.size)]) (.cons_cons _ (.cons_cons _ (.cons_cons _ (.slnil))))
    show ∃m',m'<_∧_
    refine⟨_,?_,(k+1),ad,cap,rfl,kt,hj,r,w,(by omega),gj,cs,d,j,g.to⟩
    omega
   ·rw[←jx (bb kd n s l X) Ms (k:=k) (by omega)] at g
    refine cN<|bK<|tK<|rS g<|tA 0 k 1<|sE [(19,nV (k+1))] fun a g=> ?_
    replace j:=j.sub (l':=[ad.map (·.block),some (D.size),some (h.size)]) (.cons_cons _ (.cons_cons _ (.cons_cons _ (.slnil))))
    show ∃m',m'<_∧_
    refine⟨_,?_,(k+1),ad,cap,rfl,kt,hj,r,w,(by omega),gj,cs,d,j,g.to⟩
    omega
 ·refine cX 0 (xT (xT (xB ?_)))
  refine tK<|cS<|qP [(41,.bool (decide ((((bP (bb kd n s l X) bs Ms k).length :Nat):Int)=(0:Int))))] g fun a g=>cJ 41 g (fun R=> ?_) fun R=> ?_
  ·have hke:k=bs.length :=by omega
   rw[jy _ _ (hke.trans cs0.len)] at cs
   have hfn:=sV (f:=(bb kd n s l X)) (bs:=bs) (Ms:=Ms) cs0.len (by rw[←hke];omega)
   refine qP [(8,.int .i64 (mc (bb kd n s l X) Ms k))] g fun a g=>cR (yT ?_)
   refine rT 8 (.int .i64 (mc (bb kd n s l X) Ms k)) g ?_
   rw[sX (f:=(bb kd n s l X)) hfn];exact⟨by rw[sW (hke.trans cs0.len)],bs,ca,cc,⟨hj,row.fr gj fun i e=>(hnr i e).2,cs⟩,fun x hx=>hx,gj⟩
  ·have hke:k=bs.length :=by omega
   rw[jy _ _ (hke.trans cs0.len)] at cs
   have hfn:=wQ (f:=(bb kd n s l X)) (bs:=bs) (Ms:=Ms) cs0.len (by rw[←hke];omega)
   refine cN<|tK<|qS g<|tW 4 0 ([.slice ad ((bP (bb kd n s l X) bs Ms k).length) cap]) ([.slice ca bs.length cc,.bool o1,.bool o2,.bool false,.bool o4]) ([.slice ad ((bP (bb kd n s l X) bs Ms k).length) cap,.bool o1,.bool o2,.bool false,.bool o4]) hj (fun FM gz hjz=> ?_)
   refine sT [] fun a g=>qP [(8,.int .i64 0)] g fun a g=>cR<|rT 8 (.int .i64 0) g ?_
   have JL:∀i,i=jb→aZ _ i:=fun i e=>e▸aZ.cells hj (by decide)
   have hnp:∀i,i=jb→Aj _ i:=fun i e cs fr e2=>by rw[e,hj] at e2;cases e2
   rw[lG (f:=(bb kd n s l X)) hfn];exact⟨rfl,bP (bb kd n s l X) bs Ms k,_,_,⟨hjz,(kC.of d).fr gz.pe hnp,(hke▸cs.fit cs0.len).fr gz.pe JL fun x hx=>by have:=hjb x (jv x hx);exact⟨fun e=>this.1 e.symm,fun e=>this.2 e.symm⟩⟩,jv,gj.bX gz (fun i e=>by cases e;exact .inl (.inl rfl))⟩
end Go.Proofs.YtegkejcglfgpmaaGreatDoor
end
section
namespace Go.aN
open Go Go.aj
/-! ### the candidates when the power goes off: each beside what it becomes -/
abbrev Cn:=(Nat×Nat)×Md
@[reducible] def mz(z:Cn):Value:=lF z.1
noncomputable def jJ(M:Md)(T:List Cn):Bool:=T.any fun z=>ef M z.2
noncomputable def cK(T:List Cn)(z:Cn):List Cn:=if jJ z.2 T=true then T else T++[z]
noncomputable def uR(M:Md)(Ns:List Md):Bool:=Ns.any fun N=>ef M N
noncomputable def gH(Ns:List Md)(M:Md):List Md:=if uR M Ns=true then Ns else Ns++[M]
theorem Dj(M:Md)(T:List Cn):jJ M T=uR M (T.map fun z=>z.2):=by unfold jJ uR;rw[List.any_map];rfl
theorem rv(T:List Cn)(z:Cn):(cK T z).map (fun z=>z.2)=gH (T.map fun z=>z.2) z.2 :=by
  unfold cK gH;rw[Dj];split
  · rfl
  · rw[List.map_append];rfl
theorem tc{T:List Cn}{z:Cn}(h:jJ z.2 T=true):cK T z=T:=by unfold cK;rw[if_pos h]
theorem pS{T:List Cn}{z:Cn}(h:jJ z.2 T=false):cK T z=T++[z]:=by unfold cK;rw[if_neg (by rw[h];decide)]
theorem td(T:List Cn)(z:Cn):(cK T z).length ≤T.length +1:=by unfold cK;split<;>simp
theorem lM{T:List Cn}{z y:Cn}(h:y∈cK T z):y∈T∨y=z:=by
  unfold cK at h;split at h
  · exact .inl h
  · exact(List.mem_append.1 h).imp id List.mem_singleton.1
theorem xw{T:List Cn}{M:Md}{k:Nat}(h:∀i z,i<k→T[i]? =some z→ef M z.2 =false)(hk:k=T.length):jJ M T=false:=by
  unfold jJ;rw[List.any_eq_false];intro z hz
  obtain⟨i,hi⟩:=List.getElem?_of_mem hz
  rw[h i z (by rw[hk];exact(List.getElem?_eq_some_iff.1 hi).1) hi];decide
theorem AM{T:List Cn}{M:Md}{k:Nat}{z:Cn}(hz:T[k]? =some z)(h:ef M z.2 =true):jJ M T=true:=by
  unfold jJ;rw[List.any_eq_true];exact⟨z,List.mem_of_getElem? hz,h⟩
theorem xx{T:List Cn}{M:Md}{k:Nat}{z:Cn}(h:∀i z,i<k→T[i]? =some z→ef M z.2 =false)(hz:T[k]? =some z)(e:ef M z.2 =false):∀i z,i<k+1→T[i]? =some z→ef M z.2 =false:=fun i y hi hy=>by
  rcases Nat.lt_succ_iff_lt_or_eq.1 hi with h1|rfl
  · exact h i y h1 hy
  · rw[hz] at hy;cases hy;exact e
structure CS(h:Heap)(S:List Cn):Prop where
  at_:∀z∈S,Mod h z.1.1 z.1.2 z.2
  nb:(S.map fun z=>z.1.1).Nodup
  np:(S.map fun z=>z.1.2).Nodup
section
variable {h h':Heap} {S S' T U D:List Cn} {bs:List (Nat×Nat)} {Ms:List Md} {z:Cn} {c q:Nat} {M N:Md}
theorem CS.perm(s:CS h S)(p:S.Perm S'):CS h S':=⟨fun z hz=>s.at_ z (p.mem_iff.2 hz),(p.map _).nodup_iff.1 s.nb,(p.map _).nodup_iff.1 s.np⟩
theorem CS.sub(s:CS h S)(p:S'.Sublist S):CS h S':=⟨fun z hz=>s.at_ z (p.subset hz),s.nb.sublist (p.map _),s.np.sublist (p.map _)⟩
theorem tf:∀{bs:List (Nat×Nat)} {Ms:List Md} {z:Cn},z∈bs.zip Ms→∃i:Nat,bs[i]? =some z.1 ∧Ms[i]? =some z.2
  |[],_,_,h=>by simp at h
  |_::_,[],_,h=>by simp at h
  | x :: bs, M :: Ms, z, h => by
    rw[List.zip_cons_cons] at h
    rcases List.mem_cons.1 h with rfl|h
    · exact⟨0,rfl,rfl⟩
    · obtain⟨i,h1,h2⟩:=tf h;exact⟨i+1,h1,h2⟩
theorem CS.JM(c:CA h bs Ms):CS h (bs.zip Ms):=by
  have e:∀{α:Type} (f:Nat×Nat→α),(bs.zip Ms).map (fun z=>f z.1)=bs.map f:=fun f=>by
    rw[show(fun z:Cn=>f z.1)=f∘Prod.fst from rfl, ←List.map_map,List.map_fst_zip (by rw[c.len];exact Nat.le_refl _)]
  refine⟨fun z hz=> ?_, ?_, ?_⟩
  · obtain⟨i,h1,h2⟩:=tf hz;exact c.at_ i z.1 z.2 h1 h2
  · rw[e fun x=>x.1];exact c.nb
  · rw[e fun x=>x.2];exact c.np
theorem CS.JN(s:CS h S):CA h (S.map fun z=>z.1) (S.map fun z=>z.2):=by
  refine⟨by rw[List.length_map,List.length_map],fun i x M h1 h2=> ?_,by rw[List.map_map];exact s.nb,by rw[List.map_map];exact s.np⟩
  rw[List.getElem?_map] at h1 h2
  cases hi:S[i]? with
  |none=>rw[hi] at h1;cases h1
  |some z=>rw[hi] at h1 h2;cases h1;cases h2;exact s.at_ z (List.mem_of_getElem? hi)
theorem CS.ext(s:CS h S)(g:Ext h h'):CS h' S:=⟨fun z hz=>(s.at_ z hz).ext g,s.nb,s.np⟩
theorem CS.pE{o:Option Nat}{v:Value}{E:TypeId}{n sz:Nat}{xs:List Value}(s:CS h S)(g:Grew o h h')(w:Own h v E n sz xs)(ho:a6 v=o)(hE:kK E=false)(hM:E≠83):CS h' S:=⟨fun z hz=>(s.at_ z hz).eX g w ho hE hM,s.nb,s.np⟩
theorem CS.aO{cs:Array Value}{E:TypeId}{fr:Nat×Nat}(s:CS h S)(g:Grew (some c) h h')(k:h[c]? =some (.cells cs E fr))(hE:kK E=false)(hM:E≠83):CS h' S:=⟨fun z hz=>(s.at_ z hz).aO g k hE ((s.at_ z hz).Ak k hM).1,s.nb,s.np⟩
theorem CS.snoc(s:CS h S)(m:Mod h c q M)(h1:∀z∈S,z.1.1 <c∧z.1.2 <q):CS h (S++[((c,q),M)]):=by
  refine⟨fun z hz=> ?_, ?_, ?_⟩
  · rcases List.mem_append.1 hz with e | e
    · exact s.at_ z e
    · rw[List.mem_singleton.1 e];exact m
  · rw [List.map_append, List.nodup_append]; refine ⟨s.nb, by simp, fun a ha b hb e => ?_⟩
    obtain⟨z,hz,rfl⟩:=List.mem_map.1 ha
    simp only[List.map_cons,List.map_nil,List.mem_singleton] at hb
    have:=(h1 z hz).1;omega
  · rw [List.map_append, List.nodup_append]; refine ⟨s.np, by simp, fun a ha b hb e => ?_⟩
    obtain⟨z,hz,rfl⟩:=List.mem_map.1 ha
    simp only[List.map_cons,List.map_nil,List.mem_singleton] at hb
    have:=(h1 z hz).2;omega
theorem CS.upd(s:CS h (S++[((c,q),M)]))(g:MG c q h h')(m:Mod h' c q N):CS h' (S++[((c,q),N)]):=by
  have hm:=s.at_ ((c,q),M) (by simp)
  have n1:=s.nb;have n2:=s.np
  rw[List.map_append,List.nodup_append] at n1 n2
  refine⟨fun z hz=> ?_,by rw[List.map_append,List.nodup_append];exact n1,by rw[List.map_append,List.nodup_append];exact n2⟩
  rcases List.mem_append.1 hz with e|e
  · exact(s.at_ z (by simp[e])).other hm g (fun k=>n1.2.2 _ (List.mem_map.2 ⟨z,e,rfl⟩) c (by simp) k) fun k=>n2.2.2 _ (List.mem_map.2 ⟨z,e,rfl⟩) q (by simp) k
  · rw[List.mem_singleton.1 e];exact m
theorem CS.lt(s:CS h S):∀z∈S,z.1.1 <h.size ∧z.1.2 <h.size :=fun z hz=>(s.at_ z hz).kb
theorem CS.take(s:CS h (T++U++z::D)):∃V,CS h (cK T z++V++D):=by
  cases e:jJ z.2 T with
  |true=>rw[tc e];exact⟨U++[z],by simpa using s⟩
  |false=>rw[pS e];exact⟨U,s.perm (by
      have:=(List.perm_middle (a:=z) (l₁:=U) (l₂:=D)).append_left T
      simpa using this)⟩
theorem CS.takeN(s:CS h (T++U++D++[z])):∃V,CS h (cK T z++V++D):=by
  have:CS h (T++U++z::D):=s.perm (by
    have:=((List.perm_append_comm (l₁:=D) (l₂:=[z])).append_left U).append_left T
    simpa using this)
  exact this.take
theorem CS.first(s:CS h (T++U++D)):CS h T:=s.sub (by rw[List.append_assoc];exact List.sublist_append_left ..)
theorem CA.aO{b:Nat}{cs:Array Value}{E:TypeId}{fr:Nat×Nat}(s:CA h bs Ms)(g:Grew (some b) h h')(k:h[b]? =some (.cells cs E fr))(hE:kK E=false)(hM:E≠83):CA h' bs Ms:=⟨s.len,fun i x M h1 h2=>(s.at_ i x M h1 h2).aO g k hE ((s.at_ i x M h1 h2).Ak k hM).1,s.nb,s.np⟩
theorem xy{k:Nat}{x:Nat×Nat}(hx:bs[k]? =some x)(hM:Ms[k]? =some M):(bs.zip Ms).drop k=(x,M)::(bs.zip Ms).drop (k+1):=by
  have h1:=(List.getElem?_eq_some_iff.1 hx).1
  have h2:=(List.getElem?_eq_some_iff.1 hM).1
  rw[List.drop_eq_getElem_cons (by rw[List.length_zip];omega),List.getElem_zip]
  rw[List.getElem?_eq_getElem h1] at hx;rw[List.getElem?_eq_getElem h2] at hM
  rw[Option.some.inj hx,Option.some.inj hM]
theorem JA.mkT{jb cap:Nat}{ad:Option Addr}{o1 o2 o3:Bool}{Ns:List Md}(hj:h[jb]? =some (.cells #[.slice ad T.length cap, .bool o1, .bool o2, .bool o3, .bool (decide ((16:Int)<((T.length :Nat):Int)))] 77))(own:Own h (.slice ad T.length cap) 55 T.length 1 (T.map mz))(s:CS h T)(e:T.map (fun z=>z.2)=Ns):JA h jb (T.map fun z=>z.1) ⟨Ns,o1,o2,o3,decide (16<Ns.length)⟩ ad cap:=by
  have hl:(T.map fun z:Cn=>z.1).length =T.length :=List.length_map _
  have hn:T.length =Ns.length :=by rw[←e,List.length_map]
  refine⟨?_, ?_, ?_⟩
  · rw [hl]; show h[jb]? = some (.cells #[_, _, _, _, .bool (decide (16 < Ns.length))] _)
    rw[hj,hn]
    have hd:decide ((16:Int)<((Ns.length :Nat):Int))=decide (16<Ns.length):=decide_eq_decide.2 (by omega)
    rw[hd]
  · rw[hl,List.map_map];exact kC.of own
  · rw[←e];exact s.JN
end
end Go.aN
namespace Go.Proofs.YtegkejcglfgpmaaGreatDoor
open Go Go.aj Go.aN
noncomputable def dM(kd n:Int)(s:ByteArray)(l:List UInt8)(A:List Md)(M:Md):List Md:=if (step M kd n s l).2.c =0 then gH (gH A M) (step M kd n s l).1 else gH A M
noncomputable def eh(kd n:Int)(s:ByteArray)(l:List UInt8)(Ms:List Md):List Md:=Ms.foldl (dM kd n s l) []
theorem nt{kd n:Int}{s:ByteArray}{l:List UInt8}{Ms:List Md}{k:Nat}{M:Md}(h:Ms[k]? =some M):eh kd n s l (Ms.take (k+1))=dM kd n s l (eh kd n s l (Ms.take k)) M:=by
  unfold eh;rw[List.take_add_one,h,List.foldl_append];rfl
theorem xz{kd n:Int}{s:ByteArray}{l:List UInt8}{T:List Cn}{z:Cn}{c:Nat×Nat}(h:(step z.2 kd n s l).2.c =0):(cK (cK T z) (c,(step z.2 kd n s l).1)).map (fun z=>z.2)=dM kd n s l (T.map fun z=>z.2) z.2 :=by
  unfold dM;rw[if_pos h,rv,rv]
theorem AN{kd n:Int}{s:ByteArray}{l:List UInt8}{T:List Cn}{z:Cn}(h:(step z.2 kd n s l).2.c ≠0):(cK T z).map (fun z=>z.2)=dM kd n s l (T.map fun z=>z.2) z.2 :=by
  unfold dM;rw[if_neg h,rv]
theorem dm{kd n:Int}{s:ByteArray}{l:List UInt8}{M N:Md}(hc:(step M kd n s l).2.c =0)(hN:(step M kd n s l).1 =N)(hne:N.E.length ≠M.E.length):eh kd n s l [M]=[M,N]:=by
  have h0:gH [] M=[M]:=by unfold gH uR;rfl
  have h1:ef N M=false:=fK (xj hne)
  unfold eh;rw[List.foldl_cons,List.foldl_nil];unfold dM;rw[if_pos hc,h0,hN]
  unfold gH uR;simp[h1]
theorem Dk(h:Heap)(mb mp nb np:Nat)(M N:Md)(m:Mod h mb mp M)(n:Mod h nb np N)(hl:M.E.length ≤2199023255552):Sat Tryz.prog 25 #[.pointer (some ⟨mb,0,none⟩),.pointer (some ⟨nb,0,none⟩)] h fun v h'=>v= .bool (ef M N)∧Ext h h':=by
 obtain⟨L,ck,ea,ec,es,m⟩:=m
 obtain⟨L2,ck2,Dh,AJ,es2,n⟩:=n
 exact xo h mb mp M L ck ea ec es m nb np N L2 ck2 Dh AJ es2 n hl
noncomputable def N2:Code:=Tryz.f138.body.getD .skip
theorem uS(h:Heap)(T:List Cn)(va:Option Addr)(vc:Nat)(hr:Row h (.slice va T.length vc) T.length 1 (T.map mz))(cs:∀z∈T,Mod h z.1.1 z.1.2 z.2)(mb mp:Nat)(M:Md)(m:Mod h mb mp M)(hn:T.length ≤1099511627)(hEl:M.E.length ≤2199023255552):Sat Tryz.prog 138 #[.slice va T.length vc,.func (.func 25) #[.pointer (some ⟨mb,0,none⟩)] #[]] h fun v h'=>∃i:Int,v= .int .i64 i∧decide ((0:Int)≤i)=jJ M T∧Ext h h':=by
 have c:=Ext.refl h
 refine ag Tryz.func138 19 fun a b=>qP [] b fun a b=>cS<|qP [(7,nV T.length),(8,.int .i64 0)] b fun a b=>cB 0<|cL (fun m a h'=>∃k:Nat,m=T.length - k∧(Ext h h')∧(k≤T.length)∧(∀i z,i<k→T[i]? =some z→ef M z.2 =false)∧(Fr a 19 [(0,.slice va T.length vc),(1,.func (.func 25) #[.pointer (some ⟨mb,0,none⟩)] #[]),(7,.int .i64 ((T.length :Nat):Int)),(8,.int .i64 ((k:Nat):Int))])) (T.length - 0) ⟨0,rfl,c,(by omega),(fun _ _ h=>absurd h (Nat.not_lt_zero _)),b.to⟩ ?_
 clear b a
 clear c
 rintro m a n ⟨k,rfl,c,hk,hno,b⟩
 refine qP [(9,.bool (decide (((k:Nat):Int)<((T.length :Nat):Int))))] b fun a b=>cS<|cJ 9 b (fun j=> ?_) fun j=> ?_
 ·have l:k<T.length :=by omega
  obtain⟨z,e⟩:∃z,T[k]? =some z:=⟨_,List.getElem?_eq_getElem l⟩
  have hFn:=b
  obtain⟨aa,rfl,bW⟩:=hr.bg (by omega)
  have b:=hFn;clear hFn
  refine cN<|tK<|cS<|cB 1<|qP [(5,nV k)] b fun a b=>qS b<|tI 3 aa T.length 1 k k ?_
  refine tC 4 (pV z.1.1) (Calm.load (T:=55) (p:=(Addr.add aa k)) (by kernel_rfl) (Loads.one (k:=1) (by kernel_rfl) ((hr.ext c).cells k (mz z) (by rw[List.getElem?_map,e];rfl)))) ?_
  refine tF 5 (Does.call (f:=25) (args:= #[.pointer (some ⟨mb,0,none⟩),.pointer (some ⟨z.1.1,0,none⟩)]) (by kernel_rfl) (Dk _ mb mp z.1.1 z.1.2 M z.2 (m.ext c) ((cs z (List.mem_of_getElem? e)).ext c) hEl)) ?_
  rintro _ o ⟨rfl,g⟩
  replace c:=c.ext g
  clear g
  refine sT [(16,.bool (ef M z.2))] fun a b=>cC 16 (ef M z.2) b (fun d=> ?_) (fun d=> ?_)
  ·have hsz:=d
   refine qP [(4,nV k)] b fun a b=>cR (yB (yT (yT (yB (yT ?_)))))
   exact rT 4 (nV k) b<|⟨_,rfl,by rw[AM e hsz];exact decide_eq_true (by omega),c⟩
  ·have hsz:=d
   refine cN<|bK<|tK<|rS b<|tA 0 k 1<|sE [(8,nV (k+1))] fun a b=> ?_
   show ∃m',m'<_∧_
   refine⟨_,?_,(k+1),rfl,c,(by omega),(xx hno e hsz),b.to⟩
   omega
 ·refine cX 0 (xT (xT (xB ?_)))
  exact tK<|qP [(4,.int .i64 (-1))] b fun a b=>cR<|rT 4 (.int .i64 (-1)) b<|⟨_,rfl,by rw[xw hno (by omega)];rfl,c⟩
noncomputable def N3:Code:=Tryz.f120.body.getD .skip
theorem oy(h:Heap)(T:List Cn)(va:Option Addr)(vc:Nat)(hr:Row h (.slice va T.length vc) T.length 1 (T.map mz))(cs:∀z∈T,Mod h z.1.1 z.1.2 z.2)(mb mp:Nat)(M:Md)(m:Mod h mb mp M)(hn:T.length ≤1099511627)(hEl:M.E.length ≤2199023255552):Sat Tryz.prog 120 #[.slice va T.length vc,.func (.func 25) #[.pointer (some ⟨mb,0,none⟩)] #[]] h fun v h'=>v= .bool (jJ M T)∧Ext h h':=by
 have b:=Ext.refl h
 refine ag Tryz.func120 9 fun a c=>qP [] c fun a c=>qS c<|tG 2 (uS _ T va vc (hr.ext b) (fun z d=>(cs z d).ext b) mb mp M (m.ext b) hn hEl) ?_
 rintro _ f ⟨i,rfl,hi0,e⟩
 refine sT [(4,.bool (decide ((0:Int)≤i)))] fun a c=>cR<|rT 4 (.bool (decide ((0:Int)≤i))) c ?_
 replace b:=b.ext e
 exact⟨congrArg Value.bool hi0,b⟩
noncomputable def b96:Code:=Tryz.f96.body.getD .skip
theorem add_sat(h:Heap)(T:List Cn)(va:Option Addr)(vc:Nat)(own:Own h (.slice va T.length vc) 55 T.length 1 (T.map mz))(cs:∀z∈T,Mod h z.1.1 z.1.2 z.2)(mb mp:Nat)(M:Md)(m:Mod h mb mp M)(hn:T.length ≤1099511627)(hEl:M.E.length ≤2199023255552):Sat Tryz.prog 96 #[.slice va T.length vc,.pointer (some ⟨mb,0,none⟩)] h fun v h'=>∃ad cap,v= .slice ad (cK T ((mb,mp),M)).length cap∧Own h' (.slice ad (cK T ((mb,mp),M)).length cap) 55 (cK T ((mb,mp),M)).length 1 ((cK T ((mb,mp),M)).map mz)∧Grew (va.map (fun(x:Addr)=>x.block)) h h'∧(ad.map (fun(x:Addr)=>x.block)=va.map (fun(x:Addr)=>x.block)∨∃k,ad.map (fun(x:Addr)=>x.block)=some k∧h.size ≤k):=by
 have b:=Ext.refl h
 refine ag Tryz.func96 14 fun a d=>qP [] d fun a d=>cS<|qS d<|tG 3 (oy _ T va vc (own.row.ext b) (fun z r=>(cs z r).ext b) mb mp M (m.ext b) hn hEl) ?_
 rintro _ p ⟨rfl,q⟩
 refine sT [(8,.bool (jJ M T))] fun a d=>cC 8 (jJ M T) d (fun g=> ?_) (fun g=> ?_)
 ·have hany:=g
  refine qP [(4,.slice va T.length vc)] d fun a d=>cR (yT ?_)
  refine rT 4 (.slice va T.length vc) d ?_
  replace b:=b.ext q
  rw[tc hany];exact⟨_,_,rfl,own.ext b,b.but _,.inl rfl⟩
 ·have hany:=g
  refine cN<|tK<|qS d<|tN 2 (.slice (some ⟨p.size,0,none⟩) 1 1) #[pV mb] 55 fun y s u=> ?_
  replace b:=b.ext q
  replace b:=b.ext s
  refine tF 3 (Does.eC (t:=75) (E:=55) (sz:=1) (dV:=8) (n:=T.length) (m:=1) (c:=vc) (N:=T.length +1) (a:=va) (x:= .slice (some ⟨p.size,0,none⟩) 1 1) (xs:=T.map mz) (ys:=[mz ((mb,mp),M)]) (Z:=(T++[((mb,mp),M)]).map mz) (by kernel_rfl) (by kernel_rfl) (own.ext b) (Row.blk (n:=1) (sz:=1) (l:=[mz ((mb,mp),M)]) u rfl) (List.all_eq_true.1 (by rfl)) (by unfold maxLen;omega) (by omega) rfl (by rw[List.map_append];rfl)) ?_
  rintro _ w ⟨i,f,rfl,j,gz,hbz⟩
  have o:=b.size
  refine sT [(4,.slice i (T.length +1) f)] fun a d=>cR<|rT 4 (.slice i (T.length +1) f) d ?_
  rw[pS hany,List.length_append];exact⟨_,_,rfl,j,(b.but _).trans gz,hbz.imp id fun e=>⟨_,e,o⟩⟩
noncomputable def b58:Code:=Tryz.f58.body.getD .skip
set_option maxHeartbeats 1000000 in
theorem xC(h:Heap)(jb:Nat)(bs:List (Nat×Nat))(Ms:List Md)(o1 o2 o3 o4:Bool)(ca:Option Addr)(cc:Nat)(ja:JA h jb bs ⟨Ms,o1,o2,o3,o4⟩ ca cc)(kd n:Int)(s:ByteArray)(l:List UInt8)(oa:Option Addr)(oc:Nat)(ka:Option Addr)(kn kc:Nat)(hr:fS (JF jb bs) h (.slice oa l.length oc) l.length 1 (l.map bv))(hsz:s.size ≤9223372036854775807)(kt:bl h)(hE:∀M∈Ms,M.E.length ≤1099511627)(hn:bs.length ≤109951162):Sat Tryz.prog 58 #[.pointer (some ⟨jb,0,none⟩),.agg #[.int .i64 kd,.string s,.slice oa l.length oc,.int .i64 n,.slice ka kn kc]] h fun _ h'=>∃bs' ca cc,JA h' jb bs' ⟨eh kd n s l Ms,o1,o2,o3,decide (16<(eh kd n s l Ms).length)⟩ ca cc∧(∀z∈bs',z∈bs∨(h.size ≤z.1 ∧h.size ≤z.2))∧Gr (fun k=>k=jb) h h':=by
 obtain⟨hj,row,cs0⟩:=ja
 have hlm:bs.length =Ms.length :=cs0.len
 have hbj:=ak hj
 have j:=Ext.refl h
 have d:Sep h.size h.size []:=Sep.nil _ _
 refine ag Tryz.func58 41 fun a f=>qS f<|tN 0 (pV h.size) #[.int .i64 kd,.string s,.slice oa l.length oc,.int .i64 n,.slice ka kn kc] 35 fun Y g2 r=> ?_
 replace d:=d.nw j.size r
 refine sT [(3,pV h.size)] fun a f=>qP [(4,.slice none 0 0)] f fun a f=>cS<|qS f ?_
 replace j:=j.ext g2
 refine tO 3 0 (j.blk hj)<|sT [(11,.slice ca bs.length cc),(12,nV bs.length),(13,.int .i64 0)] fun a f=>cB 0 ?_
 have b:Own Y (.slice none 0 0) 55 0 1 (([]:List Cn).map mz):=Own.nil _ _ _
 have hlz:=j.size;replace d:=d.none hlz
 have hS:CS Y (([]++[]++(bs.zip Ms).drop 0:List Cn)):=by simpa using(CS.JM cs0).ext j
 refine cL (fun m a h'=>∃k:Nat,∃T:List Cn,∃U:List Cn,∃ad:Option Addr,∃cap:Nat,m=bs.length - k∧(Ext h h')∧(h'[h.size]? =some (.cells #[.int .i64 kd,.string s,.slice oa l.length oc,.int .i64 n,.slice ka kn kc] 35))∧(k≤bs.length)∧(CS h' (T++U++(bs.zip Ms).drop k))∧(T.map (fun z=>z.2)=eh kd n s l (Ms.take k))∧(∀z∈T,z.1 ∈bs∨(h.size ≤z.1.1 ∧h.size ≤z.1.2))∧(T.length ≤2*k)∧(Own h' (.slice ad T.length cap) 55 T.length 1 (T.map mz))∧(Sep h.size h'.size [ad.map (·.block),some (h.size)])∧(Fr a 41 [(0,.pointer (some ⟨jb,0,none⟩)),(3,.pointer (some ⟨h.size,0,none⟩)),(4,.slice ad T.length cap),(11,.slice ca bs.length cc),(12,.int .i64 ((bs.length :Nat):Int)),(13,.int .i64 ((k:Nat):Int))])) (bs.length - 0) ⟨0,[],[],none,0,rfl,j,r,(Nat.zero_le _),hS,rfl,(fun _ h=>by cases h),(Nat.le_refl _),b,d,f.to⟩ ?_
 clear f a
 clear j
 clear r
 clear hS
 clear b
 clear d
 rintro m a Z ⟨k,T,U,ad,cap,rfl,j,r,hk,hS,hT,JO,hTl,b,d,f⟩
 refine qP [(14,.bool (decide (((k:Nat):Int)<((bs.length :Nat):Int))))] f fun a f=>cS<|cJ 14 f (fun R=> ?_) fun R=> ?_
 ·have hkn:k<bs.length :=by omega
  obtain⟨x,hx⟩:∃x,bs[k]? =some x:=⟨_,List.getElem?_eq_getElem hkn⟩
  obtain⟨M,Q⟩:∃M,Ms[k]? =some M:=⟨_,List.getElem?_eq_getElem (by rw[←hlm];exact hkn)⟩
  rw[xy hx Q] at hS
  have AL:=hE M (List.mem_of_getElem? Q)
  have mx:=hS.at_ (x,M) (by simp)
  have hFn:=f
  obtain⟨aa,rfl,bW⟩:=row.1.bg (by omega)
  have f:=hFn;clear hFn
  refine cN<|tK<|cS<|cB 1<|qS f<|tI 0 aa bs.length 1 k k<|tC 1 (pV x.1) (Calm.load (T:=55) (p:=(Addr.add aa k)) (by kernel_rfl) (Loads.one (k:=1) (by kernel_rfl) ((row.1.ext j).cells k (lF x) (by rw[List.getElem?_map,hx];rfl)))) ?_
  refine sT [(6,pV x.1)] fun a f=>qS f<|tG 2 (add_sat _ T ad cap b (fun z t=>hS.at_ z (by simp[t])) x.1 x.2 M mx (by omega) (by omega)) ?_
  rintro _ h12 ⟨D,I,rfl,o,v,J⟩
  have hlz:=j.size
  replace hS:=hS.pE v b (af ..) (by decide) (by decide)
  replace mx:=mx.eX v b (af ..) (by decide) (by decide)
  have N:=d
  replace d:=d.set v.1 hlz 0 (y:=D.map (fun(x:Addr)=>x.block)) rfl (J.imp id .inr) (fun k e=>o.lt (by rw[af];exact e));clear J hlz
  replace b:=o;clear o
  obtain⟨V1,hS1⟩:=hS.take;replace hS:=hS1;clear hS1
  have hZl:=td T (x,M)
  refine sT [(4,.slice D ((cK T (x,M)).length) I)] fun a f=>qS f ?_
  replace r:=r.y v (N.bp 1 0)
  have N4:=ak r
  have hSl:=hS.lt
  refine tG 1 (ow _ x.1 x.2 M mx AL) ?_
  rintro _ h15 ⟨c,q,rfl,my,F,hq1,g⟩
  replace j:=j.grew v (N.l 0)
  have O:=j.size
  replace j:=j.ext g
  replace b:=b.ext g
  replace hS:=hS.ext g
  replace mx:=mx.ext g
  replace r:=r.x g
  replace d:=d.up g.size
  clear g
  replace hS:=hS.snoc my fun z t=>⟨Nat.lt_of_lt_of_le (hSl z t).1 F,Nat.lt_of_lt_of_le (hSl z t).2 hq1⟩
  refine sT [(7,pV c)] fun a f=>cS ?_
  rcases Classical.em ((step M kd n s l).2.c =0) with w|w
  ·refine rS f<|tR 1 r ?_
   have rz:=my.Am b (by decide)
   obtain⟨W,hW⟩:∃W,(step M kd n s l).2 =W:=⟨_,rfl⟩
   have hWc:W.c =0:=hW▸w
   refine tG 2 (pQ _ c q M my kd n s l oa oc ka kn kc (hr.1.ext j) hsz (kt.ext j) AL W hW) ?_
   rintro _ S ⟨qa,qc,ia,ic,pa,pc,rfl,_,_,_,_,Dl,A⟩
   replace j:Ext h S:=Gr.dj j A (by rintro k (e|e)<;>omega)
   replace hS:=hS.upd A Dl;clear mx my;have my:=Dl;clear Dl
   replace r:=A.blk r (by omega) (by omega)
   replace b:=Gr.own A b (by rw[af];exact rz)
   replace d:=d.up A.1
   replace F:=Nat.le_trans O F;replace hq1:=Nat.le_trans O hq1
   refine eT 4 W.c 0<|sE [(26,.bool true)] fun a f=>tK<|cT 26 f<|rS f ?_
   have hNl:=n9 M kd n s l
   refine tG 2 (add_sat _ (cK T (x,M)) _ _ b (fun z t=>hS.at_ z (by simp[t])) c q (step M kd n s l).1 my (by omega) (by omega)) ?_
   rintro _ h22 ⟨u,B,rfl,o,G,K⟩
   have hlz:=j.size
   replace hS:=hS.pE G b (af ..) (by decide) (by decide)
   have P:=d
   replace d:=d.set G.1 hlz 0 (y:=u.map (fun(x:Addr)=>x.block)) rfl (K.imp id .inr) (fun k e=>o.lt (by rw[af];exact e));clear K hlz
   replace b:=o;clear o
   obtain⟨V2,hS1⟩:=hS.takeN;replace hS:=hS1;clear hS1
   have N5:=td (cK T (x,M)) ((c,q),(step M kd n s l).1)
   have hT2:(cK (cK T (x,M)) ((c,q),(step M kd n s l).1)).map (fun z=>z.2)=eh kd n s l (Ms.take (k+1)):=by rw[xz (z:=(x,M)) w,hT,nt Q]
   have Dm:(cK (cK T (x,M)) ((c,q),(step M kd n s l).1)).length ≤2*(k+1):=by omega
   have Dn:∀z∈(cK T (x,M)),z.1 ∈bs∨(h.size ≤z.1.1 ∧h.size ≤z.1.2):=fun z t=>(lM t).elim (JO z) fun e=> .inl (by rw[e];exact List.mem_of_getElem? hx)
   have Dp:∀z∈(cK (cK T (x,M)) ((c,q),(step M kd n s l).1)),z.1 ∈bs∨(h.size ≤z.1.1 ∧h.size ≤z.1.2):=fun z t=>(lM t).elim (Dn z) fun e=> .inr (by rw[e];exact⟨F,hq1⟩)
   refine sE [(4,.slice u ((cK (cK T (x,M)) ((c,q),(step M kd n s l).1)).length) B)] fun a f=>bK<|tK<|rS f<|tA 0 k 1<|sE [(13,nV (k+1))] fun a f=> ?_
   replace j:=j.grew G (P.l 0)
   replace r:=r.y G (P.bp 1 0)
   replace d:=d.sub (l':=[u.map (·.block),some (h.size)]) (.cons_cons _ (.cons_cons _ (.slnil)))
   show ∃m',m'<_∧_
   refine⟨_,?_,(k+1),(cK (cK T (x,M)) ((c,q),(step M kd n s l).1)),V2,u,B,rfl,j,r,(by omega),hS,hT2,Dp,Dm,b,d,f.to⟩
   omega
  ·refine rS f<|tR 1 r ?_
   have rz:=my.Am b (by decide)
   obtain⟨W,hW⟩:∃W,(step M kd n s l).2 =W:=⟨_,rfl⟩
   have hWc:W.c ≠0:=hW▸w
   refine tG 2 (pQ _ c q M my kd n s l oa oc ka kn kc (hr.1.ext j) hsz (kt.ext j) AL W hW) ?_
   rintro _ V ⟨qa,qc,ia,ic,pa,pc,rfl,_,_,_,_,Dl,A⟩
   replace j:Ext h V:=Gr.dj j A (by rintro k (e|e)<;>omega)
   replace hS:=hS.upd A Dl;clear mx my;have my:=Dl;clear Dl
   replace r:=A.blk r (by omega) (by omega)
   replace b:=Gr.own A b (by rw[af];exact rz)
   replace d:=d.up A.1
   have hT2:(cK T (x,M)).map (fun z=>z.2)=eh kd n s l (Ms.take (k+1)):=by rw[AN (z:=(x,M)) w,hT,nt Q]
   replace hS:=hS.sub (S':=(cK T (x,M))++V1++(bs.zip Ms).drop (k+1)) (List.sublist_append_left ..)
   have Dm:(cK T (x,M)).length ≤2*(k+1):=by omega
   have Dn:∀z∈(cK T (x,M)),z.1 ∈bs∨(h.size ≤z.1.1 ∧h.size ≤z.1.2):=fun z t=>(lM t).elim (JO z) fun e=> .inl (by rw[e];exact List.mem_of_getElem? hx)
   have Dp:=Dn
   refine eF 4 W.c 0<|sE [(26,.bool false)] fun a f=>tK<|cF 26 f<|cN<|bK<|tK ?_
   refine rS f<|tA 0 k 1<|sE [(13,nV (k+1))] fun a f=> ?_
   replace d:=d.sub (l':=[D.map (·.block),some (h.size)]) (.cons_cons _ (.cons_cons _ (.slnil)))
   show ∃m',m'<_∧_
   refine⟨_,?_,(k+1),(cK T (x,M)),V1,D,I,rfl,j,r,(by omega),hS,hT2,Dp,Dm,b,d,f.to⟩
   omega
 ·obtain rfl:k=bs.length :=by omega
  rw[hlm,List.take_length] at hT
  have C:CS Z T:=hS.first
  have gj:Gr (fun k=>k=jb) h Z:=Ext.gr j _
  have hj2:=j.blk hj
  refine cX 0 (xT (xT (xB ?_)))
  refine tK<|qS f<|tV 4 0 [.slice ad T.length cap] [.slice ad T.length cap,.bool o1,.bool o2,.bool o3,.bool o4] hj2 fun kg H X=> ?_
  replace gj:=gj.bX H (fun i e=>by cases e;exact .inl rfl)
  replace C:=C.aO H hj2 (by decide) (by decide)
  replace b:=b.kept H (by rw[af];right;intro e;have:=(d.l 0) _ e;omega)
  replace d:=d.up H.size
  replace hj2:=X
  refine sT [] fun a f=>rS f<|tV 6 4 [.bool (decide ((16:Int)<((T.length :Nat):Int)))] [.slice ad T.length cap,.bool o1,.bool o2,.bool o3,.bool (decide ((16:Int)<((T.length :Nat):Int)))] hj2 fun h28 L X=> ?_
  replace gj:=gj.bX L (fun i e=>by cases e;exact .inl rfl)
  replace C:=C.aO L hj2 (by decide) (by decide)
  replace b:=b.kept L (by rw[af];right;intro e;have:=(d.l 0) _ e;omega)
  replace hj2:=X
  exact sE [] fun a f=>n0 f<|⟨_,_,_,JA.mkT hj2 b C hT,fun y hy=>by obtain⟨z,t,rfl⟩:=List.mem_map.1 hy;exact JO z t,gj⟩
noncomputable def b57:Code:=Tryz.f57.body.getD .skip
theorem rA(h:Heap)(jb:Nat)(bs:List (Nat×Nat))(Ms:List Md)(ca:Option Addr)(cc:Nat)(o2:Bool)(o3:Bool)(o4:Bool)(ja:JA h jb bs ⟨Ms,false,o2,o3,o4⟩ ca cc)(kd n:Int)(s:ByteArray)(l:List UInt8)(oa:Option Addr)(oc:Nat)(ka:Option Addr)(kn kc:Nat)(X:An)(xb xi xp:Value)(hk:kd=12):Sat Tryz.prog 57 #[.pointer (some ⟨jb,0,none⟩),.agg #[.int .i64 kd,.string s,.slice oa l.length oc,.int .i64 n,.slice ka kn kc],.agg (bN X.c (xb) X.sx X.se X.sh X.sg (xi) X.n X.y X.k (xp)).toArray] h fun v h'=>v=px dh (.slice none 0 0) (.slice none 0 0) (.slice none 0 0)∧JA h' jb bs ⟨Ms,false,decide (0≤n),o3,o4⟩ ca cc∧Gr (fun k=>k=jb) h h':=by
 have hj:=ja.hj
 have hbj:=ak hj
 have gj:=Gr.start (fun k=>k=jb) h
 have m:=Ext.refl h
 have b:Sep h.size h.size []:=Sep.nil _ _
 refine ag Tryz.func57 79 fun a d=>qS d<|tN 0 (pV h.size) #[.int .i64 kd,.string s,.slice oa l.length oc,.int .i64 n,.slice ka kn kc] 35 fun u r o=> ?_
 replace b:=b.nw gj.1 o
 refine tN 1 (pV u.size) ((bN X.c (xb) X.sx X.se X.sh X.sg (xi) X.n X.y X.k (xp)).toArray) 47 fun w q A=> ?_
 replace m:=m.ext r
 replace gj:=gj.ext r
 replace b:=b.nw gj.1 A
 refine tN 2 (pV w.size) ((b6 0).toArray) 47 fun B g f=> ?_
 replace m:=m.ext q
 have z:=m.size
 replace gj:=gj.ext q
 replace b:=b.nw gj.1 f
 refine sT [(4,pV h.size),(5,pV u.size),(6,pV w.size)] fun a d=>cS<|qS d ?_
 replace o:=(o.x q).x g
 refine tO 1 0 o<|sT [(10,.int .i64 kd)] fun a d=>cB 0<|qS d<|eT 0 kd 12<|sT [(12,.bool true)] fun a d=>cT 12 d ?_
 refine qS d ?_
 replace hj:=((hj.x r).x q).x g
 refine tO 3 1 hj<|sT [(18,.bool true)] fun a d=>cT 18 d<|rS d<|tO 2 3 o<|tV 6 2 [.bool (decide ((0:Int)≤n))] [.slice ca bs.length cc,.bool false,.bool (decide ((0:Int)≤n)),.bool o3,.bool o4] hj fun C j t=> ?_
 replace gj:=gj.ext g
 clear m
 replace gj:=gj.bX j (fun i e=>by cases e;exact .inl rfl)
 replace f:=f.y j
 replace b:=b.up j.size
 replace hj:=t
 refine sE [] fun a d=>bK<|tK<|qS d<|tR 0 f<|bA 1 (b6 0) f fun D p t=> ?_
 replace hj:=hj.y p
 replace f:=t
 refine sT [] fun a d=>cR<|rB f d ?_
 replace gj:=gj.bX p (fun i e=> .inr (b.low 0 rfl i e))
 exact⟨rfl,ja.turn gj hj rfl,gj⟩
theorem rH(h:Heap)(jb:Nat)(bs:List (Nat×Nat))(Ms:List Md)(ca:Option Addr)(cc:Nat)(o1:Bool)(o2:Bool)(o3:Bool)(o4:Bool)(ja:JA h jb bs ⟨Ms,o1,o2,o3,o4⟩ ca cc)(kd n:Int)(s:ByteArray)(l:List UInt8)(oa:Option Addr)(oc:Nat)(ka:Option Addr)(kn kc:Nat)(X:An)(xb xi xp:Value)(hk:kd=13):Sat Tryz.prog 57 #[.pointer (some ⟨jb,0,none⟩),.agg #[.int .i64 kd,.string s,.slice oa l.length oc,.int .i64 n,.slice ka kn kc],.agg (bN X.c (xb) X.sx X.se X.sh X.sg (xi) X.n X.y X.k (xp)).toArray] h fun v h'=>v=px dh (.slice none 0 0) (.slice none 0 0) (.slice none 0 0)∧JA h' jb bs ⟨Ms,false,false,o3,o4⟩ ca cc∧Gr (fun k=>k=jb) h h':=by
 have hj:=ja.hj
 have hbj:=ak hj
 have gj:=Gr.start (fun k=>k=jb) h
 have o:=Ext.refl h
 have b:Sep h.size h.size []:=Sep.nil _ _
 refine ag Tryz.func57 79 fun a d=>qS d<|tN 0 (pV h.size) #[.int .i64 kd,.string s,.slice oa l.length oc,.int .i64 n,.slice ka kn kc] 35 fun w u r=> ?_
 replace b:=b.nw gj.1 r
 refine tN 1 (pV w.size) ((bN X.c (xb) X.sx X.se X.sh X.sg (xi) X.n X.y X.k (xp)).toArray) 47 fun z t B=> ?_
 replace o:=o.ext u
 replace gj:=gj.ext u
 replace b:=b.nw gj.1 B
 refine tN 2 (pV z.size) ((b6 0).toArray) 47 fun C g f=> ?_
 replace o:=o.ext t
 have A:=o.size
 replace gj:=gj.ext t
 replace b:=b.nw gj.1 f
 refine sT [(4,pV h.size),(5,pV w.size),(6,pV z.size)] fun a d=>cS<|qS d ?_
 replace r:=(r.x t).x g
 refine tO 1 0 r<|sT [(10,.int .i64 kd)] fun a d=>cB 0<|qS d<|eF 0 kd 12<|sT [(12,.bool false)] fun a d=>cF 12 d ?_
 refine qS d<|eF 0 kd 10<|sT [(25,.bool false)] fun a d=>cF 25 d<|qS d<|eF 0 kd 14<|sT [(40,.bool false)] fun a d=> ?_
 refine cF 40 d<|qS d<|eT 0 kd 13<|sT [(70,.bool true)] fun a d=>cT 70 d<|rS d ?_
 replace hj:=((hj.x u).x t).x g
 refine tV 4 1 [.bool false] [.slice ca bs.length cc,.bool false,.bool o2,.bool o3,.bool o4] hj fun D j p=> ?_
 replace gj:=gj.ext g
 clear o
 replace gj:=gj.bX j (fun i e=>by cases e;exact .inl rfl)
 replace f:=f.y j
 replace b:=b.up j.size
 replace hj:=p
 refine tV 7 2 [.bool false] [.slice ca bs.length cc,.bool false,.bool false,.bool o3,.bool o4] hj fun E m p=> ?_
 replace gj:=gj.bX m (fun i e=>by cases e;exact .inl rfl)
 replace f:=f.y m
 replace b:=b.up m.size
 replace hj:=p
 refine sE [] fun a d=>bK<|tK<|qS d<|tR 0 f<|bA 1 (b6 0) f fun F q p=> ?_
 replace hj:=hj.y q
 replace f:=p
 refine sT [] fun a d=>cR<|rB f d ?_
 replace gj:=gj.bX q (fun i e=> .inr (b.low 0 rfl i e))
 exact⟨rfl,ja.turn gj hj rfl,gj⟩
theorem pT(h:Heap)(jb:Nat)(bs:List (Nat×Nat))(Ms:List Md)(ca:Option Addr)(cc:Nat)(o2:Bool)(o3:Bool)(o4:Bool)(ja:JA h jb bs ⟨Ms,true,o2,o3,o4⟩ ca cc)(kd n:Int)(s:ByteArray)(l:List UInt8)(oa:Option Addr)(oc:Nat)(ka:Option Addr)(kn kc:Nat)(X:An)(xb xi xp:Value)(hk:kd=12):Sat Tryz.prog 57 #[.pointer (some ⟨jb,0,none⟩),.agg #[.int .i64 kd,.string s,.slice oa l.length oc,.int .i64 n,.slice ka kn kc],.agg (bN X.c (xb) X.sx X.se X.sh X.sg (xi) X.n X.y X.k (xp)).toArray] h fun v h'=>v=px dh (.slice none 0 0) (.slice none 0 0) (.slice none 0 0)∧JA h' jb bs ⟨Ms,true,o2,o3,o4⟩ ca cc∧Gr (fun k=>k=jb) h h':=by
 have hj:=ja.hj
 have hbj:=ak hj
 have gj:=Gr.start (fun k=>k=jb) h
 have j:=Ext.refl h
 have b:Sep h.size h.size []:=Sep.nil _ _
 refine ag Tryz.func57 79 fun a d=>qS d<|tN 0 (pV h.size) #[.int .i64 kd,.string s,.slice oa l.length oc,.int .i64 n,.slice ka kn kc] 35 fun r q o=> ?_
 replace b:=b.nw gj.1 o
 refine tN 1 (pV r.size) ((bN X.c (xb) X.sx X.se X.sh X.sg (xi) X.n X.y X.k (xp)).toArray) 47 fun t p w=> ?_
 replace j:=j.ext q
 replace gj:=gj.ext q
 replace b:=b.nw gj.1 w
 refine tN 2 (pV t.size) ((b6 0).toArray) 47 fun z g f=> ?_
 replace j:=j.ext p
 have u:=j.size
 replace gj:=gj.ext p
 replace b:=b.nw gj.1 f
 refine sT [(4,pV h.size),(5,pV r.size),(6,pV t.size)] fun a d=>cS<|qS d ?_
 replace o:=(o.x p).x g
 refine tO 1 0 o<|sT [(10,.int .i64 kd)] fun a d=>cB 0<|qS d<|eT 0 kd 12<|sT [(12,.bool true)] fun a d=>cT 12 d ?_
 refine qS d ?_
 replace hj:=((hj.x q).x p).x g
 refine tO 3 1 hj<|sT [(18,.bool false)] fun a d=>cF 18 d<|cN<|bK<|tK<|qS d ?_
 refine tR 0 f<|bA 1 (b6 0) f fun A m B=> ?_
 replace hj:=hj.y m
 replace f:=B
 refine sT [] fun a d=>cR<|rB f d ?_
 replace gj:=(gj.ext g).bX m (fun i e=> .inr (b.low 0 rfl i e))
 exact⟨rfl,ja.turn gj hj rfl,gj⟩
set_option maxHeartbeats 1000000 in
theorem rI(h:Heap)(jb:Nat)(bs:List (Nat×Nat))(Ms:List Md)(ca:Option Addr)(cc:Nat)(o1 o2 o3 o4:Bool)(ja:JA h jb bs ⟨Ms,o1,o2,o3,o4⟩ ca cc)(kd n:Int)(s:ByteArray)(l:List UInt8)(oa:Option Addr)(oc:Nat)(ka:Option Addr)(kn kc:Nat)(hr:fS (JF jb bs) h (.slice oa l.length oc) l.length 1 (l.map bv))(hsz:s.size ≤9223372036854775807)(X:An)(xb xi xp:Value)(kt:bl h)(hE:∀M∈Ms,M.E.length ≤1099511627)(hn:bs.length ≤1099511627)(hk:kd=10):Sat Tryz.prog 57 #[.pointer (some ⟨jb,0,none⟩),.agg #[.int .i64 kd,.string s,.slice oa l.length oc,.int .i64 n,.slice ka kn kc],.agg (bN X.c (xb) X.sx X.se X.sh X.sg (xi) X.n X.y X.k (xp)).toArray] h fun v h'=>v=px dh (.slice none 0 0) (.slice none 0 0) (.slice none 0 0)∧JA h' jb bs ⟨Ms.map (fun M=>(step M kd n s l).1),o1,o2,o3,o4⟩ ca cc∧Gr (JF jb bs) h h':=by
 obtain⟨hj,row,cs0⟩:=ja
 have hj0:=hj
 have hbj:=ak hj
 have hnr:=cs0.n_ hj (by decide) (by decide)
 have g:=Ext.refl h
 have d:Sep h.size h.size []:=Sep.nil _ _
 refine ag Tryz.func57 79 fun a b=>qS b<|tN 0 (pV h.size) #[.int .i64 kd,.string s,.slice oa l.length oc,.int .i64 n,.slice ka kn kc] 35 fun B D j=> ?_
 have H:=ak j
 replace d:=d.nw g.size j
 refine tN 1 (pV B.size) ((bN X.c (xb) X.sx X.se X.sh X.sg (xi) X.n X.y X.k (xp)).toArray) 47 fun u C q=> ?_
 replace g:=g.ext D
 replace d:=d.nw g.size q
 refine tN 2 (pV u.size) ((b6 0).toArray) 47 fun w o f=> ?_
 replace g:=g.ext C
 have G:=g.size
 replace d:=d.nw g.size f
 refine sT [(4,pV h.size),(5,pV B.size),(6,pV u.size)] fun a b=>cS<|qS b ?_
 replace j:=(j.x C).x o
 refine tO 1 0 j<|sT [(10,.int .i64 kd)] fun a b=>cB 0<|qS b<|eF 0 kd 12<|sT [(12,.bool false)] fun a b=>cF 12 b ?_
 refine qS b<|eT 0 kd 10<|sT [(25,.bool true)] fun a b=>cT 25 b<|qS b ?_
 replace hj:=((hj.x D).x C).x o
 refine tO 3 0 hj<|sT [(30,.slice ca bs.length cc),(31,nV bs.length),(32,.int .i64 0)] fun a b=>cB 1 ?_
 replace g:=g.ext o
 have gj:Gr (JF jb bs) h w:=(Gr.start _ _).ext g
 have cs:CA w bs Ms:=cs0.ext g
 replace kt:=((kt.ext D).ext C).ext o
 replace q:=q.x o
 refine cL (fun m a h'=>∃k:Nat,m=bs.length - k∧(bl h')∧(h'[jb]? =some (.cells #[.slice ca bs.length cc,.bool o1,.bool o2,.bool o3,.bool o4] 77))∧(h'[h.size]? =some (.cells #[.int .i64 kd,.string s,.slice oa l.length oc,.int .i64 n,.slice ka kn kc] 35))∧(h'[B.size]? =some (.cells (bN X.c (xb) X.sx X.se X.sh X.sg (xi) X.n X.y X.k (xp)).toArray 47))∧(h'[u.size]? =some (.cells (b6 0).toArray 47))∧(k≤bs.length)∧(Gr (JF jb bs) h h')∧(CA h' bs ((Ms.take k).map (fun M=>(step M kd n s l).1)++Ms.drop k))∧(Sep h.size h'.size [some (u.size),some (B.size),some (h.size)])∧(Fr a 79 [(4,.pointer (some ⟨h.size,0,none⟩)),(6,.pointer (some ⟨u.size,0,none⟩)),(30,.slice ca bs.length cc),(31,.int .i64 ((bs.length :Nat):Int)),(32,.int .i64 ((k:Nat):Int))])) (bs.length - 0) ⟨0,rfl,kt,hj,j,q,f,(Nat.zero_le _),gj,cs,d,b.to⟩ ?_
 clear b a
 clear kt
 clear hj
 clear j
 clear q
 clear f
 clear gj
 clear cs
 clear d
 rintro m a I ⟨k,rfl,kt,hj,j,q,f,hk,gj,cs,d,b⟩
 refine qP [(33,.bool (decide (((k:Nat):Int)<((bs.length :Nat):Int))))] b fun a b=>cS<|cJ 33 b (fun z=> ?_) fun z=> ?_
 ·have hkn:k<bs.length :=by omega
  obtain⟨x,hx⟩:∃x,bs[k]? =some x:=⟨_,List.getElem?_eq_getElem hkn⟩
  obtain⟨M,A⟩:∃M,Ms[k]? =some M:=⟨_,List.getElem?_eq_getElem (by rw[←cs0.len];exact hkn)⟩
  have hxm:=List.mem_of_getElem? hx
  have F:=cs0.at_ k x M hx A
  have mk:=cs.at_ k x M hx (j4 (fun M=>(step M kd n s l).1) A)
  have hmk:=F.kb;have Gb:=F.k1
  obtain⟨hjm,hjp⟩:=F.Ak hj0 (by decide)
  have AL:=hE M (List.mem_of_getElem? A)
  have hFn:=b
  obtain⟨aa,rfl,bW⟩:=row.1.bg (by omega)
  have b:=hFn;clear hFn
  refine cN<|tK<|cS<|cB 2<|qS b<|tI 0 aa bs.length 1 k k<|tC 1 (pV x.1) (Calm.load (T:=55) (p:=(Addr.add aa k)) (by kernel_rfl) (Loads.one (k:=1) (by kernel_rfl) ((row.fr gj fun i e=>(hnr i e).2).1.cells k (lF x) (by rw[List.getElem?_map,hx];rfl)))) ?_
  refine sT [(8,pV x.1)] fun a b=>rS b<|tR 1 j<|tG 2 (pQ _ x.1 x.2 M mk kd n s l oa oc ka kn kc (hr.gr gj) hsz kt AL _ rfl) ?_
  rintro _ J ⟨_,_,_,_,_,_,rfl,_,_,_,_,hmod,r⟩
  replace cs:=cs.set hx (j4 (fun M=>(step M kd n s l).1) A) r hmod
  rw[n5 (fun M=>(step M kd n s l).1) A] at cs
  replace gj:=gj.wR r (by rintro i (e|e);exact .inl (.inr ⟨x,hxm,.inl e⟩);exact .inl (.inr ⟨x,hxm,.inr e⟩))
  replace kt:=kt.gr r (by rintro(e|e)<;>omega)
  replace hj:=r.blk hj (by omega) (by omega)
  replace j:=r.blk j (by omega) (by omega)
  replace q:=r.blk q (by omega) (by omega)
  replace f:=r.blk f (by omega) (by omega)
  replace d:=d.up r.1
  refine sE [] fun a b=>bK<|tK<|rS b<|tA 0 k 1<|sE [(32,nV (k+1))] fun a b=> ?_
  show ∃m',m'<_∧_
  refine⟨_,?_,(k+1),rfl,kt,hj,j,q,f,(by omega),gj,cs,d,b.to⟩
  omega
 ·refine cX 1 (xT (xT (xB ?_)))
  refine bK<|tK<|qS b<|tR 0 f<|bA 1 (b6 0) f fun K t L=> ?_
  replace cs:=cs.aO t f (by decide) (by decide)
  replace hj:=hj.y t
  replace f:=L
  refine sT [] fun a b=>cR<|rB f b ?_
  have hke:k=bs.length :=by omega
  rw[jy _ _ (hke.trans cs0.len)] at cs
  replace gj:=gj.bX t (fun i e=> .inr (by have:=d.low 0 rfl i e;omega))
  exact⟨rfl,⟨hj,row.fr gj fun i e=>(hnr i e).2,cs⟩,gj⟩
theorem uU(h:Heap)(jb:Nat)(bs:List (Nat×Nat))(Ms:List Md)(ca:Option Addr)(cc:Nat)(o1 o2 o3 o4:Bool)(ja:JA h jb bs ⟨Ms,o1,o2,o3,o4⟩ ca cc)(kd n:Int)(s:ByteArray)(l:List UInt8)(oa:Option Addr)(oc:Nat)(ka:Option Addr)(kn kc:Nat)(X:An)(xb xi xp:Value)(hk:kd=14)(hX:X.k ≠1):Sat Tryz.prog 57 #[.pointer (some ⟨jb,0,none⟩),.agg #[.int .i64 kd,.string s,.slice oa l.length oc,.int .i64 n,.slice ka kn kc],.agg (bN X.c (xb) X.sx X.se X.sh X.sg (xi) X.n X.y X.k (xp)).toArray] h fun v h'=>v=px dh (.slice none 0 0) (.slice none 0 0) (.slice none 0 0)∧JA h' jb bs ⟨Ms,o1,o2,o3,o4⟩ ca cc∧Ext h h':=by
 have gj:=Gr.start (fun k=>k=jb) h
 have f:=Ext.refl h
 have d:Sep h.size h.size []:=Sep.nil _ _
 refine ag Tryz.func57 79 fun a b=>qS b<|tN 0 (pV h.size) #[.int .i64 kd,.string s,.slice oa l.length oc,.int .i64 n,.slice ka kn kc] 35 fun p q i=> ?_
 replace d:=d.nw gj.1 i
 refine tN 1 (pV p.size) ((bN X.c (xb) X.sx X.se X.sh X.sg (xi) X.n X.y X.k (xp)).toArray) 47 fun r m j=> ?_
 replace f:=f.ext q
 replace gj:=gj.ext q
 replace d:=d.nw gj.1 j
 refine tN 2 (pV r.size) ((b6 0).toArray) 47 fun t g e=> ?_
 replace f:=f.ext m
 replace gj:=gj.ext m
 replace d:=d.nw gj.1 e
 refine sT [(4,pV h.size),(5,pV p.size),(6,pV r.size)] fun a b=>cS<|qS b ?_
 replace i:=(i.x m).x g
 refine tO 1 0 i<|sT [(10,.int .i64 kd)] fun a b=>cB 0<|qS b<|eF 0 kd 12<|sT [(12,.bool false)] fun a b=>cF 12 b ?_
 refine qS b<|eF 0 kd 10<|sT [(25,.bool false)] fun a b=>cF 25 b<|qS b<|eT 0 kd 14<|sT [(40,.bool true)] fun a b=> ?_
 refine cT 40 b<|qS b ?_
 replace j:=j.x g
 refine tO 1 73 j<|eF 2 X.k 1<|sT [(44,.bool false)] fun a b=>cF 44 b<|cN<|bK<|tK ?_
 refine qS b<|tR 0 e<|bA 1 (b6 0) e fun u o w=> ?_
 replace e:=w
 refine sT [] fun a b=>cR<|rB e b ?_
 replace f:=(f.ext g).grew o (d.low 0 rfl)
 exact⟨rfl,ja.ext f,f⟩
theorem rJ(h:Heap)(jb:Nat)(bs:List (Nat×Nat))(Ms:List Md)(ca:Option Addr)(cc:Nat)(o1 o2 o3 o4:Bool)(ja:JA h jb bs ⟨Ms,o1,o2,o3,o4⟩ ca cc)(kd n:Int)(s:ByteArray)(l:List UInt8)(oa:Option Addr)(oc:Nat)(ka:Option Addr)(kn kc:Nat)(X:An)(xb xi xp:Value)(hk:kd≠12∧kd≠10∧kd≠14∧kd≠13):Sat Tryz.prog 57 #[.pointer (some ⟨jb,0,none⟩),.agg #[.int .i64 kd,.string s,.slice oa l.length oc,.int .i64 n,.slice ka kn kc],.agg (bN X.c (xb) X.sx X.se X.sh X.sg (xi) X.n X.y X.k (xp)).toArray] h fun v h'=>v=px (b8 1) (.slice none 0 0) (.slice none 0 0) (.slice none 0 0)∧JA h' jb bs ⟨Ms,o1,o2,o3,o4⟩ ca cc∧Ext h h':=by
 have gj:=Gr.start (fun k=>k=jb) h
 have f:=Ext.refl h
 have d:Sep h.size h.size []:=Sep.nil _ _
 refine ag Tryz.func57 79 fun a b=>qS b<|tN 0 (pV h.size) #[.int .i64 kd,.string s,.slice oa l.length oc,.int .i64 n,.slice ka kn kc] 35 fun q r i=> ?_
 replace d:=d.nw gj.1 i
 refine tN 1 (pV q.size) ((bN X.c (xb) X.sx X.se X.sh X.sg (xi) X.n X.y X.k (xp)).toArray) 47 fun t j u=> ?_
 replace f:=f.ext r
 replace gj:=gj.ext r
 replace d:=d.nw gj.1 u
 refine tN 2 (pV t.size) ((b6 0).toArray) 47 fun w g e=> ?_
 replace f:=f.ext j
 replace gj:=gj.ext j
 replace d:=d.nw gj.1 e
 refine sT [(4,pV h.size),(5,pV q.size),(6,pV t.size)] fun a b=>cS<|qS b ?_
 replace i:=(i.x j).x g
 refine tO 1 0 i<|sT [(10,.int .i64 kd)] fun a b=>cB 0<|qS b<|eF 0 kd 12<|sT [(12,.bool false)] fun a b=>cF 12 b ?_
 refine qS b<|eF 0 kd 10<|sT [(25,.bool false)] fun a b=>cF 25 b<|qS b<|eF 0 kd 14<|sT [(40,.bool false)] fun a b=> ?_
 refine cF 40 b<|qS b<|eF 0 kd 13<|sT [(70,.bool false)] fun a b=>cF 70 b<|rS b<|tV 1 0 [.int .i64 1] (b6 1) e fun z m o=> ?_
 replace e:=o
 refine sE [] fun a b=>bK<|tK<|qS b<|tR 0 e<|bA 1 (b6 1) e fun A p o=> ?_
 replace e:=o
 refine sT [] fun a b=>cR<|rB e b ?_
 replace f:=((f.ext g).grew m (d.low 0 rfl)).grew p (d.low 0 rfl)
 exact⟨rfl,ja.ext f,f⟩
noncomputable def b31:Code:=Tryz.f31.body.getD .skip
theorem df(h:Heap)(kd n:Int)(s:ByteArray)(oa:Option Addr)(on oc:Nat)(ka:Option Addr)(kn kc:Nat)(a b:Bool)(hk:au kd=(a,b)):Sat Tryz.prog 55 #[.agg #[.int .i64 kd,.string s,.slice oa on oc,.int .i64 n,.slice ka kn kc]] h fun v h'=>v= .tuple #[.bool a,.bool b]∧Ext h h':=by
 have:=xr h kd n s oa on oc ka kn kc
 rwa [hk] at this
set_option maxHeartbeats 1000000 in
theorem xE(h:Heap)(jb:Nat)(bs:List (Nat×Nat))(Ms:List Md)(ca:Option Addr)(cc:Nat)(o2:Bool)(o3:Bool)(ja:JA h jb bs ⟨Ms,false,o2,o3,false⟩ ca cc)(kd n:Int)(s:ByteArray)(l:List UInt8)(oa:Option Addr)(oc:Nat)(ka:Option Addr)(kn kc:Nat)(X:An)(b_:Option Addr)(cd:Nat)(cf:Option Addr)(cj:Nat)(cm:Option Addr)(cn:Nat)(xq:aC h (.slice b_ X.b.length cd) X.b.length 1 (X.b.map bv))(xi:aC h (.slice cf X.i.length cj) X.i.length 1 (X.i.map Value.string))(xp:aC h (.slice cm X.p.length cn) X.p.length 32 (hcs X.p))(x32:aq X.p)(hkc:au kd=(false,false))(hk:kd=12):Sat Tryz.prog 31 #[.pointer (some ⟨jb,0,none⟩),.agg #[.int .i64 kd,.string s,.slice oa l.length oc,.int .i64 n,.slice ka kn kc],.agg (bN X.c (.slice b_ X.b.length cd) X.sx X.se X.sh X.sg (.slice cf X.i.length cj) X.n X.y X.k (.slice cm X.p.length cn)).toArray] h fun v h'=>v= .int .i64 (az dh X)∧∃bs' ca cc,JA h' jb bs' ⟨Ms,false,decide (0≤n),o3,false⟩ ca cc∧(∀z∈bs',z∈bs∨(h.size ≤z.1 ∧h.size ≤z.2))∧Gr (JF jb bs) h h':=by
 have hj:=ja.hj
 have hj0:=ja.hj
 have hbj:=ak hj
 have gj:=Gr.start (fun k=>k=jb) h
 have r:=Ext.refl h
 have d:Sep h.size h.size []:=Sep.nil _ _
 refine ag Tryz.func31 77 fun a g=>qS g<|tN 0 (pV h.size) #[.int .i64 kd,.string s,.slice oa l.length oc,.int .i64 n,.slice ka kn kc] 35 fun D E t=> ?_
 have G:=ak t
 replace d:=d.nw gj.1 t
 refine tN 1 (pV D.size) ((bN X.c (.slice b_ X.b.length cd) X.sx X.se X.sh X.sg (.slice cf X.i.length cj) X.n X.y X.k (.slice cm X.p.length cn)).toArray) 47 fun L C u=> ?_
 replace r:=r.ext E
 replace gj:=gj.ext E
 replace d:=d.nw gj.1 u
 refine sT [(4,pV h.size),(5,pV D.size)] fun a g=>qS g ?_
 replace t:=t.x C
 refine tR 0 t<|tG 1 (df _ kd n s oa l.length oc ka kn kc false false hkc) ?_
 rintro _ w ⟨rfl,m⟩
 refine sT [(7,.bool false),(8,.bool false)] fun a g=>qS g<|tN 1 (pV w.size) ((b6 0).toArray) 47 fun H o A=> ?_
 replace r:=(r.ext C).ext m
 have F:=r.size
 replace gj:=(gj.ext C).ext m
 replace d:=(d.up m.size).nw gj.1 A
 refine bA 2 (b6 2) A fun I q M=> ?_
 replace hj:=(((hj.x E).x C).x m).x o
 replace hj:=hj.y q
 refine sT [(9,pV w.size)] fun a g=>cS<|cB 0<|qS g<|tO 3 4 hj<|sT [(16,.bool false)] fun a g=>cF 16 g ?_
 refine qP [(21,.bool true)] g fun a g=>cT 21 g<|cS<|cD [0,0,0,7,0,31,63] 6 mixed g<|mP 1 [0] [pV jb] ?_
 replace t:=((t.x m).x o).y q (d.bp 2 0)
 refine mR 3 2 1 t ?_
 replace u:=((u.x m).x o).y q (d.bp 1 0)
 refine mR 7 6 2 u<|mR 23 22 4 u ?_
 replace r:=(r.ext o).grew q (d.low 0 rfl)
 refine fT 31 15 3 [4] (Does.call (f:=57) (args:= #[.pointer (some ⟨jb,0,none⟩),.agg #[.int .i64 kd,.string s,.slice oa l.length oc,.int .i64 n,.slice ka kn kc],.agg (bN X.c (.slice b_ X.b.length cd) X.sx X.se X.sh X.sg (.slice cf X.i.length cj) X.n X.y X.k (.slice cm X.p.length cn)).toArray]) (by kernel_rfl) (rA _ jb bs Ms ca cc o2 o3 false (ja.ext r) kd n s l oa oc ka kn kc X _ _ _ hk)) ?_
 rintro _ J ⟨rfl,il,gz⟩
 clear hj
 replace gj:=(gj.ext o).bX q (fun i e=> .inr (d.low 0 rfl i e))
 replace gj:=gj.trans gz
 replace u:=gz.blk u (by omega)
 replace xq:=xq.jf gj hj0 (by decide)
 replace xi:=xi.jf gj hj0 (by decide)
 replace xp:=xp.jf gj hj0 (by decide)
 refine⟨?_,?_⟩
 ·intro j hj
  simp only[List.mem_cons,List.not_mem_nil,or_false] at hj
  subst hj
  exact aG (Calm.load (T:=47) (p:=⟨D.size,0,none⟩) (by kernel_rfl) (Loads.blk (vs:=bN X.c (.slice b_ X.b.length cd) X.sx X.se X.sh X.sg (.slice cf X.i.length cj) X.n X.y X.k (.slice cm X.p.length cn)) (by kernel_rfl) u rfl))
 refine fZ 63 63 5 (bQ _ dh X none 0 none 0 none 0 (aC.nil _ _) (aC.nil _ _) (aC.nil _ _) _ _ _ _ _ _ xq xi xp aq.nil x32 (by decide) (by decide)) ?_
 rintro _ K ⟨rfl,B⟩
 refine mP 127 [6] [.int .i64 (az dh X)]<|mE [(6,.int .i64 (az dh X))] fun a g=>tK<|cR (yB (yT ?_))
 refine rT 6 (.int .i64 (az dh X)) g ?_
 replace gj:=gj.ext B
 replace il:=il.ext B
 exact⟨rfl,bs,ca,cc,il,fun x hx=> .inl hx,gj.uz bs⟩
set_option maxHeartbeats 1000000 in
theorem xF(h:Heap)(jb:Nat)(bs:List (Nat×Nat))(Ms:List Md)(ca:Option Addr)(cc:Nat)(o1:Bool)(o2:Bool)(o3:Bool)(ja:JA h jb bs ⟨Ms,o1,o2,o3,false⟩ ca cc)(kd n:Int)(s:ByteArray)(l:List UInt8)(oa:Option Addr)(oc:Nat)(ka:Option Addr)(kn kc:Nat)(X:An)(b_:Option Addr)(cd:Nat)(cf:Option Addr)(cj:Nat)(cm:Option Addr)(cn:Nat)(xq:aC h (.slice b_ X.b.length cd) X.b.length 1 (X.b.map bv))(xi:aC h (.slice cf X.i.length cj) X.i.length 1 (X.i.map Value.string))(xp:aC h (.slice cm X.p.length cn) X.p.length 32 (hcs X.p))(x32:aq X.p)(hkc:au kd=(false,false))(hk:kd=13):Sat Tryz.prog 31 #[.pointer (some ⟨jb,0,none⟩),.agg #[.int .i64 kd,.string s,.slice oa l.length oc,.int .i64 n,.slice ka kn kc],.agg (bN X.c (.slice b_ X.b.length cd) X.sx X.se X.sh X.sg (.slice cf X.i.length cj) X.n X.y X.k (.slice cm X.p.length cn)).toArray] h fun v h'=>v= .int .i64 (az dh X)∧∃bs' ca cc,JA h' jb bs' ⟨Ms,false,false,o3,false⟩ ca cc∧(∀z∈bs',z∈bs∨(h.size ≤z.1 ∧h.size ≤z.2))∧Gr (JF jb bs) h h':=by
 have hj:=ja.hj
 have hj0:=ja.hj
 have hbj:=ak hj
 have gj:=Gr.start (fun k=>k=jb) h
 have r:=Ext.refl h
 have d:Sep h.size h.size []:=Sep.nil _ _
 refine ag Tryz.func31 77 fun a g=>qS g<|tN 0 (pV h.size) #[.int .i64 kd,.string s,.slice oa l.length oc,.int .i64 n,.slice ka kn kc] 35 fun D E t=> ?_
 have G:=ak t
 replace d:=d.nw gj.1 t
 refine tN 1 (pV D.size) ((bN X.c (.slice b_ X.b.length cd) X.sx X.se X.sh X.sg (.slice cf X.i.length cj) X.n X.y X.k (.slice cm X.p.length cn)).toArray) 47 fun L C u=> ?_
 replace r:=r.ext E
 replace gj:=gj.ext E
 replace d:=d.nw gj.1 u
 refine sT [(4,pV h.size),(5,pV D.size)] fun a g=>qS g ?_
 replace t:=t.x C
 refine tR 0 t<|tG 1 (df _ kd n s oa l.length oc ka kn kc false false hkc) ?_
 rintro _ w ⟨rfl,m⟩
 refine sT [(7,.bool false),(8,.bool false)] fun a g=>qS g<|tN 1 (pV w.size) ((b6 0).toArray) 47 fun H o A=> ?_
 replace r:=(r.ext C).ext m
 have F:=r.size
 replace gj:=(gj.ext C).ext m
 replace d:=(d.up m.size).nw gj.1 A
 refine bA 2 (b6 2) A fun I q M=> ?_
 replace hj:=(((hj.x E).x C).x m).x o
 replace hj:=hj.y q
 refine sT [(9,pV w.size)] fun a g=>cS<|cB 0<|qS g<|tO 3 4 hj<|sT [(16,.bool false)] fun a g=>cF 16 g ?_
 refine qP [(21,.bool true)] g fun a g=>cT 21 g<|cS<|cD [0,0,0,7,0,31,63] 6 mixed g<|mP 1 [0] [pV jb] ?_
 replace t:=((t.x m).x o).y q (d.bp 2 0)
 refine mR 3 2 1 t ?_
 replace u:=((u.x m).x o).y q (d.bp 1 0)
 refine mR 7 6 2 u<|mR 23 22 4 u ?_
 replace r:=(r.ext o).grew q (d.low 0 rfl)
 refine fT 31 15 3 [4] (Does.call (f:=57) (args:= #[.pointer (some ⟨jb,0,none⟩),.agg #[.int .i64 kd,.string s,.slice oa l.length oc,.int .i64 n,.slice ka kn kc],.agg (bN X.c (.slice b_ X.b.length cd) X.sx X.se X.sh X.sg (.slice cf X.i.length cj) X.n X.y X.k (.slice cm X.p.length cn)).toArray]) (by kernel_rfl) (rH _ jb bs Ms ca cc o1 o2 o3 false (ja.ext r) kd n s l oa oc ka kn kc X _ _ _ hk)) ?_
 rintro _ J ⟨rfl,il,gz⟩
 clear hj
 replace gj:=(gj.ext o).bX q (fun i e=> .inr (d.low 0 rfl i e))
 replace gj:=gj.trans gz
 replace u:=gz.blk u (by omega)
 replace xq:=xq.jf gj hj0 (by decide)
 replace xi:=xi.jf gj hj0 (by decide)
 replace xp:=xp.jf gj hj0 (by decide)
 refine⟨?_,?_⟩
 ·intro j hj
  simp only[List.mem_cons,List.not_mem_nil,or_false] at hj
  subst hj
  exact aG (Calm.load (T:=47) (p:=⟨D.size,0,none⟩) (by kernel_rfl) (Loads.blk (vs:=bN X.c (.slice b_ X.b.length cd) X.sx X.se X.sh X.sg (.slice cf X.i.length cj) X.n X.y X.k (.slice cm X.p.length cn)) (by kernel_rfl) u rfl))
 refine fZ 63 63 5 (bQ _ dh X none 0 none 0 none 0 (aC.nil _ _) (aC.nil _ _) (aC.nil _ _) _ _ _ _ _ _ xq xi xp aq.nil x32 (by decide) (by decide)) ?_
 rintro _ K ⟨rfl,B⟩
 refine mP 127 [6] [.int .i64 (az dh X)]<|mE [(6,.int .i64 (az dh X))] fun a g=>tK<|cR (yB (yT ?_))
 refine rT 6 (.int .i64 (az dh X)) g ?_
 replace gj:=gj.ext B
 replace il:=il.ext B
 exact⟨rfl,bs,ca,cc,il,fun x hx=> .inl hx,gj.uz bs⟩
set_option maxHeartbeats 1000000 in
theorem uV(h:Heap)(jb:Nat)(bs:List (Nat×Nat))(Ms:List Md)(ca:Option Addr)(cc:Nat)(o2:Bool)(o3:Bool)(ja:JA h jb bs ⟨Ms,true,o2,o3,false⟩ ca cc)(kd n:Int)(s:ByteArray)(l:List UInt8)(oa:Option Addr)(oc:Nat)(ka:Option Addr)(kn kc:Nat)(X:An)(b_:Option Addr)(cd:Nat)(cf:Option Addr)(cj:Nat)(cm:Option Addr)(cn:Nat)(xq:aC h (.slice b_ X.b.length cd) X.b.length 1 (X.b.map bv))(xi:aC h (.slice cf X.i.length cj) X.i.length 1 (X.i.map Value.string))(xp:aC h (.slice cm X.p.length cn) X.p.length 32 (hcs X.p))(x32:aq X.p)(hkc:au kd=(false,false))(hk:kd=12):Sat Tryz.prog 31 #[.pointer (some ⟨jb,0,none⟩),.agg #[.int .i64 kd,.string s,.slice oa l.length oc,.int .i64 n,.slice ka kn kc],.agg (bN X.c (.slice b_ X.b.length cd) X.sx X.se X.sh X.sg (.slice cf X.i.length cj) X.n X.y X.k (.slice cm X.p.length cn)).toArray] h fun v h'=>v= .int .i64 (az dh X)∧∃bs' ca cc,JA h' jb bs' ⟨Ms,true,o2,o3,false⟩ ca cc∧(∀z∈bs',z∈bs∨(h.size ≤z.1 ∧h.size ≤z.2))∧Gr (JF jb bs) h h':=by
 have hj:=ja.hj
 have hj0:=ja.hj
 have hbj:=ak hj
 have gj:=Gr.start (fun k=>k=jb) h
 have r:=Ext.refl h
 have d:Sep h.size h.size []:=Sep.nil _ _
 refine ag Tryz.func31 77 fun a g=>qS g<|tN 0 (pV h.size) #[.int .i64 kd,.string s,.slice oa l.length oc,.int .i64 n,.slice ka kn kc] 35 fun D E t=> ?_
 have G:=ak t
 replace d:=d.nw gj.1 t
 refine tN 1 (pV D.size) ((bN X.c (.slice b_ X.b.length cd) X.sx X.se X.sh X.sg (.slice cf X.i.length cj) X.n X.y X.k (.slice cm X.p.length cn)).toArray) 47 fun L C u=> ?_
 replace r:=r.ext E
 replace gj:=gj.ext E
 replace d:=d.nw gj.1 u
 refine sT [(4,pV h.size),(5,pV D.size)] fun a g=>qS g ?_
 replace t:=t.x C
 refine tR 0 t<|tG 1 (df _ kd n s oa l.length oc ka kn kc false false hkc) ?_
 rintro _ w ⟨rfl,m⟩
 refine sT [(7,.bool false),(8,.bool false)] fun a g=>qS g<|tN 1 (pV w.size) ((b6 0).toArray) 47 fun H o A=> ?_
 replace r:=(r.ext C).ext m
 have F:=r.size
 replace gj:=(gj.ext C).ext m
 replace d:=(d.up m.size).nw gj.1 A
 refine bA 2 (b6 2) A fun I q M=> ?_
 replace hj:=(((hj.x E).x C).x m).x o
 replace hj:=hj.y q
 refine sT [(9,pV w.size)] fun a g=>cS<|cB 0<|qS g<|tO 3 4 hj<|sT [(16,.bool false)] fun a g=>cF 16 g ?_
 refine qP [(21,.bool true)] g fun a g=>cT 21 g<|cS<|cD [0,0,0,7,0,31,63] 6 mixed g<|mP 1 [0] [pV jb] ?_
 replace t:=((t.x m).x o).y q (d.bp 2 0)
 refine mR 3 2 1 t ?_
 replace u:=((u.x m).x o).y q (d.bp 1 0)
 refine mR 7 6 2 u<|mR 23 22 4 u ?_
 replace r:=(r.ext o).grew q (d.low 0 rfl)
 refine fT 31 15 3 [4] (Does.call (f:=57) (args:= #[.pointer (some ⟨jb,0,none⟩),.agg #[.int .i64 kd,.string s,.slice oa l.length oc,.int .i64 n,.slice ka kn kc],.agg (bN X.c (.slice b_ X.b.length cd) X.sx X.se X.sh X.sg (.slice cf X.i.length cj) X.n X.y X.k (.slice cm X.p.length cn)).toArray]) (by kernel_rfl) (pT _ jb bs Ms ca cc o2 o3 false (ja.ext r) kd n s l oa oc ka kn kc X _ _ _ hk)) ?_
 rintro _ J ⟨rfl,il,gz⟩
 clear hj
 replace gj:=(gj.ext o).bX q (fun i e=> .inr (d.low 0 rfl i e))
 replace gj:=gj.trans gz
 replace u:=gz.blk u (by omega)
 replace xq:=xq.jf gj hj0 (by decide)
 replace xi:=xi.jf gj hj0 (by decide)
 replace xp:=xp.jf gj hj0 (by decide)
 refine⟨?_,?_⟩
 ·intro j hj
  simp only[List.mem_cons,List.not_mem_nil,or_false] at hj
  subst hj
  exact aG (Calm.load (T:=47) (p:=⟨D.size,0,none⟩) (by kernel_rfl) (Loads.blk (vs:=bN X.c (.slice b_ X.b.length cd) X.sx X.se X.sh X.sg (.slice cf X.i.length cj) X.n X.y X.k (.slice cm X.p.length cn)) (by kernel_rfl) u rfl))
 refine fZ 63 63 5 (bQ _ dh X none 0 none 0 none 0 (aC.nil _ _) (aC.nil _ _) (aC.nil _ _) _ _ _ _ _ _ xq xi xp aq.nil x32 (by decide) (by decide)) ?_
 rintro _ K ⟨rfl,B⟩
 refine mP 127 [6] [.int .i64 (az dh X)]<|mE [(6,.int .i64 (az dh X))] fun a g=>tK<|cR (yB (yT ?_))
 refine rT 6 (.int .i64 (az dh X)) g ?_
 replace gj:=gj.ext B
 replace il:=il.ext B
 exact⟨rfl,bs,ca,cc,il,fun x hx=> .inl hx,gj.uz bs⟩
set_option maxHeartbeats 1000000 in
theorem AO(h:Heap)(jb:Nat)(bs:List (Nat×Nat))(Ms:List Md)(ca:Option Addr)(cc:Nat)(o1:Bool)(o2:Bool)(o3:Bool)(ja:JA h jb bs ⟨Ms,o1,o2,o3,false⟩ ca cc)(kd n:Int)(s:ByteArray)(l:List UInt8)(oa:Option Addr)(oc:Nat)(ka:Option Addr)(kn kc:Nat)(X:An)(b_:Option Addr)(cd:Nat)(cf:Option Addr)(cj:Nat)(cm:Option Addr)(cn:Nat)(xq:aC h (.slice b_ X.b.length cd) X.b.length 1 (X.b.map bv))(xi:aC h (.slice cf X.i.length cj) X.i.length 1 (X.i.map Value.string))(xp:aC h (.slice cm X.p.length cn) X.p.length 32 (hcs X.p))(x32:aq X.p)(hkc:au kd=(false,false))(hk:kd=14)(hX:X.k ≠1):Sat Tryz.prog 31 #[.pointer (some ⟨jb,0,none⟩),.agg #[.int .i64 kd,.string s,.slice oa l.length oc,.int .i64 n,.slice ka kn kc],.agg (bN X.c (.slice b_ X.b.length cd) X.sx X.se X.sh X.sg (.slice cf X.i.length cj) X.n X.y X.k (.slice cm X.p.length cn)).toArray] h fun v h'=>v= .int .i64 (az dh X)∧∃bs' ca cc,JA h' jb bs' ⟨Ms,o1,o2,o3,false⟩ ca cc∧(∀z∈bs',z∈bs∨(h.size ≤z.1 ∧h.size ≤z.2))∧Gr (JF jb bs) h h':=by
 have hj:=ja.hj
 have hbj:=ak hj
 have gj:=Gr.start (fun k=>k=jb) h
 have e:=Ext.refl h
 have d:Sep h.size h.size []:=Sep.nil _ _
 refine ag Tryz.func31 77 fun a g=>qS g<|tN 0 (pV h.size) #[.int .i64 kd,.string s,.slice oa l.length oc,.int .i64 n,.slice ka kn kc] 35 fun C D t=> ?_
 replace d:=d.nw gj.1 t
 refine tN 1 (pV C.size) ((bN X.c (.slice b_ X.b.length cd) X.sx X.se X.sh X.sg (.slice cf X.i.length cj) X.n X.y X.k (.slice cm X.p.length cn)).toArray) 47 fun K B r=> ?_
 replace e:=e.ext D
 replace gj:=gj.ext D
 replace d:=d.nw gj.1 r
 refine sT [(4,pV h.size),(5,pV C.size)] fun a g=>qS g ?_
 replace t:=t.x B
 refine tR 0 t<|tG 1 (df _ kd n s oa l.length oc ka kn kc false false hkc) ?_
 rintro _ w ⟨rfl,m⟩
 refine sT [(7,.bool false),(8,.bool false)] fun a g=>qS g<|tN 1 (pV w.size) ((b6 0).toArray) 47 fun G o A=> ?_
 replace e:=(e.ext B).ext m
 have F:=e.size
 replace gj:=(gj.ext B).ext m
 replace d:=(d.up m.size).nw gj.1 A
 refine bA 2 (b6 2) A fun H q L=> ?_
 replace hj:=(((hj.x D).x B).x m).x o
 replace hj:=hj.y q
 refine sT [(9,pV w.size)] fun a g=>cS<|cB 0<|qS g<|tO 3 4 hj<|sT [(16,.bool false)] fun a g=>cF 16 g ?_
 refine qP [(21,.bool true)] g fun a g=>cT 21 g<|cS<|cD [0,0,0,7,0,31,63] 6 mixed g<|mP 1 [0] [pV jb] ?_
 replace t:=((t.x m).x o).y q (d.bp 2 0)
 refine mR 3 2 1 t ?_
 replace r:=((r.x m).x o).y q (d.bp 1 0)
 refine mR 7 6 2 r<|mR 23 22 4 r ?_
 replace e:=(e.ext o).grew q (d.low 0 rfl)
 refine fT 31 15 3 [4] (Does.call (f:=57) (args:= #[.pointer (some ⟨jb,0,none⟩),.agg #[.int .i64 kd,.string s,.slice oa l.length oc,.int .i64 n,.slice ka kn kc],.agg (bN X.c (.slice b_ X.b.length cd) X.sx X.se X.sh X.sg (.slice cf X.i.length cj) X.n X.y X.k (.slice cm X.p.length cn)).toArray]) (by kernel_rfl) (uU _ jb bs Ms ca cc o1 o2 o3 false (ja.ext e) kd n s l oa oc ka kn kc X _ _ _ hk hX)) ?_
 rintro _ I ⟨rfl,_,u⟩
 replace r:=r.x u
 refine⟨?_,?_⟩
 replace hj:=hj.x u
 ·intro j hj
  simp only[List.mem_cons,List.not_mem_nil,or_false] at hj
  subst hj
  exact aG (Calm.load (T:=47) (p:=⟨C.size,0,none⟩) (by kernel_rfl) (Loads.blk (vs:=bN X.c (.slice b_ X.b.length cd) X.sx X.se X.sh X.sg (.slice cf X.i.length cj) X.n X.y X.k (.slice cm X.p.length cn)) (by kernel_rfl) r rfl))
 replace e:=e.ext u
 refine fZ 63 63 5 (bQ _ dh X none 0 none 0 none 0 (aC.nil _ _) (aC.nil _ _) (aC.nil _ _) _ _ _ _ _ _ (xq.ext e) (xi.ext e) (xp.ext e) aq.nil x32 (by decide) (by decide)) ?_
 rintro _ J ⟨rfl,E⟩
 refine mP 127 [6] [.int .i64 (az dh X)]<|mE [(6,.int .i64 (az dh X))] fun a g=>tK<|cR (yB (yT ?_))
 refine rT 6 (.int .i64 (az dh X)) g ?_
 replace e:=e.ext E
 exact⟨rfl,bs,ca,cc,ja.ext e,fun x hx=> .inl hx,(Gr.start _ _).ext e⟩
set_option maxHeartbeats 1000000 in
theorem xG(h:Heap)(jb:Nat)(bs:List (Nat×Nat))(Ms:List Md)(ca:Option Addr)(cc:Nat)(o1:Bool)(o2:Bool)(o3:Bool)(ja:JA h jb bs ⟨Ms,o1,o2,o3,false⟩ ca cc)(kd n:Int)(s:ByteArray)(l:List UInt8)(oa:Option Addr)(oc:Nat)(ka:Option Addr)(kn kc:Nat)(X:An)(b_:Option Addr)(cd:Nat)(cf:Option Addr)(cj:Nat)(cm:Option Addr)(cn:Nat)(xq:aC h (.slice b_ X.b.length cd) X.b.length 1 (X.b.map bv))(xi:aC h (.slice cf X.i.length cj) X.i.length 1 (X.i.map Value.string))(xp:aC h (.slice cm X.p.length cn) X.p.length 32 (hcs X.p))(x32:aq X.p)(hkc:au kd=(false,false))(hk:kd≠12∧kd≠10∧kd≠14∧kd≠13):Sat Tryz.prog 31 #[.pointer (some ⟨jb,0,none⟩),.agg #[.int .i64 kd,.string s,.slice oa l.length oc,.int .i64 n,.slice ka kn kc],.agg (bN X.c (.slice b_ X.b.length cd) X.sx X.se X.sh X.sg (.slice cf X.i.length cj) X.n X.y X.k (.slice cm X.p.length cn)).toArray] h fun v h'=>v= .int .i64 (az (b8 1) X)∧∃bs' ca cc,JA h' jb bs' ⟨Ms,o1,o2,o3,false⟩ ca cc∧(∀z∈bs',z∈bs∨(h.size ≤z.1 ∧h.size ≤z.2))∧Gr (JF jb bs) h h':=by
 have hj:=ja.hj
 have hbj:=ak hj
 have gj:=Gr.start (fun k=>k=jb) h
 have e:=Ext.refl h
 have d:Sep h.size h.size []:=Sep.nil _ _
 refine ag Tryz.func31 77 fun a g=>qS g<|tN 0 (pV h.size) #[.int .i64 kd,.string s,.slice oa l.length oc,.int .i64 n,.slice ka kn kc] 35 fun C D t=> ?_
 replace d:=d.nw gj.1 t
 refine tN 1 (pV C.size) ((bN X.c (.slice b_ X.b.length cd) X.sx X.se X.sh X.sg (.slice cf X.i.length cj) X.n X.y X.k (.slice cm X.p.length cn)).toArray) 47 fun K B r=> ?_
 replace e:=e.ext D
 replace gj:=gj.ext D
 replace d:=d.nw gj.1 r
 refine sT [(4,pV h.size),(5,pV C.size)] fun a g=>qS g ?_
 replace t:=t.x B
 refine tR 0 t<|tG 1 (df _ kd n s oa l.length oc ka kn kc false false hkc) ?_
 rintro _ w ⟨rfl,m⟩
 refine sT [(7,.bool false),(8,.bool false)] fun a g=>qS g<|tN 1 (pV w.size) ((b6 0).toArray) 47 fun G o A=> ?_
 replace e:=(e.ext B).ext m
 have F:=e.size
 replace gj:=(gj.ext B).ext m
 replace d:=(d.up m.size).nw gj.1 A
 refine bA 2 (b6 2) A fun H q L=> ?_
 replace hj:=(((hj.x D).x B).x m).x o
 replace hj:=hj.y q
 refine sT [(9,pV w.size)] fun a g=>cS<|cB 0<|qS g<|tO 3 4 hj<|sT [(16,.bool false)] fun a g=>cF 16 g ?_
 refine qP [(21,.bool true)] g fun a g=>cT 21 g<|cS<|cD [0,0,0,7,0,31,63] 6 mixed g<|mP 1 [0] [pV jb] ?_
 replace t:=((t.x m).x o).y q (d.bp 2 0)
 refine mR 3 2 1 t ?_
 replace r:=((r.x m).x o).y q (d.bp 1 0)
 refine mR 7 6 2 r<|mR 23 22 4 r ?_
 replace e:=(e.ext o).grew q (d.low 0 rfl)
 refine fT 31 15 3 [4] (Does.call (f:=57) (args:= #[.pointer (some ⟨jb,0,none⟩),.agg #[.int .i64 kd,.string s,.slice oa l.length oc,.int .i64 n,.slice ka kn kc],.agg (bN X.c (.slice b_ X.b.length cd) X.sx X.se X.sh X.sg (.slice cf X.i.length cj) X.n X.y X.k (.slice cm X.p.length cn)).toArray]) (by kernel_rfl) (rJ _ jb bs Ms ca cc o1 o2 o3 false (ja.ext e) kd n s l oa oc ka kn kc X _ _ _ hk)) ?_
 rintro _ I ⟨rfl,_,u⟩
 replace r:=r.x u
 refine⟨?_,?_⟩
 replace hj:=hj.x u
 ·intro j hj
  simp only[List.mem_cons,List.not_mem_nil,or_false] at hj
  subst hj
  exact aG (Calm.load (T:=47) (p:=⟨C.size,0,none⟩) (by kernel_rfl) (Loads.blk (vs:=bN X.c (.slice b_ X.b.length cd) X.sx X.se X.sh X.sg (.slice cf X.i.length cj) X.n X.y X.k (.slice cm X.p.length cn)) (by kernel_rfl) r rfl))
 replace e:=e.ext u
 refine fZ 63 63 5 (bQ _ (b8 1) X none 0 none 0 none 0 (aC.nil _ _) (aC.nil _ _) (aC.nil _ _) _ _ _ _ _ _ (xq.ext e) (xi.ext e) (xp.ext e) aq.nil x32 (by decide) (by decide)) ?_
 rintro _ J ⟨rfl,E⟩
 refine mP 127 [6] [.int .i64 (az (b8 1) X)]<|mE [(6,.int .i64 (az (b8 1) X))] fun a g=>tK<|cR (yB (yT ?_))
 refine rT 6 (.int .i64 (az (b8 1) X)) g ?_
 replace e:=e.ext E
 exact⟨rfl,bs,ca,cc,ja.ext e,fun x hx=> .inl hx,(Gr.start _ _).ext e⟩
set_option maxHeartbeats 1000000 in
theorem xH(h:Heap)(jb:Nat)(bs:List (Nat×Nat))(Ms:List Md)(ca:Option Addr)(cc:Nat)(o1:Bool)(o2:Bool)(o3:Bool)(ja:JA h jb bs ⟨Ms,o1,o2,o3,false⟩ ca cc)(kd n:Int)(s:ByteArray)(l:List UInt8)(oa:Option Addr)(oc:Nat)(ka:Option Addr)(kn kc:Nat)(hr:fS (JF jb bs) h (.slice oa l.length oc) l.length 1 (l.map bv))(hsz:s.size ≤9223372036854775807)(X:An)(b_:Option Addr)(cd:Nat)(cf:Option Addr)(cj:Nat)(cm:Option Addr)(cn:Nat)(xq:aC h (.slice b_ X.b.length cd) X.b.length 1 (X.b.map bv))(xi:aC h (.slice cf X.i.length cj) X.i.length 1 (X.i.map Value.string))(xp:aC h (.slice cm X.p.length cn) X.p.length 32 (hcs X.p))(x32:aq X.p)(hkc:au kd=(false,false))(kt:bl h)(hE:∀M∈Ms,M.E.length ≤1099511627)(hn:bs.length ≤1099511627)(hk:kd=10):Sat Tryz.prog 31 #[.pointer (some ⟨jb,0,none⟩),.agg #[.int .i64 kd,.string s,.slice oa l.length oc,.int .i64 n,.slice ka kn kc],.agg (bN X.c (.slice b_ X.b.length cd) X.sx X.se X.sh X.sg (.slice cf X.i.length cj) X.n X.y X.k (.slice cm X.p.length cn)).toArray] h fun v h'=>v= .int .i64 (az dh X)∧∃bs' ca cc,JA h' jb bs' ⟨Ms.map (fun M=>(step M kd n s l).1),o1,o2,o3,false⟩ ca cc∧(∀z∈bs',z∈bs∨(h.size ≤z.1 ∧h.size ≤z.2))∧Gr (JF jb bs) h h':=by
 have hj:=ja.hj
 have hbj:=ak hj
 have gj:=Gr.start (fun k=>k=jb) h
 have o:=Ext.refl h
 have d:Sep h.size h.size []:=Sep.nil _ _
 have hnr:=ja.cs.n_ hj (by decide) (by decide)
 refine ag Tryz.func31 77 fun a g=>qS g<|tN 0 (pV h.size) #[.int .i64 kd,.string s,.slice oa l.length oc,.int .i64 n,.slice ka kn kc] 35 fun D F r=> ?_
 have H:=ak r
 replace d:=d.nw gj.1 r
 refine tN 1 (pV D.size) ((bN X.c (.slice b_ X.b.length cd) X.sx X.se X.sh X.sg (.slice cf X.i.length cj) X.n X.y X.k (.slice cm X.p.length cn)).toArray) 47 fun O C w=> ?_
 replace o:=o.ext F
 replace gj:=gj.ext F
 replace d:=d.nw gj.1 w
 refine sT [(4,pV h.size),(5,pV D.size)] fun a g=>qS g ?_
 replace r:=r.x C
 refine tR 0 r<|tG 1 (df _ kd n s oa l.length oc ka kn kc false false hkc) ?_
 rintro _ A ⟨rfl,m⟩
 refine sT [(7,.bool false),(8,.bool false)] fun a g=>qS g<|tN 1 (pV A.size) ((b6 0).toArray) 47 fun I t q=> ?_
 replace o:=(o.ext C).ext m
 have G:=o.size
 replace gj:=(gj.ext C).ext m
 replace d:=(d.up m.size).nw gj.1 q
 refine bA 2 (b6 2) q fun J u K=> ?_
 replace hj:=(((hj.x F).x C).x m).x t
 replace hj:=hj.y u
 replace q:=K
 refine sT [(9,pV A.size)] fun a g=>cS<|cB 0<|qS g<|tO 3 4 hj<|sT [(16,.bool false)] fun a g=>cF 16 g ?_
 refine qP [(21,.bool true)] g fun a g=>cT 21 g<|cS<|cD [0,0,0,7,0,31,63] 6 mixed g<|mP 1 [0] [pV jb] ?_
 replace r:=((r.x m).x t).y u (d.bp 2 0)
 refine mR 3 2 1 r ?_
 replace w:=((w.x m).x t).y u (d.bp 1 0)
 refine mR 7 6 2 w<|mR 23 22 4 w ?_
 replace o:=(o.ext t).grew u (d.low 0 rfl)
 refine fT 31 15 3 [4] (Does.call (f:=57) (args:= #[.pointer (some ⟨jb,0,none⟩),.agg #[.int .i64 kd,.string s,.slice oa l.length oc,.int .i64 n,.slice ka kn kc],.agg (bN X.c (.slice b_ X.b.length cd) X.sx X.se X.sh X.sg (.slice cf X.i.length cj) X.n X.y X.k (.slice cm X.p.length cn)).toArray]) (by kernel_rfl) (rI _ jb bs Ms ca cc o1 o2 o3 false (ja.ext o) kd n s l oa oc ka kn kc (hr.ext o) hsz X _ _ _ (kt.ext o) hE hn hk)) ?_
 rintro _ L ⟨rfl,il,gz⟩
 have gw:=(Gr.start (JF jb bs) h).ext o |>.trans gz
 replace r:=gz.blk r (by rintro(e|⟨x,hx,e⟩);omega;have:=(ja.lt.2 x hx);omega)
 replace w:=gz.blk w (by rintro(e|⟨x,hx,e⟩);omega;have:=(ja.lt.2 x hx);omega)
 replace q:=gz.blk q (by rintro(e|⟨x,hx,e⟩);omega;have:=(ja.lt.2 x hx);omega)
 replace xq:=xq.fr gw fun i e=>(hnr i e).1
 replace xi:=xi.fr gw fun i e=>(hnr i e).1
 replace xp:=xp.fr gw fun i e=>(hnr i e).1
 refine⟨?_,?_⟩
 ·intro j hj
  simp only[List.mem_cons,List.not_mem_nil,or_false] at hj
  subst hj
  exact aG (Calm.load (T:=47) (p:=⟨D.size,0,none⟩) (by kernel_rfl) (Loads.blk (vs:=bN X.c (.slice b_ X.b.length cd) X.sx X.se X.sh X.sg (.slice cf X.i.length cj) X.n X.y X.k (.slice cm X.p.length cn)) (by kernel_rfl) w rfl))
 refine fZ 63 63 5 (bQ _ dh X none 0 none 0 none 0 (aC.nil _ _) (aC.nil _ _) (aC.nil _ _) _ _ _ _ _ _ xq xi xp aq.nil x32 (by decide) (by decide)) ?_
 rintro _ N ⟨rfl,B⟩
 refine mP 127 [6] [.int .i64 (az dh X)]<|mE [(6,.int .i64 (az dh X))] fun a g=>tK<|cR (yB (yT ?_))
 refine rT 6 (.int .i64 (az dh X)) g ?_
 replace il:=il.ext B
 replace gw:=gw.ext B
 exact⟨rfl,bs,ca,cc,il,fun x hx=> .inl hx,gw⟩
theorem xI(h:Heap)(jb:Nat)(bs:List (Nat×Nat))(Ms:List Md)(ca:Option Addr)(cc:Nat)(o1:Bool)(o2:Bool)(o3:Bool)(ja:JA h jb bs ⟨Ms,o1,o2,o3,true⟩ ca cc)(kd n:Int)(s:ByteArray)(l:List UInt8)(oa:Option Addr)(oc:Nat)(ka:Option Addr)(kn kc:Nat)(X:An)(b_:Option Addr)(cd:Nat)(cf:Option Addr)(cj:Nat)(cm:Option Addr)(cn:Nat)(cl cg:Bool)(hkc:au kd=(cl,cg)):Sat Tryz.prog 31 #[.pointer (some ⟨jb,0,none⟩),.agg #[.int .i64 kd,.string s,.slice oa l.length oc,.int .i64 n,.slice ka kn kc],.agg (bN X.c (.slice b_ X.b.length cd) X.sx X.se X.sh X.sg (.slice cf X.i.length cj) X.n X.y X.k (.slice cm X.p.length cn)).toArray] h fun v h'=>v= .int .i64 0∧∃bs' ca cc,JA h' jb bs' ⟨Ms,o1,o2,o3,true⟩ ca cc∧(∀z∈bs',z∈bs∨(h.size ≤z.1 ∧h.size ≤z.2))∧Gr (JF jb bs) h h':=by
 have hj:=ja.hj
 have hbj:=ak hj
 have gj:=Gr.start (fun k=>k=jb) h
 have f:=Ext.refl h
 have d:Sep h.size h.size []:=Sep.nil _ _
 refine ag Tryz.func31 77 fun a e=>qS e<|tN 0 (pV h.size) #[.int .i64 kd,.string s,.slice oa l.length oc,.int .i64 n,.slice ka kn kc] 35 fun w u r=> ?_
 replace d:=d.nw gj.1 r
 refine tN 1 (pV w.size) ((bN X.c (.slice b_ X.b.length cd) X.sx X.se X.sh X.sg (.slice cf X.i.length cj) X.n X.y X.k (.slice cm X.p.length cn)).toArray) 47 fun E t B=> ?_
 replace f:=f.ext u
 replace gj:=gj.ext u
 replace d:=d.nw gj.1 B
 refine sT [(4,pV h.size),(5,pV w.size)] fun a e=>qS e ?_
 replace r:=r.x t
 refine tR 0 r<|tG 1 (df _ kd n s oa l.length oc ka kn kc cl cg hkc) ?_
 rintro _ j ⟨rfl,g⟩
 refine sT [(7,.bool cl),(8,.bool cg)] fun a e=>qS e<|tN 1 (pV j.size) ((b6 0).toArray) 47 fun C m o=> ?_
 replace f:=(f.ext t).ext g
 have A:=f.size
 replace gj:=(gj.ext t).ext g
 replace d:=(d.up g.size).nw gj.1 o
 refine bA 2 (b6 2) o fun D q F=> ?_
 replace hj:=(((hj.x u).x t).x g).x m
 replace hj:=hj.y q
 refine sT [(9,pV j.size)] fun a e=>cS<|cB 0<|qS e<|tO 3 4 hj<|sT [(16,.bool true)] fun a e=>cT 16 e ?_
 refine qP [(6,.int .i64 0)] e fun a e=>cR (yB (yT ?_))
 refine rT 6 (.int .i64 0) e ?_
 replace f:=(f.ext m).grew q (d.low 0 rfl)
 exact⟨rfl,bs,ca,cc,ja.ext f,fun x hx=> .inl hx,(Gr.start _ _).ext f⟩
set_option maxHeartbeats 1000000 in
theorem AP(h:Heap)(jb:Nat)(bs:List (Nat×Nat))(Ms:List Md)(ca:Option Addr)(cc:Nat)(o2:Bool)(o3:Bool)(ja:JA h jb bs ⟨Ms,true,o2,o3,false⟩ ca cc)(kd n:Int)(s:ByteArray)(l:List UInt8)(oa:Option Addr)(oc:Nat)(ka:Option Addr)(kn kc:Nat)(X:An)(b_:Option Addr)(cd:Nat)(cf:Option Addr)(cj:Nat)(cm:Option Addr)(cn:Nat)(xq:aC h (.slice b_ X.b.length cd) X.b.length 1 (X.b.map bv))(xi:aC h (.slice cf X.i.length cj) X.i.length 1 (X.i.map Value.string))(xp:aC h (.slice cm X.p.length cn) X.p.length 32 (hcs X.p))(x32:aq X.p)(cg:Bool)(hkc:au kd=(true,cg)):Sat Tryz.prog 31 #[.pointer (some ⟨jb,0,none⟩),.agg #[.int .i64 kd,.string s,.slice oa l.length oc,.int .i64 n,.slice ka kn kc],.agg (bN X.c (.slice b_ X.b.length cd) X.sx X.se X.sh X.sg (.slice cf X.i.length cj) X.n X.y X.k (.slice cm X.p.length cn)).toArray] h fun v h'=>v= .int .i64 (az (b8 2) X)∧∃bs' ca cc,JA h' jb bs' ⟨Ms,true,o2,o3,false⟩ ca cc∧(∀z∈bs',z∈bs∨(h.size ≤z.1 ∧h.size ≤z.2))∧Gr (JF jb bs) h h':=by
 have hj:=ja.hj
 have hbj:=ak hj
 have gj:=Gr.start (fun k=>k=jb) h
 have f:=Ext.refl h
 have e:Sep h.size h.size []:=Sep.nil _ _
 refine ag Tryz.func31 77 fun a d=>qS d<|tN 0 (pV h.size) #[.int .i64 kd,.string s,.slice oa l.length oc,.int .i64 n,.slice ka kn kc] 35 fun B w r=> ?_
 replace e:=e.nw gj.1 r
 refine tN 1 (pV B.size) ((bN X.c (.slice b_ X.b.length cd) X.sx X.se X.sh X.sg (.slice cf X.i.length cj) X.n X.y X.k (.slice cm X.p.length cn)).toArray) 47 fun H t u=> ?_
 replace f:=f.ext w
 replace gj:=gj.ext w
 replace e:=e.nw gj.1 u
 refine sT [(4,pV h.size),(5,pV B.size)] fun a d=>qS d ?_
 replace r:=r.x t
 refine tR 0 r<|tG 1 (df _ kd n s oa l.length oc ka kn kc true cg hkc) ?_
 rintro _ q ⟨rfl,g⟩
 refine sT [(7,.bool true),(8,.bool cg)] fun a d=>qS d<|tN 1 (pV q.size) ((b6 0).toArray) 47 fun D m j=> ?_
 replace f:=(f.ext t).ext g
 have C:=f.size
 replace gj:=(gj.ext t).ext g
 replace e:=(e.up g.size).nw gj.1 j
 refine bA 2 (b6 2) j fun E o F=> ?_
 replace hj:=(((hj.x w).x t).x g).x m
 replace hj:=hj.y o
 replace j:=F
 refine sT [(9,pV q.size)] fun a d=>cS<|cB 0<|qS d<|tO 3 4 hj<|sT [(16,.bool false)] fun a d=>cF 16 d ?_
 refine qP [(21,.bool false)] d fun a d=>cF 21 d<|qS d<|tO 3 1 hj<|sT [(30,.bool true)] fun a d=>cT 30 d<|qS d ?_
 refine tR 0 j ?_
 replace u:=((u.x g).x m).y o (e.bp 1 0)
 refine tR 1 u ?_
 replace f:=(f.ext m).grew o (e.low 0 rfl)
 refine tG 2 (bQ _ (b8 2) X none 0 none 0 none 0 (aC.nil _ _) (aC.nil _ _) (aC.nil _ _) _ _ _ _ _ _ (xq.ext f) (xi.ext f) (xp.ext f) aq.nil x32 (by decide) (by decide)) ?_
 rintro _ G ⟨rfl,A⟩
 refine sT [(6,.int .i64 (az (b8 2) X))] fun a d=>cR (yB (yT ?_))
 refine rT 6 (.int .i64 (az (b8 2) X)) d ?_
 replace f:=f.ext A
 exact⟨rfl,bs,ca,cc,ja.ext f,fun x hx=> .inl hx,(Gr.start _ _).ext f⟩
set_option maxHeartbeats 1000000 in
theorem xJ(h:Heap)(jb:Nat)(bs:List (Nat×Nat))(Ms:List Md)(ca:Option Addr)(cc:Nat) (ja:JA h jb bs ⟨Ms,false,true,false,false⟩ ca cc)(kd n:Int)(s:ByteArray)(l:List UInt8)(oa:Option Addr)(oc:Nat)(ka:Option Addr)(kn kc:Nat)(X:An)(b_:Option Addr)(cd:Nat)(cf:Option Addr)(cj:Nat)(cm:Option Addr)(cn:Nat)(xq:aC h (.slice b_ X.b.length cd) X.b.length 1 (X.b.map bv))(xi:aC h (.slice cf X.i.length cj) X.i.length 1 (X.i.map Value.string))(xp:aC h (.slice cm X.p.length cn) X.p.length 32 (hcs X.p))(x32:aq X.p)(hkc:au kd=(true,false))(hX:X.c =2):Sat Tryz.prog 31 #[.pointer (some ⟨jb,0,none⟩),.agg #[.int .i64 kd,.string s,.slice oa l.length oc,.int .i64 n,.slice ka kn kc],.agg (bN X.c (.slice b_ X.b.length cd) X.sx X.se X.sh X.sg (.slice cf X.i.length cj) X.n X.y X.k (.slice cm X.p.length cn)).toArray] h fun v h'=>v= .int .i64 (az (b8 2) X)∧∃bs' ca cc,JA h' jb bs' ⟨Ms,true,true,false,false⟩ ca cc∧(∀z∈bs',z∈bs∨(h.size ≤z.1 ∧h.size ≤z.2))∧Gr (JF jb bs) h h':=by
 have hj:=ja.hj
 have hj0:=ja.hj
 have hbj:=ak hj
 have gj:=Gr.start (fun k=>k=jb) h
 have t:=Ext.refl h
 have f:Sep h.size h.size []:=Sep.nil _ _
 refine ag Tryz.func31 77 fun a d=>qS d<|tN 0 (pV h.size) #[.int .i64 kd,.string s,.slice oa l.length oc,.int .i64 n,.slice ka kn kc] 35 fun E C u=> ?_
 have G:=ak u
 replace f:=f.nw gj.1 u
 refine tN 1 (pV E.size) ((bN X.c (.slice b_ X.b.length cd) X.sx X.se X.sh X.sg (.slice cf X.i.length cj) X.n X.y X.k (.slice cm X.p.length cn)).toArray) 47 fun L B m=> ?_
 replace t:=t.ext C
 replace gj:=gj.ext C
 replace f:=f.nw gj.1 m
 refine sT [(4,pV h.size),(5,pV E.size)] fun a d=>qS d ?_
 replace u:=u.x B
 refine tR 0 u<|tG 1 (df _ kd n s oa l.length oc ka kn kc true false hkc) ?_
 rintro _ w ⟨rfl,j⟩
 refine sT [(7,.bool true),(8,.bool false)] fun a d=>qS d<|tN 1 (pV w.size) ((b6 0).toArray) 47 fun H o g=> ?_
 replace t:=(t.ext B).ext j
 have F:=t.size
 replace gj:=(gj.ext B).ext j
 replace f:=(f.up j.size).nw gj.1 g
 refine bA 2 (b6 2) g fun I q D=> ?_
 replace hj:=(((hj.x C).x B).x j).x o
 replace hj:=hj.y q
 replace g:=D
 refine sT [(9,pV w.size)] fun a d=>cS<|cB 0<|qS d<|tO 3 4 hj<|sT [(16,.bool false)] fun a d=>cF 16 d ?_
 refine qP [(21,.bool false)] d fun a d=>cF 21 d<|qS d<|tO 3 1 hj<|sT [(30,.bool false)] fun a d=>cF 30 d<|qS d ?_
 replace m:=((m.x j).x o).y q (f.bp 1 0)
 refine tO 1 0 m<|eT 2 X.c 2<|tO 7 2 hj<|sT [(38,.bool true)] fun a d=>cT 38 d<|qS d<|tV 3 1 [.bool true] [.slice ca bs.length cc,.bool true,.bool true,.bool false,.bool false] hj fun J r D=> ?_
 replace gj:=(gj.ext o).bX q (fun i e=> .inr (f.low 0 rfl i e))
 clear t
 replace gj:=gj.bX r (fun i e=>by cases e;exact .inl rfl)
 replace m:=m.y r
 replace g:=g.y r
 replace hj:=D
 refine sT [] fun a d=>cS<|qP [(51,.bool false)] d fun a d=>cF 51 d<|cN<|tK<|qS d ?_
 refine tR 0 g<|tR 1 m<|tG 2 (bQ _ (b8 2) X none 0 none 0 none 0 (aC.nil _ _) (aC.nil _ _) (aC.nil _ _) _ _ _ _ _ _ (xq.jf gj hj0 (by decide)) (xi.jf gj hj0 (by decide)) (xp.jf gj hj0 (by decide)) aq.nil x32 (by decide) (by decide)) ?_
 rintro _ K ⟨rfl,A⟩
 refine sT [(6,.int .i64 (az (b8 2) X))] fun a d=>cR (yB (yT ?_))
 refine rT 6 (.int .i64 (az (b8 2) X)) d ?_
 replace gj:=gj.ext A
 replace hj:=hj.x A
 exact⟨rfl,bs,ca,cc,ja.turn gj hj rfl,fun x hx=> .inl hx,gj.uz bs⟩
set_option maxHeartbeats 1000000 in
theorem uW(h:Heap)(jb:Nat)(bs:List (Nat×Nat))(Ms:List Md)(ca:Option Addr)(cc:Nat) (ja:JA h jb bs ⟨Ms,false,true,false,false⟩ ca cc)(kd n:Int)(s:ByteArray)(l:List UInt8)(oa:Option Addr)(oc:Nat)(ka:Option Addr)(kn kc:Nat)(hr:fS (JF jb bs) h (.slice oa l.length oc) l.length 1 (l.map bv))(hsz:s.size ≤9223372036854775807)(X:An)(b_:Option Addr)(cd:Nat)(cf:Option Addr)(cj:Nat)(cm:Option Addr)(cn:Nat)(xq:aC h (.slice b_ X.b.length cd) X.b.length 1 (X.b.map bv))(xi:aC h (.slice cf X.i.length cj) X.i.length 1 (X.i.map Value.string))(xp:aC h (.slice cm X.p.length cn) X.p.length 32 (hcs X.p))(x32:aq X.p)(hkc:au kd=(true,true))(hX:X.c =2)(kt:bl h)(hk1:0<jb)(hE:∀M∈Ms,M.E.length ≤1099511627)(hn:bs.length ≤109951162):Sat Tryz.prog 31 #[.pointer (some ⟨jb,0,none⟩),.agg #[.int .i64 kd,.string s,.slice oa l.length oc,.int .i64 n,.slice ka kn kc],.agg (bN X.c (.slice b_ X.b.length cd) X.sx X.se X.sh X.sg (.slice cf X.i.length cj) X.n X.y X.k (.slice cm X.p.length cn)).toArray] h fun v h'=>v= .int .i64 (az (b8 2) X)∧∃bs' ca cc,JA h' jb bs' ⟨eh kd n s l Ms,true,true,false,decide (16<(eh kd n s l Ms).length)⟩ ca cc∧(∀z∈bs',z∈bs∨(h.size ≤z.1 ∧h.size ≤z.2))∧Gr (JF jb bs) h h':=by
 have hj:=ja.hj
 have hj0:=ja.hj
 have hbj:=ak hj
 have gj:=Gr.start (fun k=>k=jb) h
 have u:=Ext.refl h
 have f:Sep h.size h.size []:=Sep.nil _ _
 refine ag Tryz.func31 77 fun a d=>qS d<|tN 0 (pV h.size) #[.int .i64 kd,.string s,.slice oa l.length oc,.int .i64 n,.slice ka kn kc] 35 fun G C m=> ?_
 have I:=ak m
 replace f:=f.nw gj.1 m
 refine tN 1 (pV G.size) ((bN X.c (.slice b_ X.b.length cd) X.sx X.se X.sh X.sg (.slice cf X.i.length cj) X.n X.y X.k (.slice cm X.p.length cn)).toArray) 47 fun P B o=> ?_
 replace u:=u.ext C
 replace gj:=gj.ext C
 replace f:=f.nw gj.1 o
 refine sT [(4,pV h.size),(5,pV G.size)] fun a d=>qS d ?_
 replace m:=m.x B
 refine tR 0 m<|tG 1 (df _ kd n s oa l.length oc ka kn kc true true hkc) ?_
 rintro _ w ⟨rfl,j⟩
 refine sT [(7,.bool true),(8,.bool true)] fun a d=>qS d<|tN 1 (pV w.size) ((b6 0).toArray) 47 fun J q g=> ?_
 replace u:=(u.ext B).ext j
 have H:=u.size
 replace gj:=(gj.ext B).ext j
 replace f:=(f.up j.size).nw gj.1 g
 refine bA 2 (b6 2) g fun K r D=> ?_
 replace hj:=(((hj.x C).x B).x j).x q
 replace hj:=hj.y r
 replace g:=D
 refine sT [(9,pV w.size)] fun a d=>cS<|cB 0<|qS d<|tO 3 4 hj<|sT [(16,.bool false)] fun a d=>cF 16 d ?_
 refine qP [(21,.bool false)] d fun a d=>cF 21 d<|qS d<|tO 3 1 hj<|sT [(30,.bool false)] fun a d=>cF 30 d<|qS d ?_
 replace o:=((o.x j).x q).y r (f.bp 1 0)
 refine tO 1 0 o<|eT 2 X.c 2<|tO 7 2 hj<|sT [(38,.bool true)] fun a d=>cT 38 d<|qS d<|tV 3 1 [.bool true] [.slice ca bs.length cc,.bool true,.bool true,.bool false,.bool false] hj fun F t D=> ?_
 replace m:=((m.x j).x q).y r (f.bp 2 0)
 replace gj:=(gj.ext q).bX r (fun i e=> .inr (f.low 0 rfl i e))
 clear u
 replace gj:=gj.bX t (fun i e=>by cases e;exact .inl rfl)
 replace m:=m.y t
 replace o:=o.y t
 replace g:=g.y t
 replace hj:=D
 refine sT [] fun a d=>cS<|qP [(51,.bool true)] d fun a d=>cT 51 d<|rS d<|tR 1 m ?_
 have jz:JA F jb bs ⟨Ms,true,true,false,false⟩ ca cc:=ja.turn gj hj rfl
 have hrz:=hr.jf gj
 have N6:=kt.gr gj (by omega)
 refine tG 2 (xC _ jb bs Ms true true false false ca cc jz kd n s l oa oc ka kn kc hrz hsz N6 hE hn) ?_
 rintro _ L ⟨pU,ca2,qk,il,hsub,gz⟩
 have hgs:=gj.1
 clear hj
 replace gj:=gj.trans gz
 replace o:=gz.blk o (by omega)
 replace g:=gz.blk g (by omega)
 replace xq:=xq.jf gj hj0 (by decide)
 replace xi:=xi.jf gj hj0 (by decide)
 replace xp:=xp.jf gj hj0 (by decide)
 refine sE [] fun a d=>tK<|qS d<|tR 0 g<|tR 1 o<|tG 2 (bQ _ (b8 2) X none 0 none 0 none 0 (aC.nil _ _) (aC.nil _ _) (aC.nil _ _) _ _ _ _ _ _ xq xi xp aq.nil x32 (by decide) (by decide)) ?_
 rintro _ N ⟨rfl,A⟩
 refine sT [(6,.int .i64 (az (b8 2) X))] fun a d=>cR (yB (yT ?_))
 refine rT 6 (.int .i64 (az (b8 2) X)) d ?_
 replace gj:=gj.ext A
 replace il:=il.ext A
 exact⟨rfl,pU,ca2,qk,il,fun z O=>(hsub z O).imp id fun e=>⟨Nat.le_trans hgs e.1,Nat.le_trans hgs e.2⟩,gj.uz bs⟩
set_option maxHeartbeats 1000000 in
theorem uX(h:Heap)(jb:Nat)(bs:List (Nat×Nat))(Ms:List Md)(ca:Option Addr)(cc:Nat)(o2:Bool)(ja:JA h jb bs ⟨Ms,false,o2,false,false⟩ ca cc)(kd n:Int)(s:ByteArray)(l:List UInt8)(oa:Option Addr)(oc:Nat)(ka:Option Addr)(kn kc:Nat)(hr:fS (JF jb bs) h (.slice oa l.length oc) l.length 1 (l.map bv))(hsz:s.size ≤9223372036854775807)(X:An)(b_:Option Addr)(cd:Nat)(cf:Option Addr)(cj:Nat)(cm:Option Addr)(cn:Nat)(xq:aC h (.slice b_ X.b.length cd) X.b.length 1 (X.b.map bv))(xi:aC h (.slice cf X.i.length cj) X.i.length 1 (X.i.map Value.string))(xp:aC h (.slice cm X.p.length cn) X.p.length 32 (hcs X.p))(x32:aq X.p)(hkc:au kd=(true,true))(hb:X.c =2→o2=false)(N7:X.c ≠3)(kt:bl h)(hE:∀M∈Ms,M.E.length ≤1099511627)(hn:bs.length ≤1099511627):Sat Tryz.prog 31 #[.pointer (some ⟨jb,0,none⟩),.agg #[.int .i64 kd,.string s,.slice oa l.length oc,.int .i64 n,.slice ka kn kc],.agg (bN X.c (.slice b_ X.b.length cd) X.sx X.se X.sh X.sg (.slice cf X.i.length cj) X.n X.y X.k (.slice cm X.p.length cn)).toArray] h fun v h'=>v= .int .i64 (bx ⟨Ms,false,o2,false,false⟩ (bw kd n s l X)).2 ∧∃bs' ca cc,JA h' jb bs' (bx ⟨Ms,false,o2,false,false⟩ (bw kd n s l X)).1 ca cc∧(∀z∈bs',z∈bs∨(h.size ≤z.1 ∧h.size ≤z.2))∧Gr (JF jb bs) h h':=by
 have hj:=ja.hj
 have hj0:=ja.hj
 have hbj:=ak hj
 have gj:=Gr.start (fun k=>k=jb) h
 have f:=Ext.refl h
 have e:Sep h.size h.size []:=Sep.nil _ _
 refine ag Tryz.func31 77 fun a d=>qS d<|tN 0 (pV h.size) #[.int .i64 kd,.string s,.slice oa l.length oc,.int .i64 n,.slice ka kn kc] 35 fun A w q=> ?_
 replace e:=e.nw gj.1 q
 refine tN 1 (pV A.size) ((bN X.c (.slice b_ X.b.length cd) X.sx X.se X.sh X.sg (.slice cf X.i.length cj) X.n X.y X.k (.slice cm X.p.length cn)).toArray) 47 fun H u o=> ?_
 replace f:=f.ext w
 replace gj:=gj.ext w
 replace e:=e.nw gj.1 o
 refine sT [(4,pV h.size),(5,pV A.size)] fun a d=>qS d ?_
 replace q:=q.x u
 refine tR 0 q<|tG 1 (df _ kd n s oa l.length oc ka kn kc true true hkc) ?_
 rintro _ r ⟨rfl,g⟩
 refine sT [(7,.bool true),(8,.bool true)] fun a d=>qS d<|tN 1 (pV r.size) ((b6 0).toArray) 47 fun C j t=> ?_
 replace f:=(f.ext u).ext g
 have B:=f.size
 replace gj:=(gj.ext u).ext g
 replace e:=(e.up g.size).nw gj.1 t
 refine bA 2 (b6 2) t fun D m I=> ?_
 replace hj:=(((hj.x w).x u).x g).x j
 replace hj:=hj.y m
 refine sT [(9,pV r.size)] fun a d=>cS<|cB 0<|qS d<|tO 3 4 hj<|sT [(16,.bool false)] fun a d=>cF 16 d ?_
 refine qP [(21,.bool false)] d fun a d=>cF 21 d<|qS d<|tO 3 1 hj<|sT [(30,.bool false)] fun a d=>cF 30 d<|cS ?_
 rcases Int.decEq X.c 2 with hX2|hX2
 ·refine rS d ?_
  replace o:=((o.x g).x j).y m (e.bp 1 0)
  refine tO 1 0 o<|eF 2 X.c 2<|sE [(38,.bool false)] fun a d=>tK<|cF 38 d<|qS d<|tO 3 0 o ?_
  refine eF 4 X.c 3<|sT [(58,.bool false)] fun a d=>cF 58 d<|cN<|bK<|tK<|qS d ?_
  replace q:=((q.x g).x j).y m (e.bp 2 0)
  refine tR 1 q<|tR 2 o ?_
  replace f:=(f.ext j).grew m (e.low 0 rfl)
  refine tG 5 (jI _ jb bs Ms false o2 false ca cc (ja.ext f) kd n s l oa oc ka kn kc (hr.ext f) hsz X b_ cd cf cj cm cn (xq.ext f) (xi.ext f) (xp.ext f) x32 (kt.ext f) hE hn) ?_
  rintro _ F ⟨rfl,pU,ca2,qk,il,hsub,gz⟩
  have gw:=(Gr.start (JF jb bs) h).ext f |>.trans gz
  exact sT [(6,.int .i64 ((bx ⟨Ms,false,o2,false,false⟩ (bw kd n s l X)).2))] fun a d=>cR<|rT 6 (.int .i64 ((bx ⟨Ms,false,o2,false,false⟩ (bw kd n s l X)).2)) d<|⟨rfl,pU,ca2,qk,il,fun x hx=> .inl (hsub x hx),gw⟩
 ·obtain rfl:o2=false:=hb hX2
  refine rS d ?_
  replace o:=((o.x g).x j).y m (e.bp 1 0)
  refine tO 1 0 o<|eT 2 X.c 2<|tO 7 2 hj<|sE [(38,.bool false)] fun a d=>tK<|cF 38 d<|qS d ?_
  refine tO 3 0 o<|eF 4 X.c 3<|sT [(58,.bool false)] fun a d=>cF 58 d<|cN<|bK<|tK ?_
  refine qS d ?_
  replace q:=((q.x g).x j).y m (e.bp 2 0)
  refine tR 1 q<|tR 2 o ?_
  replace f:=(f.ext j).grew m (e.low 0 rfl)
  refine tG 5 (jI _ jb bs Ms false false false ca cc (ja.ext f) kd n s l oa oc ka kn kc (hr.ext f) hsz X b_ cd cf cj cm cn (xq.ext f) (xi.ext f) (xp.ext f) x32 (kt.ext f) hE hn) ?_
  rintro _ G ⟨rfl,pU,ca2,qk,il,hsub,gz⟩
  have gw:=(Gr.start (JF jb bs) h).ext f |>.trans gz
  exact sT [(6,.int .i64 ((bx ⟨Ms,false,false,false,false⟩ (bw kd n s l X)).2))] fun a d=>cR<|rT 6 (.int .i64 ((bx ⟨Ms,false,false,false,false⟩ (bw kd n s l X)).2)) d<|⟨rfl,pU,ca2,qk,il,fun x hx=> .inl (hsub x hx),gw⟩
set_option maxHeartbeats 1000000 in
theorem uY(h:Heap)(jb:Nat)(bs:List (Nat×Nat))(Ms:List Md)(ca:Option Addr)(cc:Nat)(o2:Bool)(ja:JA h jb bs ⟨Ms,false,o2,false,false⟩ ca cc)(kd n:Int)(s:ByteArray)(l:List UInt8)(oa:Option Addr)(oc:Nat)(ka:Option Addr)(kn kc:Nat)(hr:fS (JF jb bs) h (.slice oa l.length oc) l.length 1 (l.map bv))(hsz:s.size ≤9223372036854775807)(X:An)(b_:Option Addr)(cd:Nat)(cf:Option Addr)(cj:Nat)(cm:Option Addr)(cn:Nat)(xq:aC h (.slice b_ X.b.length cd) X.b.length 1 (X.b.map bv))(xi:aC h (.slice cf X.i.length cj) X.i.length 1 (X.i.map Value.string))(xp:aC h (.slice cm X.p.length cn) X.p.length 32 (hcs X.p))(x32:aq X.p)(hkc:au kd=(true,false))(hb:X.c =2→o2=false)(kt:bl h)(hE:∀M∈Ms,M.E.length ≤1099511627)(hn:bs.length ≤1099511627):Sat Tryz.prog 31 #[.pointer (some ⟨jb,0,none⟩),.agg #[.int .i64 kd,.string s,.slice oa l.length oc,.int .i64 n,.slice ka kn kc],.agg (bN X.c (.slice b_ X.b.length cd) X.sx X.se X.sh X.sg (.slice cf X.i.length cj) X.n X.y X.k (.slice cm X.p.length cn)).toArray] h fun v h'=>v= .int .i64 (bx ⟨Ms,false,o2,false,false⟩ (bw kd n s l X)).2 ∧∃bs' ca cc,JA h' jb bs' (bx ⟨Ms,false,o2,false,false⟩ (bw kd n s l X)).1 ca cc∧(∀z∈bs',z∈bs∨(h.size ≤z.1 ∧h.size ≤z.2))∧Gr (JF jb bs) h h':=by
 have hj:=ja.hj
 have hj0:=ja.hj
 have hbj:=ak hj
 have gj:=Gr.start (fun k=>k=jb) h
 have f:=Ext.refl h
 have e:Sep h.size h.size []:=Sep.nil _ _
 refine ag Tryz.func31 77 fun a d=>qS d<|tN 0 (pV h.size) #[.int .i64 kd,.string s,.slice oa l.length oc,.int .i64 n,.slice ka kn kc] 35 fun A w o=> ?_
 replace e:=e.nw gj.1 o
 refine tN 1 (pV A.size) ((bN X.c (.slice b_ X.b.length cd) X.sx X.se X.sh X.sg (.slice cf X.i.length cj) X.n X.y X.k (.slice cm X.p.length cn)).toArray) 47 fun H u q=> ?_
 replace f:=f.ext w
 replace gj:=gj.ext w
 replace e:=e.nw gj.1 q
 refine sT [(4,pV h.size),(5,pV A.size)] fun a d=>qS d ?_
 replace o:=o.x u
 refine tR 0 o<|tG 1 (df _ kd n s oa l.length oc ka kn kc true false hkc) ?_
 rintro _ r ⟨rfl,g⟩
 refine sT [(7,.bool true),(8,.bool false)] fun a d=>qS d<|tN 1 (pV r.size) ((b6 0).toArray) 47 fun C j t=> ?_
 replace f:=(f.ext u).ext g
 have B:=f.size
 replace gj:=(gj.ext u).ext g
 replace e:=(e.up g.size).nw gj.1 t
 refine bA 2 (b6 2) t fun D m I=> ?_
 replace hj:=(((hj.x w).x u).x g).x j
 replace hj:=hj.y m
 refine sT [(9,pV r.size)] fun a d=>cS<|cB 0<|qS d<|tO 3 4 hj<|sT [(16,.bool false)] fun a d=>cF 16 d ?_
 refine qP [(21,.bool false)] d fun a d=>cF 21 d<|qS d<|tO 3 1 hj<|sT [(30,.bool false)] fun a d=>cF 30 d<|cS ?_
 rcases Int.decEq X.c 2 with hX2|hX2
 ·refine rS d ?_
  replace q:=((q.x g).x j).y m (e.bp 1 0)
  refine tO 1 0 q<|eF 2 X.c 2<|sE [(38,.bool false)] fun a d=>tK<|cF 38 d<|qP [(58,.bool false)] d fun a d=>cF 58 d ?_
  refine cN<|bK<|tK<|qS d ?_
  replace o:=((o.x g).x j).y m (e.bp 2 0)
  refine tR 1 o<|tR 2 q ?_
  replace f:=(f.ext j).grew m (e.low 0 rfl)
  refine tG 5 (jI _ jb bs Ms false o2 false ca cc (ja.ext f) kd n s l oa oc ka kn kc (hr.ext f) hsz X b_ cd cf cj cm cn (xq.ext f) (xi.ext f) (xp.ext f) x32 (kt.ext f) hE hn) ?_
  rintro _ F ⟨rfl,pU,ca2,qk,il,hsub,gz⟩
  have gw:=(Gr.start (JF jb bs) h).ext f |>.trans gz
  exact sT [(6,.int .i64 ((bx ⟨Ms,false,o2,false,false⟩ (bw kd n s l X)).2))] fun a d=>cR<|rT 6 (.int .i64 ((bx ⟨Ms,false,o2,false,false⟩ (bw kd n s l X)).2)) d<|⟨rfl,pU,ca2,qk,il,fun x hx=> .inl (hsub x hx),gw⟩
 ·obtain rfl:o2=false:=hb hX2
  refine rS d ?_
  replace q:=((q.x g).x j).y m (e.bp 1 0)
  refine tO 1 0 q<|eT 2 X.c 2<|tO 7 2 hj<|sE [(38,.bool false)] fun a d=>tK<|cF 38 d<|qP [(58,.bool false)] d fun a d=> ?_
  refine cF 58 d<|cN<|bK<|tK<|qS d ?_
  replace o:=((o.x g).x j).y m (e.bp 2 0)
  refine tR 1 o<|tR 2 q ?_
  replace f:=(f.ext j).grew m (e.low 0 rfl)
  refine tG 5 (jI _ jb bs Ms false false false ca cc (ja.ext f) kd n s l oa oc ka kn kc (hr.ext f) hsz X b_ cd cf cj cm cn (xq.ext f) (xi.ext f) (xp.ext f) x32 (kt.ext f) hE hn) ?_
  rintro _ G ⟨rfl,pU,ca2,qk,il,hsub,gz⟩
  have gw:=(Gr.start (JF jb bs) h).ext f |>.trans gz
  exact sT [(6,.int .i64 ((bx ⟨Ms,false,false,false,false⟩ (bw kd n s l X)).2))] fun a d=>cR<|rT 6 (.int .i64 ((bx ⟨Ms,false,false,false,false⟩ (bw kd n s l X)).2)) d<|⟨rfl,pU,ca2,qk,il,fun x hx=> .inl (hsub x hx),gw⟩
set_option maxHeartbeats 1000000 in
theorem uZ(h:Heap)(jb:Nat)(bs:List (Nat×Nat))(Ms:List Md)(ca:Option Addr)(cc:Nat)(o2:Bool)(ja:JA h jb bs ⟨Ms,false,o2,false,false⟩ ca cc)(kd n:Int)(s:ByteArray)(l:List UInt8)(oa:Option Addr)(oc:Nat)(ka:Option Addr)(kn kc:Nat)(hr:fS (JF jb bs) h (.slice oa l.length oc) l.length 1 (l.map bv))(hsz:s.size ≤9223372036854775807)(X:An)(b_:Option Addr)(cd:Nat)(cf:Option Addr)(cj:Nat)(cm:Option Addr)(cn:Nat)(xq:aC h (.slice b_ X.b.length cd) X.b.length 1 (X.b.map bv))(xi:aC h (.slice cf X.i.length cj) X.i.length 1 (X.i.map Value.string))(xp:aC h (.slice cm X.p.length cn) X.p.length 32 (hcs X.p))(x32:aq X.p)(hkc:au kd=(true,true))(hb:X.c =2→o2=false)(N7:X.c =3)(kt:bl h)(hE:∀M∈Ms,M.E.length ≤1099511627)(hn:bs.length ≤1099511627):Sat Tryz.prog 31 #[.pointer (some ⟨jb,0,none⟩),.agg #[.int .i64 kd,.string s,.slice oa l.length oc,.int .i64 n,.slice ka kn kc],.agg (bN X.c (.slice b_ X.b.length cd) X.sx X.se X.sh X.sg (.slice cf X.i.length cj) X.n X.y X.k (.slice cm X.p.length cn)).toArray] h fun v h'=>v= .int .i64 (bx ⟨Ms,false,o2,false,false⟩ (bb kd n s l X)).2 ∧∃bs' ca cc,JA h' jb bs' (bx ⟨Ms,false,o2,false,false⟩ (bb kd n s l X)).1 ca cc∧(∀z∈bs',z∈bs∨(h.size ≤z.1 ∧h.size ≤z.2))∧Gr (JF jb bs) h h':=by
 have hj:=ja.hj
 have hj0:=ja.hj
 have hbj:=ak hj
 have gj:=Gr.start (fun k=>k=jb) h
 have f:=Ext.refl h
 have e:Sep h.size h.size []:=Sep.nil _ _
 refine ag Tryz.func31 77 fun a d=>qS d<|tN 0 (pV h.size) #[.int .i64 kd,.string s,.slice oa l.length oc,.int .i64 n,.slice ka kn kc] 35 fun A w q=> ?_
 replace e:=e.nw gj.1 q
 refine tN 1 (pV A.size) ((bN X.c (.slice b_ X.b.length cd) X.sx X.se X.sh X.sg (.slice cf X.i.length cj) X.n X.y X.k (.slice cm X.p.length cn)).toArray) 47 fun H u o=> ?_
 replace f:=f.ext w
 replace gj:=gj.ext w
 replace e:=e.nw gj.1 o
 refine sT [(4,pV h.size),(5,pV A.size)] fun a d=>qS d ?_
 replace q:=q.x u
 refine tR 0 q<|tG 1 (df _ kd n s oa l.length oc ka kn kc true true hkc) ?_
 rintro _ r ⟨rfl,g⟩
 refine sT [(7,.bool true),(8,.bool true)] fun a d=>qS d<|tN 1 (pV r.size) ((b6 0).toArray) 47 fun C j t=> ?_
 replace f:=(f.ext u).ext g
 have B:=f.size
 replace gj:=(gj.ext u).ext g
 replace e:=(e.up g.size).nw gj.1 t
 refine bA 2 (b6 2) t fun D m I=> ?_
 replace hj:=(((hj.x w).x u).x g).x j
 replace hj:=hj.y m
 refine sT [(9,pV r.size)] fun a d=>cS<|cB 0<|qS d<|tO 3 4 hj<|sT [(16,.bool false)] fun a d=>cF 16 d ?_
 refine qP [(21,.bool false)] d fun a d=>cF 21 d<|qS d<|tO 3 1 hj<|sT [(30,.bool false)] fun a d=>cF 30 d<|cS ?_
 rcases Int.decEq X.c 2 with hX2|hX2
 ·refine rS d ?_
  replace o:=((o.x g).x j).y m (e.bp 1 0)
  refine tO 1 0 o<|eF 2 X.c 2<|sE [(38,.bool false)] fun a d=>tK<|cF 38 d<|qS d<|tO 3 0 o ?_
  refine eT 4 X.c 3<|sT [(58,.bool true)] fun a d=>cT 58 d<|qS d ?_
  replace q:=((q.x g).x j).y m (e.bp 2 0)
  refine tR 1 q<|tR 2 o ?_
  replace f:=(f.ext j).grew m (e.low 0 rfl)
  refine tG 5 (ns _ jb bs Ms false o2 false ca cc (ja.ext f) kd n s l oa oc ka kn kc (hr.ext f) hsz X b_ cd cf cj cm cn (xq.ext f) (xi.ext f) (xp.ext f) x32 (kt.ext f) hE hn) ?_
  rintro _ F ⟨rfl,pU,ca2,qk,il,hsub,gz⟩
  have gw:=(Gr.start (JF jb bs) h).ext f |>.trans gz
  refine sT [(6,.int .i64 ((bx ⟨Ms,false,o2,false,false⟩ (bb kd n s l X)).2))] fun a d=>cR (yB (yT ?_))
  exact rT 6 (.int .i64 ((bx ⟨Ms,false,o2,false,false⟩ (bb kd n s l X)).2)) d<|⟨rfl,pU,ca2,qk,il,fun x hx=> .inl (hsub x hx),gw⟩
 ·obtain rfl:o2=false:=hb hX2
  refine rS d ?_
  replace o:=((o.x g).x j).y m (e.bp 1 0)
  refine tO 1 0 o<|eT 2 X.c 2<|tO 7 2 hj<|sE [(38,.bool false)] fun a d=>tK<|cF 38 d<|qS d ?_
  refine tO 3 0 o<|eT 4 X.c 3<|sT [(58,.bool true)] fun a d=>cT 58 d<|qS d ?_
  replace q:=((q.x g).x j).y m (e.bp 2 0)
  refine tR 1 q<|tR 2 o ?_
  replace f:=(f.ext j).grew m (e.low 0 rfl)
  refine tG 5 (ns _ jb bs Ms false false false ca cc (ja.ext f) kd n s l oa oc ka kn kc (hr.ext f) hsz X b_ cd cf cj cm cn (xq.ext f) (xi.ext f) (xp.ext f) x32 (kt.ext f) hE hn) ?_
  rintro _ G ⟨rfl,pU,ca2,qk,il,hsub,gz⟩
  have gw:=(Gr.start (JF jb bs) h).ext f |>.trans gz
  refine sT [(6,.int .i64 ((bx ⟨Ms,false,false,false,false⟩ (bb kd n s l X)).2))] fun a d=>cR (yB (yT ?_))
  exact rT 6 (.int .i64 ((bx ⟨Ms,false,false,false,false⟩ (bb kd n s l X)).2)) d<|⟨rfl,pU,ca2,qk,il,fun x hx=> .inl (hsub x hx),gw⟩
end Go.Proofs.YtegkejcglfgpmaaGreatDoor
end
section
namespace Go.aN
open Go Go.aj
theorem JA.pE{h h':Heap}{jb:Nat}{bs:List (Nat×Nat)}{J:Jd}{ca:Option Addr}{cc:Nat}{o:Option Nat}{v:Value}{E:TypeId}{n sz:Nat}{xs:List Value}(a:JA h jb bs J ca cc)(g:Grew o h h')(w:Own h v E n sz xs)(ho:a6 v=o)(hE:kK E=false)(hM:E≠83)(hP:E≠55)(hJ:E≠77):JA h' jb bs J ca cc:=by
  subst ho
  rcases w.2 with⟨rfl,_⟩|⟨k,off,cap,l,rfl,m,_⟩
  · exact a.ext g
  · have gr : Gr (fun i => i = k) h h' := ⟨g.1, fun i hi hn => g.2 i hi (fun e => hn (Option.some.inj e))⟩
    have hjk:jb≠k:=by rintro rfl;rw[a.hj] at m;cases m;exact hJ rfl
    exact⟨gr.blk a.hj hjk,a.row.fr gr (fun i e cs fr e2=>by rw[e,m] at e2;cases e2;exact hP rfl),a.cs.pE g w rfl hE hM⟩
theorem JA.Am{h:Heap}{jb:Nat}{bs:List (Nat×Nat)}{J:Jd}{ca:Option Addr}{cc:Nat}{ad:Option Addr}{n cap:Nat}{E:TypeId}{m sz:Nat}{xs:List Value}(a:JA h jb bs J ca cc)(w:Own h (.slice ad n cap) E m sz xs)(hM:E≠83)(hJ:E≠77):∀k,ad.map (fun(x:Addr)=>x.block)=some k→¬JF jb bs k:=fun k e=>by
  rcases w.2 with⟨e2,_⟩|⟨g,off,cap',l,e2,q,_⟩
  · cases e2;cases e
  · cases e2
    simp only[Option.map_some,Option.some.injEq] at e
    subst e
    rintro(rfl|⟨x,hx,e⟩)
    · rw[a.hj] at q;cases q;exact hJ rfl
    · have := a.cs.FA q hM x hx
      rcases e with e|e
      · exact this.1 e
      · exact this.2 e
/-! ### faults -/
@[reducible] def JP(p:Int×Int):List Value:=[.int .i64 p.1, .int .i64 p.2]
@[reducible] def eu(L:List (Int×Int)):List Value:=L.flatMap JP
theorem tg(p:Int×Int):(JP p).length =2:=rfl
theorem u0(L:List (Int×Int)):∀u∈eu L,u.oneCell' =true:=jh (fun p u hu=>by simp only[JP,List.mem_cons,List.not_mem_nil,or_false] at hu;rcases hu with rfl|rfl<;>rfl) L
def iC(r:Nat→Int)(k:Nat):List (Int×Int):=(List.range k).filterMap fun i=>if r i=0 then none else some (((i:Nat):Int),r i)
theorem rK{r:Nat→Int}{k:Nat}(h:r k=0):iC r (k+1)=iC r k:=by unfold iC;rw[List.range_succ,List.filterMap_append];simp[h]
theorem th{r:Nat→Int}{k:Nat}(h:r k≠0):iC r (k+1)=iC r k++[(((k:Nat):Int),r k)]:=by unfold iC;rw[List.range_succ,List.filterMap_append];simp[h]
theorem xK(r:Nat→Int):∀k,(iC r k).length ≤k
  |0=>by simp[iC]
  | k + 1 => by
    have:=xK r k
    by_cases h:r k=0
    · rw[rK h];omega
    · rw[th h];simp;omega
end Go.aN
end
section
namespace Go.Proofs.YtegkejcglfgpmaaGreatDoor
open Go Go.aj Go.aN
/-! ### answers with their slices; what the judge does by one operation -/
structure dL where
  X:An
  qa:Option Addr
  qc:Nat
  ia:Option Addr
  ic:Nat
  pa:Option Addr
  pc:Nat
@[reducible] def xM(r:dL):List Value:=bN r.X.c (.slice r.qa r.X.b.length r.qc) r.X.sx r.X.se r.X.sh r.X.sg (.slice r.ia r.X.i.length r.ic) r.X.n r.X.y r.X.k (.slice r.pa r.X.p.length r.pc)
def e_:dL:=⟨dh,none,0,none,0,none,0⟩
@[reducible] def bI(A:List dL):List Value:=A.flatMap xM
theorem xP(r:dL):(xM r).length =75:=rfl
def me(h:Heap)(o:e9):Prop:=(Row h (.slice o.oa o.l.length o.oc) o.l.length 1 (o.l.map bv)∧(o.l.length =0∨∀k,a6 (.slice o.oa o.l.length o.oc)=some k→k<h.size))∧o.s.size ≤9223372036854775807
theorem me.ext{h h':Heap}{o:e9}(a:me h o)(g:Ext h h'):me h' o:=⟨⟨a.1.1.ext g,a.1.2.imp id fun q k e=>Nat.lt_of_lt_of_le (q k e) g.1⟩,a.2⟩
theorem me.row{h h':Heap}{o:e9}(a:me h o)(g:Ext h h'){F:Nat→Prop}(hF:∀k,F k→h.size ≤k):fS F h' (.slice o.oa o.l.length o.oc) o.l.length 1 (o.l.map bv):=⟨a.1.1.ext g,a.1.2.imp id fun q k e=>⟨Nat.lt_of_lt_of_le (q k e) g.1,fun f=>Nat.not_le_of_lt (q k e) (hF k f)⟩⟩
def kP(h:Heap)(x:dL):Prop:=aC h (.slice x.qa x.X.b.length x.qc) x.X.b.length 1 (x.X.b.map bv)∧aC h (.slice x.ia x.X.i.length x.ic) x.X.i.length 1 (x.X.i.map Value.string)∧aC h (.slice x.pa x.X.p.length x.pc) x.X.p.length 32 (hcs x.X.p)∧aq x.X.p
def aW(h:Heap)(o:e9)(x:dL)(J J':Jd)(r:Int):Prop:=∀(h1:Heap) (jb:Nat) (bs:List (Nat×Nat)) (ca:Option Addr) (cc:Nat),Ext h h1→(∀k,JF jb bs k→h.size ≤k)→0<jb→bl h1→JA h1 jb bs J ca cc→
  Sat Tryz.prog 31 #[.pointer (some ⟨jb,0,none⟩), .agg (FB o).toArray, .agg (xM x).toArray] h1 fun v h'=>v= .int .i64 r∧∃bs' ca cc,JA h' jb bs' J' ca cc∧(∀z∈bs',z∈bs∨(h1.size ≤z.1 ∧h1.size ≤z.2))∧Gr (JF jb bs) h1 h'
section
variable {h:Heap} {o:e9} {x:dL} {Ms:List Md} {M:Md}
theorem aW.fuse{o2 o3:Bool}(hx:kP h x)(hk:o.kd =12):aW h o x ⟨Ms,false,o2,o3,false⟩ ⟨Ms,false,decide (0≤o.n),o3,false⟩ (az dh x.X):=fun h1 jb bs ca cc g _ _ _ ja=>
  xE h1 jb bs Ms ca cc o2 o3 ja o.kd o.n o.s o.l o.oa o.oc o.ka o.kn o.kc x.X x.qa x.qc x.ia x.ic x.pa x.pc (hx.1.ext g) (hx.2.1.ext g) (hx.2.2.1.ext g) hx.2.2.2 (dX (by omega) (by omega)) hk
theorem aW.Gc{o2 o3:Bool}(hx:kP h x)(hk:o.kd =12):aW h o x ⟨Ms,true,o2,o3,false⟩ ⟨Ms,true,o2,o3,false⟩ (az dh x.X):=fun h1 jb bs ca cc g _ _ _ ja=>
  uV h1 jb bs Ms ca cc o2 o3 ja o.kd o.n o.s o.l o.oa o.oc o.ka o.kn o.kc x.X x.qa x.qc x.ia x.ic x.pa x.pc (hx.1.ext g) (hx.2.1.ext g) (hx.2.2.1.ext g) hx.2.2.2 (dX (by omega) (by omega)) hk
theorem aW.Gd{o1 o2 o3:Bool}(hx:kP h x)(hk:o.kd =13):aW h o x ⟨Ms,o1,o2,o3,false⟩ ⟨Ms,false,false,o3,false⟩ (az dh x.X):=fun h1 jb bs ca cc g _ _ _ ja=>
  xF h1 jb bs Ms ca cc o1 o2 o3 ja o.kd o.n o.s o.l o.oa o.oc o.ka o.kn o.kc x.X x.qa x.qc x.ia x.ic x.pa x.pc (hx.1.ext g) (hx.2.1.ext g) (hx.2.2.1.ext g) hx.2.2.2 (dX (by omega) (by omega)) hk
theorem aW.tick{o1 o2 o3:Bool}(ho:me h o)(hx:kP h x)(hk:o.kd =10)(hE:∀M∈Ms,M.E.length ≤1099511627)(hn:Ms.length ≤1099511627):aW h o x ⟨Ms,o1,o2,o3,false⟩ ⟨Ms.map fun M=>(bO M o).1,o1,o2,o3,false⟩ (az dh x.X):=fun h1 jb bs ca cc g hF _ kt ja=>by
  have hl:=ja.cs.len
  exact xH h1 jb bs Ms ca cc o1 o2 o3 ja o.kd o.n o.s o.l o.oa o.oc o.ka o.kn o.kc (ho.row g hF) ho.2 x.X x.qa x.qc x.ia x.ic x.pa x.pc (hx.1.ext g) (hx.2.1.ext g) (hx.2.2.1.ext g) hx.2.2.2 (dX (by omega) (by omega)) kt hE (by rw[hl];exact hn) hk
theorem aW.qj{o1 o2 o3:Bool}(hx:kP h x)(hk:o.kd =14)(hX:x.X.k ≠1):aW h o x ⟨Ms,o1,o2,o3,false⟩ ⟨Ms,o1,o2,o3,false⟩ (az dh x.X):=fun h1 jb bs ca cc g _ _ _ ja=>
  AO h1 jb bs Ms ca cc o1 o2 o3 ja o.kd o.n o.s o.l o.oa o.oc o.ka o.kn o.kc x.X x.qa x.qc x.ia x.ic x.pa x.pc (hx.1.ext g) (hx.2.1.ext g) (hx.2.2.1.ext g) hx.2.2.2 (dX (by omega) (by omega)) hk hX
theorem aW.none{o1 o2 o3:Bool}(hx:kP h x)(hkc:au o.kd =(false,false))(hk:o.kd ≠12∧o.kd ≠10∧o.kd ≠14∧o.kd ≠13):aW h o x ⟨Ms,o1,o2,o3,false⟩ ⟨Ms,o1,o2,o3,false⟩ (az (b8 1) x.X):=fun h1 jb bs ca cc g _ _ _ ja=>
  xG h1 jb bs Ms ca cc o1 o2 o3 ja o.kd o.n o.s o.l o.oa o.oc o.ka o.kn o.kc x.X x.qa x.qc x.ia x.ic x.pa x.pc (hx.1.ext g) (hx.2.1.ext g) (hx.2.2.1.ext g) hx.2.2.2 hkc hk
theorem aW.gave{o1 o2 o3:Bool}:aW h o x ⟨Ms,o1,o2,o3,true⟩ ⟨Ms,o1,o2,o3,true⟩ 0:=fun h1 jb bs ca cc _ _ _ _ ja=>
  xI h1 jb bs Ms ca cc o1 o2 o3 ja o.kd o.n o.s o.l o.oa o.oc o.ka o.kn o.kc x.X x.qa x.qc x.ia x.ic x.pa x.pc _ _ rfl
theorem aW.off{o2 o3 cg:Bool}(hx:kP h x)(hkc:au o.kd =(true,cg)):aW h o x ⟨Ms,true,o2,o3,false⟩ ⟨Ms,true,o2,o3,false⟩ (az (b8 2) x.X):=fun h1 jb bs ca cc g _ _ _ ja=>
  AP h1 jb bs Ms ca cc o2 o3 ja o.kd o.n o.s o.l o.oa o.oc o.ka o.kn o.kc x.X x.qa x.qc x.ia x.ic x.pa x.pc (hx.1.ext g) (hx.2.1.ext g) (hx.2.2.1.ext g) hx.2.2.2 cg hkc
theorem aW.dark(hx:kP h x)(hkc:au o.kd =(true,false))(hX:x.X.c =2):aW h o x ⟨Ms,false,true,false,false⟩ ⟨Ms,true,true,false,false⟩ (az (b8 2) x.X):=fun h1 jb bs ca cc g _ _ _ ja=>
  xJ h1 jb bs Ms ca cc ja o.kd o.n o.s o.l o.oa o.oc o.ka o.kn o.kc x.X x.qa x.qc x.ia x.ic x.pa x.pc (hx.1.ext g) (hx.2.1.ext g) (hx.2.2.1.ext g) hx.2.2.2 hkc hX
theorem aW.xQ(ho:me h o)(hx:kP h x)(hkc:au o.kd =(true,true))(hX:x.X.c =2)(hE:∀M∈Ms,M.E.length ≤1099511627)(hn:Ms.length ≤109951162):aW h o x ⟨Ms,false,true,false,false⟩ ⟨eh o.kd o.n o.s o.l Ms,true,true,false,decide (16<(eh o.kd o.n o.s o.l Ms).length)⟩ (az (b8 2) x.X):=fun h1 jb bs ca cc g hF hk kt ja=>by
  have hl:=ja.cs.len
  exact uW h1 jb bs Ms ca cc ja o.kd o.n o.s o.l o.oa o.oc o.ka o.kn o.kc (ho.row g hF) ho.2 x.X x.qa x.qc x.ia x.ic x.pa x.pc (hx.1.ext g) (hx.2.1.ext g) (hx.2.2.1.ext g) hx.2.2.2 hkc hX kt hk hE (by rw[hl];exact hn)
theorem aW.power(ho:me h o)(hx:kP h x)(hkc:au o.kd =(true,true))(hX:x.X.c =2)(hE:M.E.length ≤1099511627)(hc:(bO M o).2.c =0)(hne:(bO M o).1.E.length ≠M.E.length):aW h o x ⟨[M],false,true,false,false⟩ ⟨[M,(bO M o).1],true,true,false,false⟩ (az (b8 2) x.X):=by
  have:=aW.xQ (Ms:=[M]) ho hx hkc hX (fun N hN=>by rw[List.mem_singleton.1 hN];exact hE) (by simp)
  rwa [dm hc rfl hne] at this
theorem aW.xS{b:Bool}(ho:me h o)(hx:kP h x)(hkc:au o.kd =(true,true))(hb:x.X.c =2→b=false)(hX:x.X.c ≠3)(hE:∀M∈Ms,M.E.length ≤1099511627)(hn:Ms.length ≤1099511627){J:Jd}{r:Int}(e:bx ⟨Ms,false,b,false,false⟩ (bw o.kd o.n o.s o.l x.X)=(J,r)):aW h o x ⟨Ms,false,b,false,false⟩ J r:=fun h1 jb bs ca cc g hF _ kt ja=>by
  have hl:=ja.cs.len
  have:=uX h1 jb bs Ms ca cc b ja o.kd o.n o.s o.l o.oa o.oc o.ka o.kn o.kc (ho.row g hF) ho.2 x.X x.qa x.qc x.ia x.ic x.pa x.pc (hx.1.ext g) (hx.2.1.ext g) (hx.2.2.1.ext g) hx.2.2.2 hkc hb hX kt hE (by rw[hl];exact hn)
  rwa [e] at this
theorem aW.Ge{b:Bool}(ho:me h o)(hx:kP h x)(hkc:au o.kd =(true,true))(hb:x.X.c =2→b=false)(hX:x.X.c =3)(hE:∀M∈Ms,M.E.length ≤1099511627)(hn:Ms.length ≤1099511627){J:Jd}{r:Int}(e:bx ⟨Ms,false,b,false,false⟩ (bb o.kd o.n o.s o.l x.X)=(J,r)):aW h o x ⟨Ms,false,b,false,false⟩ J r:=fun h1 jb bs ca cc g hF _ kt ja=>by
  have hl:=ja.cs.len
  have:=uZ h1 jb bs Ms ca cc b ja o.kd o.n o.s o.l o.oa o.oc o.ka o.kn o.kc (ho.row g hF) ho.2 x.X x.qa x.qc x.ia x.ic x.pa x.pc (hx.1.ext g) (hx.2.1.ext g) (hx.2.2.1.ext g) hx.2.2.2 hkc hb hX kt hE (by rw[hl];exact hn)
  rwa [e] at this
theorem aW.xU{b:Bool}(ho:me h o)(hx:kP h x)(hkc:au o.kd =(true,false))(hb:x.X.c =2→b=false)(hE:∀M∈Ms,M.E.length ≤1099511627)(hn:Ms.length ≤1099511627){J:Jd}{r:Int}(e:bx ⟨Ms,false,b,false,false⟩ (bw o.kd o.n o.s o.l x.X)=(J,r)):aW h o x ⟨Ms,false,b,false,false⟩ J r:=fun h1 jb bs ca cc g hF _ kt ja=>by
  have hl:=ja.cs.len
  have:=uY h1 jb bs Ms ca cc b ja o.kd o.n o.s o.l o.oa o.oc o.ka o.kn o.kc (ho.row g hF) ho.2 x.X x.qa x.qc x.ia x.ic x.pa x.pc (hx.1.ext g) (hx.2.1.ext g) (hx.2.2.1.ext g) hx.2.2.2 hkc hb kt hE (by rw[hl];exact hn)
  rwa [e] at this
theorem aW.Gf(ho:me h o)(hx:kP h x)(hkc:au o.kd =(true,true))(hX:x.X.c ≠3)(hE:∀M∈Ms,M.E.length ≤1099511627)(hn:Ms.length ≤1099511627){J:Jd}{r:Int}(e:bx ⟨Ms,false,false,false,false⟩ (bw o.kd o.n o.s o.l x.X)=(J,r)):aW h o x ⟨Ms,false,false,false,false⟩ J r:=aW.xS ho hx hkc (fun _=>rfl) hX hE hn e
theorem aW.holdA(ho:me h o)(hx:kP h x)(hkc:au o.kd =(true,false))(hE:∀M∈Ms,M.E.length ≤1099511627)(hn:Ms.length ≤1099511627){J:Jd}{r:Int}(e:bx ⟨Ms,false,false,false,false⟩ (bw o.kd o.n o.s o.l x.X)=(J,r)):aW h o x ⟨Ms,false,false,false,false⟩ J r:=aW.xU ho hx hkc (fun _=>rfl) hE hn e
end
/-! ### the document's examples -/
@[reducible] def sA:ByteArray:=ByteArray.mk #[97]
noncomputable def M1:Md:=(db M0 sA [97]).1
def Dq(l:List UInt8):An:={dh with b:=l}
theorem nu:aM sA=true:=by decide
theorem Gg:db M0 sA [97]=(M1,0):=by unfold M1;rw[jo nu (by decide) rfl]
theorem Gh:M1.f sA=some (ph sA [97] 0):=by
  have:M1=⟨upd M0.f sA (ph sA [97] M0.E.length),M0.E ++[dq sA 1 (bE [97])],M0.t⟩:=by unfold M1;rw[jo nu (by decide) rfl];rfl
  rw[this];show upd M0.f sA (ph sA [97] 0) sA=_;exact gv _ _ _
theorem AQ:M1.E.length =1:=by unfold M1;rw[jo nu (by decide) rfl];rfl
theorem Dr(n:Int):step M0 1 n sA [97]=(M1,dh):=by rw[gB rfl,Gg];rfl
theorem aO(n:Int):step M1 1 n sA [97]=(M1,b8 212):=by rw[gB rfl,iI nu (by decide) Gh]
theorem Ds(n:Int)(l:List UInt8):step M0 2 n sA l=(M0,b8 211):=by rw[dr (.inl rfl),j3 nu rfl]
theorem xV(n:Int)(l:List UInt8):step M1 2 n sA l=(M1,Dq [97]):=by rw[dr (.inl rfl),lD nu Gh rfl rfl];rfl
theorem JQ:az dh dh=0:=pA rfl rfl (hU ..) rfl (h_ ..) rfl rfl
theorem Dt:az (Dq [97]) (Dq [98])=2:=rule2 rfl (by decide)
theorem N8:az (Dq [97]) (Dq [97])=0:=pA rfl rfl (hU ..) rfl (h_ ..) rfl rfl
theorem LX(c:Int):az (b8 c) (b8 c)=0:=pA rfl rfl (hU ..) rfl (h_ ..) rfl rfl
theorem rC{A B:An}(h:A.c ≠B.c):az A B=1:=BE h
theorem Gi{M N:Md}{f:Md→Md×Int}(h:f M=(N,0)){a b c d:Bool}:bx ⟨[M],a,b,c,d⟩ f=(⟨[N],a,b,c,d⟩,0):=by simp[bx,h]
theorem xW{M N:Md}{r:Int}{f:Md→Md×Int}(h:f M=(N,r))(hr:r≠0){a b c d:Bool}:bx ⟨[M],a,b,c,d⟩ f=(⟨[N],a,b,c,d⟩,r):=by simp[bx,h,hr,hdF]
theorem Du{M N K L:Md}{r:Int}{f:Md→Md×Int}(h:f M=(K,r))(k:f N=(L,0))(hr:r≠0){a b c d:Bool}:bx ⟨[M,N],a,b,c,d⟩ f=(⟨[L],a,b,c,d⟩,0):=by simp[bx,h,k,hr]
theorem Dv{M N K L:Md}{r:Int}{f:Md→Md×Int}(h:f M=(K,0))(k:f N=(L,r))(hr:r≠0){a b c d:Bool}:bx ⟨[M,N],a,b,c,d⟩ f=(⟨[K],a,b,c,d⟩,0):=by simp[bx,h,k,hr]
theorem gI{M N:Md}{A X:An}{kd n r:Int}{s:ByteArray}{l:List UInt8}(h:step M kd n s l=(N,A))(k:az A X=r)(hk:kd≠11∧kd≠15:=by decide):bw kd n s l X M=(N,r):=by unfold bw;rw[h,fH (by rintro(q|q);exact hk.1 q.1;exact hk.2 q.1)];exact congrArg _ k
def whZ(c:Int):Nat:=(if c<0 then -(c+1) else c).toNat %3
noncomputable def b10:Code:=Tryz.f10.body.getD .skip
set_option maxHeartbeats 1000000 in
theorem u1(h:Heap)(L:List e9)(A:List dL)(n:Nat)(la:Option Addr)(lc:Nat)(xa:Option Addr)(xc:Nat)(Jf:Nat→Jd)(r:Nat→Int)(hl:Row h (.slice la n lc) n 5 (iA L))(hL:L.length =n)(ha:Row h (.slice xa n xc) n 75 (bI A))(hA:A.length =n)(kt:bl h)(hn:n≤1099511627)(hJ0:Jf 0=⟨[M0],false,false,false,false⟩)(see:∀k,k<n→aW h (L.getD k fC) (A.getD k e_) (Jf k) (Jf (k+1)) (r k)):Sat Tryz.prog 10 #[.slice la n lc,.slice xa n xc] h fun v h'=>∃ad cap,v= .slice ad (iC r n).length cap∧Own h' (.slice ad (iC r n).length cap) 52 (iC r n).length 2 (eu (iC r n))∧Ext h h':=by
 have f:=Ext.refl h
 have P:=kt.lt
 have b:Sep h.size h.size []:=Sep.nil _ _
 refine ag Tryz.func10 53 fun a c=>qP [] c fun a c=>qS c<|tG 0 (BM _ (by have:=f.size;omega)) ?_
 rintro _ M ⟨mb,mp,rfl,N,E,hp1,g⟩
 have j:=f.size;replace E:=Nat.le_trans j E;replace hp1:=Nat.le_trans j hp1;clear j
 replace f:=f.ext g
 replace kt:=kt.ext g
 replace b:=b.up g.size
 clear g
 refine tN 1 (.slice (some ⟨M.size,0,none⟩) 1 1) #[pV mb] 55 fun u Q F=> ?_
 have Z:=ak F
 replace b:=b.nw f.size F
 refine tN 3 (pV u.size) #[.slice (some ⟨M.size,0,none⟩) 1 1,.bool false,.bool false,.bool false,.bool false] 77 fun W O R=> ?_
 replace f:=f.ext Q
 have X:=f.size
 replace b:=b.nw f.size R
 refine sT [(5,pV u.size)] fun a c=>qP [(6,.slice none 0 0)] c fun a c=>qS c<|t1 4 (.int .i64 ((n:Nat):Int)) (.int .i64 (if ((n:Nat):Int)<((n:Nat):Int) then ((n:Nat):Int) else ((n:Nat):Int))) (congrArg (Value.int .i64) (by split<;>rfl))<|sT [(7,nV n)] fun a c=>cS<|qP [(19,nV n),(20,.int .i64 0)] c fun a c=> ?_
 refine cB 0 ?_
 replace N:=(N.ext Q).ext O
 replace F:=F.x O
 have ja:JA W u.size [(mb,mp)] (Jf 0) (some ⟨M.size,0,none⟩) 1:=hJ0▸⟨R,⟨Row.blk (n:=1) (sz:=1) (l:=[lF (mb,mp)]) F rfl,.inr ⟨_,_,_,rfl,F⟩⟩,CA.one N⟩
 have hlow:∀z∈[(mb,mp)],h.size ≤z.1 ∧h.size ≤z.2 :=fun z S=>by rw[List.mem_singleton.1 S];exact⟨E,hp1⟩
 clear N F R
 have dD:Own W (.slice none 0 0) 52 0 2 (eu (iC r 0)):=Own.nil _ _ _
 replace f:=f.ext O
 have H:=f.size
 replace b:=(b.sub (l':=[]) (List.nil_sublist _)).none H;clear H
 replace kt:=(kt.ext Q).ext O
 refine cL (fun m a h'=>∃k:Nat,∃ad:Option Addr,∃cap:Nat,∃bs:List (Nat×Nat),∃ca:Option Addr,∃cc:Nat,m=n - k∧(Ext h h')∧(bl h')∧(k≤n)∧(∀z∈bs,h.size ≤z.1 ∧h.size ≤z.2)∧(JA h' u.size bs (Jf k) ca cc)∧(Own h' (.slice ad ((iC r k).length) cap) 52 ((iC r k).length) 2 (eu (iC r k)))∧(Sep h.size h'.size [ad.map (·.block)])∧(Fr a 53 [(0,.slice la n lc),(1,.slice xa n xc),(5,.pointer (some ⟨u.size,0,none⟩)),(6,.slice ad ((iC r k).length) cap),(7,.int .i64 ((n:Nat):Int)),(19,.int .i64 ((n:Nat):Int)),(20,.int .i64 ((k:Nat):Int))])) (n - 0) ⟨0,none,0,[(mb,mp)],(some ⟨M.size,0,none⟩),1,rfl,f,kt,(by omega),hlow,ja,dD,b,c.to⟩ ?_
 clear c a
 clear f
 clear kt
 clear hlow
 clear ja
 clear dD
 clear b
 rintro m a h12 ⟨k,ad,cap,bs,ca,cc,rfl,f,kt,hk,hlow,ja,dD,b,c⟩
 refine qP [(21,.bool (decide (((k:Nat):Int)<((n:Nat):Int))))] c fun a c=>cS<|cJ 21 c (fun I=> ?_) fun I=> ?_
 ·have U:k<n:=by omega
  have hFn:=c
  obtain⟨al,rfl,AR⟩:=hl.bg (by omega)
  have c:=hFn;clear hFn
  have hFn:=c
  obtain⟨ax,rfl,HH⟩:=ha.bg (by omega)
  have c:=hFn;clear hFn
  refine cN<|tK<|cS<|cB 1<|qP [(8,nV k)] c fun a c=>cS<|cD [0,0,0,6,14,0,0,96,224,511,1023] 7 mixed c ?_
  refine mP 7 [0,1,2] [pV u.size,.slice (some al) n lc,nV k]<|mI 15 3 al n 5 k (k*5)<|mL 31 16 4 (.agg ((FB (L.getD k fC)).toArray)) (Calm.load (T:=35) (p:=(Addr.add al (k*5))) (by kernel_rfl) (Row.fm (d:=fC) om (hl.ext f) (by kernel_rfl) (by omega) rfl))<|mP 127 [5,6] [.slice (some ax) n xc,nV k]<|mI 255 7 ax n 75 k (k*75)<|mL 511 272 8 (.agg ((xM (A.getD k e_)).toArray)) (Calm.load (T:=47) (p:=(Addr.add ax (k*75))) (by kernel_rfl) (Row.fm (d:=e_) xP (ha.ext f) (by kernel_rfl) (by omega) rfl)) ?_
  have JR:∀i,JF u.size bs i→h.size ≤i:=by rintro i (e|⟨x,hx,e|e⟩);omega;have:=hlow x hx;omega;have:=hlow x hx;omega
  refine fZ 1023 1023 9 (see k U _ u.size bs ca cc f JR (by omega) kt ja) ?_
  rintro _ V ⟨rfl,pU,ca2,qk,il,J,gz⟩
  have j:=f.size
  have hlow2:∀z∈pU,h.size ≤z.1 ∧h.size ≤z.2 :=fun z S=>by rcases J z S with Y|Y;exact hlow z Y;exact⟨by omega,by omega⟩
  have JS:∀i,JF u.size bs i→h.size ≤i:=by rintro i (e|⟨x,hx,e|e⟩);omega;have:=hlow x hx;omega;have:=hlow x hx;omega
  replace dD:=Gr.own gz dD (by rw[af];exact ja.Am dD (by decide) (by decide))
  replace f:=Gr.dj f gz JS
  replace kt:=kt.gr gz (fun e=>by have:=JS _ e;omega)
  replace b:=b.up gz.1
  clear ja;have ja:=il;clear il JS j J
  refine mP 2047 [10] [.int .i64 (r k)]<|mE [(9,.int .i64 (r k))] fun a c=>tK<|qP [(34,.bool (!decide ((r k)=(0:Int))))] c fun a c=>cI 34 c (fun o=> ?_) fun o=> ?_
  ·have w:=th o
   have hfl:=xK r k
   refine rS c<|tN 4 (.slice (some ⟨V.size,0,none⟩) 1 1) #[nV k,.int .i64 (r k)] 52 fun h16 y G=> ?_
   replace b:=b.nw f.size G
   replace dD:=dD.ext y
   refine tP 5 ((iC r k).length +1) 16 (eu (iC r k++[(((k:Nat):Int),r k)])) dD (Row.blk (n:=1) (sz:=2) (l:=eu [(((k:Nat):Int),r k)]) G rfl) (u0 _) (fun q s wG t B C=> ?_) (ys:=(eu ([(((k:Nat):Int),r k)]))) (hZ:=by first|rfl|exact List.flatMap_append.symm |simp[eu])
   replace f:=f.ext y
   replace ja:=ja.ext y
   replace ja:=ja.pE B dD (af ..) (by decide) (by decide) (by decide) (by decide)
   have K:=b
   replace b:=b.sa B 1 C t f.size;clear C
   replace dD:=t;clear t
   have pR:(iC r k).length +1=(iC r (k+1)).length :=by rw[w,List.length_append];rfl
   rw[pR,←w] at dD
   refine sE [(6,.slice q ((iC r k).length +1) s)] fun a c=> ?_
   have D:((iC r k).length +1:Nat)=(iC r (k+1)).length :=by first|exact pR| (simp;done)| (simp;omega)
   rw[D] at c;clear D
   refine bK<|tK<|rS c<|tA 0 k 1<|sE [(20,nV (k+1))] fun a c=> ?_
   clear G
   replace kt:=(kt.ext y).grew B (K.zero 1 rfl P)
   replace f:=f.grew B (K.l 1)
   replace b:=b.sub (l':=[q.map (·.block)]) (.cons _ (.cons_cons _ (.slnil)))
   show ∃m',m'<_∧_
   refine⟨_,?_,(k+1),q,s,pU,ca2,qk,rfl,f,kt,(by omega),hlow2,ja,dD,b,c.to⟩
   omega
  ·have w:=rK o
   rw[←w] at dD c
   refine cN<|bK<|tK<|rS c<|tA 0 k 1<|sE [(20,nV (k+1))] fun a c=> ?_
   replace b:=b.sub (l':=[ad.map (·.block)]) (.cons_cons _ (.slnil))
   show ∃m',m'<_∧_
   refine⟨_,?_,(k+1),ad,cap,pU,ca2,qk,rfl,f,kt,(by omega),hlow2,ja,dD,b,c.to⟩
   omega
 ·refine cX 0 (xT (xT (xB ?_)))
  refine tK<|cS<|qS c<|uF 4 ((n:Nat):Int) ((n:Nat):Int)<|sT [(46,.bool false)] fun a c=>cF 46 c<|cN ?_
  refine tK<|qP [(4,.slice ad ((iC r k).length) cap)] c fun a c=>cR<|rT 4 (.slice ad ((iC r k).length) cap) c ?_
  have hke:k=n:=by omega
  exact⟨ad,cap,by rw[hke],by rw[←hke];exact dD,f⟩
noncomputable def b14:Code:=Tryz.f14.body.getD .skip
theorem AS(h:Heap)(p:Int×Int)(aa:Addr)(vc:Nat)(ab:Addr)(vd:Nat)(ra:Row h (.slice (some aa) 1 vc) 1 2 (eu [p]))(rb:Row h (.slice (some ab) 1 vd) 1 2 (eu [p])):Sat Tryz.prog 14 #[.slice (some aa) 1 vc,.slice (some ab) 1 vd] h fun v h'=>v= .bool true∧h'=h:=by
 refine ag Tryz.func14 26 fun a b=>qP [] b fun a b=>cS<|qP [(10,.bool false)] b fun a b=>cF 10 b<|cN<|tK ?_
 refine cS<|qP [(5,.int .i64 0)] b fun a b=>cB 0<|cU 2<|ar.step <|cS<|qP [(14,.bool true)] b fun a b=> ?_
 refine cT 14 b<|cN<|tK<|cS<|cB 1<|cS<|cD [0,0,3,7,0,0,48,112,255] 6 mixed b ?_
 refine mP 3 [0,1] [.slice (some aa) 1 vc,.int .i64 0]<|mI 7 2 aa 1 2 0 0<|mL 15 8 3 (.agg #[.int .i64 p.1,.int .i64 p.2]) (Calm.load (T:=52) (p:=aa) (by kernel_rfl) (Row.fm (a:=aa) (q:=0) (L:=[p]) (i:=0) (d:=p) tg ra (by kernel_rfl) (by simp) rfl))<|mP 63 [4,5] [.slice (some ab) 1 vd,.int .i64 0]<|mI 127 6 ab 1 2 0 0<|mL 255 136 7 (.agg #[.int .i64 p.1,.int .i64 p.2]) (Calm.load (T:=52) (p:=ab) (by kernel_rfl) (Row.fm (a:=ab) (q:=0) (L:=[p]) (i:=0) (d:=p) tg rb (by kernel_rfl) (by simp) rfl))<|mF 511 8 (.bool false) (Calm.eqS (q:=false) (xs:= #[.int .i64 p.1,.int .i64 p.2]) (by kernel_rfl)) ?_
 refine mE [(25,.bool false)] fun a b=>tK<|cF 25 b<|cN<|bK<|tK<|rP [(5,.int .i64 1)] b fun a b=> ?_
 refine tK (ar.step ?_)
 refine cS<|qP [(14,.bool false)] b fun a b=>cF 14 b<|cX 0 (xT (xT (xB ?_)))
 exact tK<|qP [(4,.bool true)] b fun a b=>cR<|rT 4 (.bool true) b<|⟨rfl,rfl⟩
theorem j7(h:Heap)(p:Int×Int)(va:Option Addr)(vc:Nat)(vb:Option Addr)(vd:Nat)(ra:Row h (.slice va 1 vc) 1 2 (eu [p]))(rb:Row h (.slice vb 1 vd) 1 2 (eu [p])):Sat Tryz.prog 14 #[.slice va 1 vc,.slice vb 1 vd] h fun v h'=>v= .bool true∧h'=h:=by
 obtain⟨aa,rfl,_⟩:=ra.bg (by decide)
 obtain⟨ab,rfl,_⟩:=rb.bg (by decide)
 exact AS h p aa vc ab vd ra rb
noncomputable def b12:Code:=Tryz.f12.body.getD .skip
end Go.Proofs.YtegkejcglfgpmaaGreatDoor
end
