/- The walks and the plain laws, part 4: RetN, RetG, MdlE, MdlF, MdlG, MdlH, MdlSame, MdlI, MdlJ, MdlK, MdlPart, MdlL, MdlM, MdlFr, MdlSee, MdlN. Conditions: those that each theorem names. -/
import Derived.Test.YtegkejcglfgpmaaGreatDoorPt3
section
namespace Go.Proofs.YtegkejcglfgpmaaGreatDoor
open Go Go.ai Go.aL
noncomputable def ET:Code:=Tryz.f123.body.getD .skip
set_option maxHeartbeats 2000000 in
theorem so(h:Heap)(ad:Option Addr)(cap n:Nat)(L:List Rec)(af:Own h (.slice ad n cap) 95 n 39 (a_ L))(hLn:L.length =n)(hn:n≤1099511627776):Sat Tryz.prog 123 #[.slice ad n cap,.int .i64 ((n:Nat):Int),.func (.func 107) #[] #[]] h fun _ h'=>∃M,M.length =n∧M.Perm L∧bx M 0 n∧Own h' (.slice ad n cap) 95 n 39 (a_ M)∧Grew (ad.map (fun(x:Addr)=>x.block)) h h':=by
 have i:=Grew.refl (ad.map (fun(x:Addr)=>x.block)) h
 refine ag Tryz.func123 63 fun a b=>qP [(6,.int .i64 20)] b fun a b=>qP [(7,.int .i64 0),(8,.int .i64 20)] b fun a b=>cS<|cB 0<|cL (fun m a h'=>∃d:Nat,∃M:List Rec,m=n - d∧(Grew (ad.map (fun(x:Addr)=>x.block)) h h')∧(∃t,d=t*20)∧(d≤n)∧(M.length =n)∧(M.Perm L)∧(mK M 20 0 d)∧(Own h' (.slice ad n cap) 95 n 39 (a_ M))∧(Fr a 63 [(0,.slice ad n cap),(1,.int .i64 ((n:Nat):Int)),(2,.func (.func 107) #[] #[]),(6,.int .i64 20),(7,.int .i64 ((d:Nat):Int)),(8,.int .i64 ((d+20:Nat):Int))])) (n - 0) ⟨0,L,rfl,i,⟨0,rfl⟩,(by omega),hLn,(List.Perm.refl _),(mK.nil _ _ _),af,b.to⟩ ?_
 clear b a
 clear i
 clear hLn
 clear af
 rintro m a R ⟨d,M,rfl,i,y,E,j,k,e,af,b⟩
 obtain⟨t,w⟩:=y
 refine cS<|qP [(13,.bool (decide (((d+20:Nat):Int)≤((n:Nat):Int))))] b fun a b=>cJ 13 b (fun F=> ?_) fun F=> ?_
 ·refine cN<|tK<|cB 1<|qS b<|tG 4 (um _ ad cap n d (d+20) M af j (by omega) (by omega) (by omega)) ?_
  rintro _ S ⟨K,p,q,l,A,f,g⟩
  replace i:=i.trans g
  clear af;have af:=f;clear f g
  replace k:=q.trans k;replace j:=p;replace e:=e.more w l A (by omega);clear q p l A
  refine sT [] fun a b=>qP [(7,nV (d+20))] b fun a b=>rS b<|tA 2 (d+20) 20<|sE [(8,nV ((d+20)+20))] fun a b=>bK ?_
  show ∃m',m'<_∧_
  refine⟨_,?_,(d+20),K,rfl,i,⟨t+1,by omega⟩,(by omega),j,k,e,af,b.to⟩
  omega
 ·refine cX 0 (xT (xT (xB ?_)))
  refine tK<|qS b<|tG 4 (um _ ad cap n d (n) M af j (by omega) (by omega) (by omega)) ?_
  rintro _ T ⟨N,p,q,l,A,f,g⟩
  replace i:=i.trans g
  clear af;have af:=f;clear f g
  replace k:=q.trans k;replace j:=p;replace e:=e.more w l A (by omega);clear q p l A
  refine sT [] fun a b=>cB 2<|cL (fun m a h'=>∃s:Nat,∃M:List Rec,m=n - s∧(Grew (ad.map (fun(x:Addr)=>x.block)) h h')∧(20≤s)∧(M.length =n)∧(M.Perm L)∧(mK M s 0 n)∧(Own h' (.slice ad n cap) 95 n 39 (a_ M))∧(Fr a 63 [(0,.slice ad n cap),(1,.int .i64 ((n:Nat):Int)),(2,.func (.func 107) #[] #[]),(6,.int .i64 ((s:Nat):Int))])) (n - 20) ⟨20,N,rfl,i,(by omega),j,k,e,af,b.to⟩ ?_
  clear b a
  clear i
  clear j
  clear k
  clear e
  clear af
  rintro m a U ⟨s,M,rfl,i,J,j,k,e,af,b⟩
  refine cS<|qP [(30,.bool (decide (((s:Nat):Int)<((n:Nat):Int))))] b fun a b=>cJ 30 b (fun G=> ?_) fun G=> ?_
  ·refine cN<|tK<|cB 3<|qS b<|t1 1 (.int .i64 ((2*s:Nat):Int)) (.int .i64 (IntKind.i64.wrap (2*((s:Nat):Int)))) (congrArg (Value.int .i64) (gJ (by omega) (by omega) (by omega)))<|sT [(7,.int .i64 0),(8,nV (2*s))] fun a b=>cS ?_
   refine cB 4 ?_
   have O:2*s=0+2*s:=(Nat.zero_add _).symm;rw[O] at b
   refine cL (fun m a h'=>∃d:Nat,∃M:List Rec,m=n+2*s - d∧(Grew (ad.map (fun(x:Addr)=>x.block)) h h')∧(∃t,d=t*(2*s))∧(d≤n)∧(M.length =n)∧(M.Perm L)∧(mK M (2*s) 0 d)∧(mK M s d n)∧(Own h' (.slice ad n cap) 95 n 39 (a_ M))∧(Fr a 63 [(0,.slice ad n cap),(1,.int .i64 ((n:Nat):Int)),(2,.func (.func 107) #[] #[]),(6,.int .i64 ((s:Nat):Int)),(7,.int .i64 ((d:Nat):Int)),(8,.int .i64 ((d+2*s:Nat):Int))])) (n+2*s - 0) ⟨0,M,rfl,i,⟨0,by rw[Nat.zero_mul]⟩,(by omega),j,k,(mK.nil _ _ _),e,af,b.to⟩ ?_
   clear b a
   clear i
   clear j
   clear k
   clear e
   clear af
   rintro m a V ⟨d,M,rfl,i,y,E,j,k,B,z,af,b⟩
   obtain⟨t,w⟩:=y
   refine cS<|qP [(35,.bool (decide (((d+2*s:Nat):Int)≤((n:Nat):Int))))] b fun a b=>cJ 35 b (fun C=> ?_) fun C=> ?_
   ·refine cN<|tK<|cB 5<|qS b<|tA 4 d s ?_
    obtain⟨r,u⟩:=z.two (c:=d+2*s) w (by omega) (by omega) (by omega)
    refine tG 7 (ur ad cap n hn _ d (d+s) (d+2*s) M af j (by omega) (by omega) (by omega) r u) ?_
    rintro _ P ⟨H,v,f,g⟩
    replace i:=i.trans g
    clear af;have af:=f;clear f g
    replace k:=v.perm.trans k;replace j:=v.len;clear r u
    replace B:=B.more w v.out v.gA (by omega);replace z:=z.rest (by omega) v.out;clear v
    refine sT [] fun a b=>qP [(7,nV (d+2*s))] b fun a b=>rS b<|t1 2 (.int .i64 ((2*s:Nat):Int)) (.int .i64 (IntKind.i64.wrap (2*((s:Nat):Int)))) (congrArg (Value.int .i64) (gJ (by omega) (by omega) (by omega)))<|tA 3 (d+2*s) (2*s)<|sE [(8,nV ((d+2*s)+(2*s)))] fun a b=>bK ?_
    show ∃m',m'<_∧_
    refine⟨_,?_,(d+2*s),H,rfl,i,⟨t+1,by rw[w,Nat.add_mul,Nat.one_mul]⟩,(by omega),j,k,B,z,af,b.to⟩
    omega
   ·refine cX 4 (xT (xT (xB ?_)))
    refine tK<|cS<|qS b<|tA 2 d s<|sT [(9,nV (d+s))] fun a b=>qP [(54,.bool (decide (((d+s:Nat):Int)<((n:Nat):Int))))] b fun a b=>cJ 54 b (fun D=> ?_) fun D=> ?_
    ·refine rS b ?_
     obtain⟨r,u⟩:=z.two (c:=n) w (by omega) (by omega) (by omega)
     refine tG 5 (ur ad cap n hn _ d (d+s) (n) M af j (by omega) (by omega) (by omega) r u) ?_
     rintro _ Q ⟨I,v,f,g⟩
     replace i:=i.trans g
     clear af;have af:=f;clear f g
     replace k:=v.perm.trans k;replace j:=v.len;clear r u
     have o:=B.more w v.out v.gA (by omega)
     refine sE [] fun a b=>tK<|rS b<|t1 1 (.int .i64 ((s*2:Nat):Int)) (.int .i64 (IntKind.i64.wrap (((s:Nat):Int)*2))) (congrArg (Value.int .i64) (gJ (by omega) (by omega) (by omega)))<|sE [(6,nV (s*2))] fun a b=>bK ?_
     show ∃m',m'<_∧_
     refine⟨_,?_,(s*2),I,rfl,i,(by omega),j,k,(Nat.mul_comm 2 s▸o),af,b.to⟩
     omega
    ·have o:=B.more (c:=n) w (fun _ _=>rfl) (z.one w (by omega)) (by omega)
     refine cN<|tK<|rS b<|t1 1 (.int .i64 ((s*2:Nat):Int)) (.int .i64 (IntKind.i64.wrap (((s:Nat):Int)*2))) (congrArg (Value.int .i64) (gJ (by omega) (by omega) (by omega)))<|sE [(6,nV (s*2))] fun a b=>bK ?_
     show ∃m',m'<_∧_
     refine⟨_,?_,(s*2),M,rfl,i,(by omega),j,k,(Nat.mul_comm 2 s▸o),af,b.to⟩
     omega
  ·refine cX 2 (xT (xT (xB ?_)))
   exact n0 b<|⟨M,j,k,e.all (by omega),af,i⟩
noncomputable def EU:Code:=Tryz.f106.body.getD .skip
theorem xG(h:Heap)(ad:Option Addr)(cap n:Nat)(L:List Rec)(af:Own h (.slice ad n cap) 95 n 39 (a_ L))(hLn:L.length =n)(hn:n≤1099511627776):Sat Tryz.prog 106 #[.slice ad n cap,.func (.func 107) #[] #[]] h fun _ h'=>∃M,M.length =n∧M.Perm L∧bx M 0 n∧Own h' (.slice ad n cap) 95 n 39 (a_ M)∧Grew (ad.map (fun(x:Addr)=>x.block)) h h':=by
 refine ag Tryz.func106 9 fun a c=>rS c<|tG 4 (so _ ad cap n L af hLn hn) ?_
 rintro _ i ⟨M,d,e,f,b,g⟩
 exact sE [] fun a c=>n0 c<|⟨M,d,e,f,b,g⟩
theorem vA:Sorts Tryz.prog 106 (.func (.func 107) #[] #[]) 95 1099511627776:=fun h ad cap n L o hL hn _=>xG h ad cap n L o hL hn
theorem del_any(h:Heap)(r:Rec)(now:Int)(ok:nH h r):Sat Tryz.prog 70 #[.agg (rcs r).toArray,.int .i64 now] h fun v h'=>∃(w:Rec) (z:Int),v= .tuple #[.agg (rcs w).toArray,.int .i64 z]∧(z=0↔pI now r)∧Ext h h':=by
 obtain⟨P,hP,hr,hn⟩:=ok
 obtain⟨x,e,ho,go,ad,n,cap⟩:=r
 simp only at hP hr hn
 subst hP
 cases go with
 |true=>exact(ql h x e ho P ad cap now).mono fun v h' ⟨e1,g⟩=>⟨ah,213,e1,by simp[pI],g⟩
 | false =>
  cases ho with
  |true=>exact(qm h x e P ad cap now).mono fun v h' ⟨e1,g⟩=>⟨ah,214,e1,by simp[pI],g⟩
  |false=>
   by_cases hu:e≤now
   ·exact(xw h x e P ad cap hr hn now hu).mono fun v h' ⟨e1,g⟩=>⟨⟨x,e,false,true,none,0,0⟩,0,e1,by simp[pI,hu],g⟩
   ·exact(qn h x e P ad cap now (by omega)).mono fun v h' ⟨e1,g⟩=>⟨ah,214,e1,by simp[pI,hu],g⟩
noncomputable def b72:Code:=Tryz.f72.body.getD .skip
set_option maxHeartbeats 1000000 in
theorem zZ(h:Heap)(L:List Rec)(va:Option Addr)(vc:Nat)(now:Int)(K:Nat)(hsort:Sorts Tryz.prog 106 (.func (.func 107) #[] #[]) 95 K)(hr:Row h (.slice va L.length vc) L.length 39 (a_ L))(hL:L.length ≤1099511627776)(hok:∀r∈L,nH h r)(hK:(L.filter (dW now)).length ≤K):Sat Tryz.prog 72 #[.slice va L.length vc,.int .i64 now] h fun v h'=>∃(M:List Rec) (ad:Option Addr) (cap:Nat),M.Perm (L.filter (dW now))∧bx M 0 M.length ∧v= .slice ad M.length cap∧Own h' (.slice ad M.length cap) 9 M.length 1 ((ids M).map Value.string)∧(∀k,ad.map (fun(x:Addr)=>x.block)=some k→h.size ≤k)∧Ext h h':=by
 have o:=Ext.refl h
 have c:Sep h.size h.size []:=Sep.nil _ _
 refine ag Tryz.func72 50 fun a f=>qP [] f fun a f=>qP [(5,.slice none 0 0)] f fun a f=>cS<|qP [(13,.slice va L.length vc),(14,nV L.length),(15,.int .i64 0)] f fun a f=>cB 0 ?_
 have d:Own h (.slice none 0 0) 95 0 39 (a_ []):=Own.nil _ _ _
 have u:=o.size
 replace c:=c.none u;clear u
 refine cL (fun m a h'=>∃i:Nat,∃D:List Rec,∃ad:Option Addr,∃cap:Nat,m=L.length - i∧(Ext h h')∧(i≤L.length)∧((L.take i).filter (dW now)=D)∧(Own h' (.slice ad D.length cap) 95 D.length 39 (a_ D))∧(Sep h.size h'.size [ad.map (·.block)])∧(Fr a 50 [(1,.int .i64 now),(5,.slice ad D.length cap),(13,.slice va L.length vc),(14,.int .i64 ((L.length :Nat):Int)),(15,.int .i64 ((i:Nat):Int))])) (L.length - 0) ⟨0,[],none,0,rfl,o,(by omega),rfl,d,c,f.to⟩ ?_
 clear f a
 clear o
 clear d
 clear c
 rintro m a h1 ⟨i,D,ad,cap,rfl,o,hi,P,d,c,f⟩
 refine qP [(16,.bool (decide (((i:Nat):Int)<((L.length :Nat):Int))))] f fun a f=>cS<|cJ 16 f (fun a7=> ?_) fun a7=> ?_
 ·have A:i<L.length :=by omega
  have b2:=oI P
  obtain⟨aa,rfl,a0⟩:=hr.bf (by omega)
  refine cN<|tK<|cS<|cB 1<|qS f<|tI 0 aa L.length 39 i (i*39)<|tY 1 i ah bk (hr.ext o) ?_
  refine tN 2 (pV h1.size) ((bZ).toArray) 95 fun h3 g4 t=> ?_
  replace c:=c.nw o.size t
  refine bt 3 (rcs (L.getD i ah)) t fun h6 g7 zq=> ?_
  replace t:=zq
  refine sT [(7,pV h1.size)] fun a f=>qS f<|tO 1 35 t<|sT [(21,.bool (decide ((0:Int)<((L.getD i ah).e))))] fun a f=>cJ 21 f (fun T=> ?_) fun T=> ?_
  ·have a1:=T
   refine qS f<|tR 0 t ?_
   replace o:=(o.ext g4).grew g7 (c.l 0)
   refine tG 2 (del_any _ (L.getD i ah) now ((hok _ (getD_mem A)).ext o)) ?_
   rintro _ h9 ⟨w,z,rfl,hz,g⟩
   replace d:=(d.ext g4).k g7 (c.ap 1 0)
   replace c:=c.up g7.size
   replace o:=o.ext g
   replace d:=d.ext g
   replace t:=t.x g
   replace c:=c.up g.size
   clear g
   refine tN 6 (pV h9.size) ((bZ).toArray) 95 fun b3 B N=> ?_
   replace c:=c.nw o.size N
   refine bt 7 (rcs w) N fun a8 q zq=>sT [(9,.int .i64 z)] fun a f=>qP [(29,.bool (decide (z=(0:Int))))] f fun a f=>cJ 29 f (fun C=> ?_) fun C=> ?_
   ·have E:=wM A P (ju.2 ⟨a1,hz.1 C⟩)
    refine rS f ?_
    replace t:=(t.x B).y q (c.bp 1 0)
    refine tR 1 t<|tN 2 (.slice (some ⟨a8.size,0,none⟩) 1 1) ((a_ [L.getD i ah]).toArray) 95 fun b5 a2 U=> ?_
    replace o:=(o.ext B).grew q (c.l 0)
    replace c:=(c.up q.size).nw o.size U
    replace d:=((d.ext B).k q (c.ap 3 1)).ext a2
    refine tP 3 ((D++[L.getD i ah]).length) 104 (a_ (D++[L.getD i ah])) d (Row.blk (n:=1) (sz:=39) (l:=a_ [L.getD i ah]) U rfl) (eH _) (fun F G b6 d a3 Q=> ?_) (ys:=(a_ ([L.getD i ah]))) (hZ:=by first|rfl|exact List.flatMap_append.symm |simp[a_])
    replace o:=o.ext a2
    have a9:=c
    replace c:=c.sa a3 3 Q d o.size;clear Q
    refine sE [(5,.slice F ((D++[L.getD i ah]).length) G)] fun a f=>bK<|tK<|rS f<|tA 0 i 1<|sE [(15,nV (i+1))] fun a f=> ?_
    clear t
    clear N
    clear U
    replace o:=o.grew a3 (a9.l 3)
    replace c:=c.sub (l':=[F.map (·.block)]) (.cons _ (.cons _ (.cons _ (.cons_cons _ (.slnil)))))
    show ∃m',m'<_∧_
    refine⟨_,?_,(i+1),(D++[L.getD i ah]),F,G,rfl,o,(by omega),E,d,c,f.to⟩
    omega
   ·have E:=nI A P (lh (now:=now) (fun hb=>C (hz.2 hb)))
    refine cN<|bK<|tK<|rS f<|tA 0 i 1<|sE [(15,nV (i+1))] fun a f=> ?_
    clear t
    clear N
    replace o:=(o.ext B).grew q (c.l 0)
    replace d:=(d.ext B).k q (c.ap 2 0)
    replace c:=c.up q.size
    replace c:=c.sub (l':=[ad.map (·.block)]) (.cons _ (.cons _ (.cons_cons _ (.slnil))))
    show ∃m',m'<_∧_
    refine⟨_,?_,(i+1),D,ad,cap,rfl,o,(by omega),E,d,c,f.to⟩
    omega
  ·have E:=nI A P (lY (now:=now) T)
   refine cN<|bK<|tK<|rS f<|tA 0 i 1<|sE [(15,nV (i+1))] fun a f=> ?_
   clear t
   replace o:=(o.ext g4).grew g7 (c.l 0)
   replace d:=(d.ext g4).k g7 (c.ap 1 0)
   replace c:=c.up g7.size
   replace c:=c.sub (l':=[ad.map (·.block)]) (.cons _ (.cons_cons _ (.slnil)))
   show ∃m',m'<_∧_
   refine⟨_,?_,(i+1),D,ad,cap,rfl,o,(by omega),E,d,c,f.to⟩
   omega
 ·obtain rfl:i=L.length :=by omega
  rw[List.take_length] at P
  refine cX 0 (xT (xT (xB ?_)))
  refine tK<|qS f ?_
  have b7:D.length ≤L.length :=by rw[←P];exact List.length_filter_le _ _
  refine tG 1 (hsort _ _ _ _ _ d rfl (by rw[←P];exact hK) (by omega)) ?_
  rintro _ b0 ⟨M,hM,hP,hS,R,g⟩
  replace o:=o.grew g (c.l 0)
  replace c:=c.up g.size
  clear d;have d:=R;clear R g
  refine sT [] fun a f=>qP [(10,.slice none 0 0)] f fun a f=>cS<|qP [(37,.slice ad D.length cap),(38,nV D.length),(39,.int .i64 0)] f fun a f=>cB 2 ?_
  have j:Own b0 (.slice none 0 0) 9 0 1 ((ids (M.take 0)).map Value.string):=Own.nil _ _ _
  have u:=o.size
  replace c:=c.none u;clear u
  refine cL (fun m a h'=>∃i:Nat,∃s:Option Addr,∃p:Nat,m=D.length - i∧(Ext h h')∧(i≤D.length)∧(Own h' (.slice s i p) 9 i 1 ((ids (M.take i)).map Value.string))∧(Own h' (.slice ad D.length cap) 95 D.length 39 (a_ M))∧(Sep h.size h'.size [s.map (·.block),ad.map (·.block)])∧(Fr a 50 [(10,.slice s i p),(37,.slice ad D.length cap),(38,.int .i64 ((D.length :Nat):Int)),(39,.int .i64 ((i:Nat):Int))])) (D.length - 0) ⟨0,none,0,rfl,o,(by omega),j,d,c,f.to⟩ ?_
  clear f a
  clear o
  clear j
  clear d
  clear c
  rintro m a a4 ⟨i,s,p,rfl,o,hi,j,d,c,f⟩
  refine qP [(40,.bool (decide (((i:Nat):Int)<((D.length :Nat):Int))))] f fun a f=>cS<|cJ 40 f (fun a5=> ?_) fun a5=> ?_
  ·have A:i<D.length :=by omega
   obtain⟨ab,rfl,a6⟩:=d.bf (by omega)
   refine cN<|tK<|cS<|cB 3<|qS f<|tI 0 ab D.length 39 i (i*39)<|tY 1 i ah bk (d.row) ?_
   refine tN 2 (pV a4.size) ((bZ).toArray) 95 fun b8 V H=> ?_
   replace c:=c.nw o.size H
   refine bt 3 (rcs (M.getD i ah)) H fun b1 O zq=> ?_
   replace H:=zq
   refine sT [(12,pV a4.size)] fun a f=>rS f<|tO 2 0 H<|tN 3 (.slice (some ⟨b1.size,0,none⟩) 1 1) #[.string (((M.getD i ah).b).id)] 9 fun c0 W X=> ?_
   replace o:=(o.ext V).grew O (c.l 0)
   replace c:=(c.up O.size).nw o.size X
   replace j:=((j.ext V).k O (c.ap 2 1)).ext W
   refine tP 4 (i+1) 16 ((ids (M.take i)++[((M.getD i ah).b).id]).map Value.string) j (Row.blk (n:=1) (sz:=1) (l:=[((M.getD i ah).b).id].map Value.string) X rfl) (fR _) (fun I J c1 j Y S=> ?_) (ys:=(([((M.getD i ah).b).id]).map Value.string))
   replace o:=o.ext W
   have Z:=c
   replace c:=c.sa Y 2 S j o.size;clear S
   refine sE [(10,.slice I (i+1) J)] fun a f=>bK<|tK<|rS f<|tA 0 i 1<|sE [(39,nV (i+1))] fun a f=> ?_
   rw[wN (by omega)] at j
   clear H
   clear X
   replace d:=(((d.ext V).k O (Z.ap 3 1)).ext W).k Y (Z.ap 3 2)
   replace o:=o.grew Y (Z.l 2)
   replace c:=c.sub (l':=[I.map (·.block),(some ab:Option Addr).map (·.block)]) (.cons _ (.cons _ (.cons_cons _ (.cons_cons _ (.slnil)))))
   show ∃m',m'<_∧_
   refine⟨_,?_,(i+1),I,J,rfl,o,(by omega),j,d,c,f.to⟩
   omega
  ·refine cX 2 (xT (xT (xB ?_)))
   refine tK<|qP [(4,.slice s i p)] f fun a f=>cR<|rT 4 (.slice s i p) f ?_
   obtain rfl:i=D.length :=by omega
   rw[←hM,List.take_length] at j
   rw[←hM]
   exact⟨M,s,p,P▸hP,by rw[hM];exact hS,rfl,j,c.low 0 rfl,o⟩
noncomputable def b37:Code:=Tryz.f37.body.getD .skip
theorem mm{W:Nat→Prop}(h:Heap)(mb mp:Nat)(M:Md)(L:List bW)(ck:Nat)(ea:Option Addr)(ec:Nat)(es:List Value)(md:bJ W h mb mp M L ck ea ec es)(kt:bq h)(hE:M.E.length ≤1099511627):Sat Tryz.prog 37 #[.pointer (some ⟨mb,0,none⟩)] h fun v h'=>∃ad cap,v= .slice ad M.E.length cap∧Own h' (.slice ad M.E.length cap) 39 M.E.length 32 (hcs (cP M.E))∧(∀k,ad.map (fun(x:Addr)=>x.block)=some k→h.size ≤k)∧Ext h h':=by
 have hm:=md.hm
 have f:=Ext.refl h
 have z:=kt.lt
 have c:Sep h.size h.size []:=Sep.nil _ _
 refine ag Tryz.func37 22 fun a d=>qP [] d fun a d=>qP [(3,.slice none 0 0)] d fun a d=>cS<|qS d<|tO 3 1 (f.blk hm)<|sT [(9,.slice ea M.E.length ec),(10,nV M.E.length),(11,.int .i64 0)] fun a d=> ?_
 refine cB 0 ?_
 have b:Own h (.slice none 0 0) 39 0 32 (hcs (cP (M.E.take 0))):=Own.nil _ _ _
 have g:=f.size
 replace c:=c.none g;clear g
 refine cL (fun m a h'=>∃k:Nat,∃ad:Option Addr,∃cap:Nat,m=M.E.length - k∧(Ext h h')∧(bq h')∧(k≤M.E.length)∧(Own h' (.slice ad k cap) 39 k 32 (hcs (cP (M.E.take k))))∧(Sep h.size h'.size [ad.map (·.block)])∧(Fr a 22 [(3,.slice ad k cap),(9,.slice ea M.E.length ec),(10,.int .i64 ((M.E.length :Nat):Int)),(11,.int .i64 ((k:Nat):Int))])) (M.E.length - 0) ⟨0,none,0,rfl,f,kt,(by omega),b,c,d.to⟩ ?_
 clear d a
 clear f
 clear kt
 clear b
 clear c
 rintro m a R ⟨k,ad,cap,rfl,f,kt,S,b,c,d⟩
 refine qP [(12,.bool (decide (((k:Nat):Int)<((M.E.length :Nat):Int))))] d fun a d=>cS<|cJ 12 d (fun A=> ?_) fun A=> ?_
 ·have B:k<M.E.length :=by omega
  obtain⟨e,J⟩:∃e,M.E[k]? =some e:=⟨_,List.getElem?_eq_getElem B⟩
  obtain⟨P,C,D,F,s⟩:=md.en.2 k e J
  obtain⟨K,rfl,u⟩:=md.er.1.1.bf (by omega)
  refine cN<|tK<|cS<|cB 1<|qS d<|tI 0 K M.E.length 1 k k<|tC 1 (.slice C e.length D) (Calm.load (T:=32) (p:=(Addr.add K k)) (by kernel_rfl) (Loads.one (k:=1) (by kernel_rfl) ((md.er.1.1.ext f).cells _ _ F))) ?_
  refine sT [(5,.slice C e.length D)] fun a d=>rS d<|tG 2 (pQ _ e C D (s.1.1.ext f) (s.1.1.ext f).Fk kt (by omega)) ?_
  rintro _ N ⟨rfl,y⟩
  refine tF 3 (Does.newHs (L:=[cV e]) (t:=45) (E:=39) (db:=32) (n:=1) (by kernel_rfl) (by kernel_rfl) (aq.cons (dG _) aq.nil) rfl (by decide) (by decide)) ?_
  rintro _ O ⟨rfl,G⟩
  have H:Ext N O:=aT G
  have I:O[N.size]? =some (.cells (hcs [cV e]).toArray 39):=bj G
  clear G
  replace f:=f.ext y
  have g:=f.size
  replace c:=c.up y.size
  have i:=c
  replace c:=i.new g (aj I)
  clear i g
  replace b:=(b.ext y).ext H
  refine tP 4 (k+1) 32 (hcs (cP (M.E.take k)++[cV e])) b (hrow1 (dG _) I) (di _) (fun q j Q b r o=> ?_) (ys:=(hcs ([cV e]))) (hZ:=by first|rfl|exact(aX _ _).symm |simp[aX])
  replace f:=f.ext H
  have w:=c
  replace c:=c.sa r 1 o b f.size;clear o
  refine sE [(3,.slice q (k+1) j)] fun a d=>bK<|tK<|rS d<|tA 0 k 1<|sE [(11,nV (k+1))] fun a d=> ?_
  rw[nL J] at b
  clear I
  replace kt:=((kt.ext y).ext H).grew r (w.zero 1 rfl z)
  replace f:=f.grew r (w.l 1)
  replace c:=c.sub (l':=[q.map (·.block)]) (.cons _ (.cons_cons _ (.slnil)))
  show ∃m',m'<_∧_
  refine⟨_,?_,(k+1),q,j,rfl,f,kt,(by omega),b,c,d.to⟩
  omega
 ·refine cX 0 (xT (xT (xB ?_)))
  refine tK<|qP [(2,.slice ad k cap)] d fun a d=>cR<|rT 2 (.slice ad k cap) d ?_
  obtain rfl:k=M.E.length :=by omega
  rw[List.take_length] at b
  exact⟨ad,cap,rfl,b,c.low 0 rfl,f⟩
noncomputable def b35:Code:=Tryz.f35.body.getD .skip
theorem BK{h h2:Heap}{M:Md}{EV:bW→OA}{L D:List bW}(hg:∀x∈L,rR h M EV x)(hP:D.Perm L){r:Rec}(hr:r∈D.map (aJ EV)):nH h2 r:=by
 obtain⟨x,hx,rfl⟩:=List.mem_map.1 hr
 exact⟨[],rfl,(hg x (hP.mem_iff.1 hx)).rc.zero rfl,Nat.zero_le _⟩
set_option maxHeartbeats 1000000 in
theorem z1{W:Nat→Prop}(h:Heap)(mb mp:Nat)(M:Md)(L:List bW)(ck:Nat)(ea:Option Addr)(ec:Nat)(es:List Value)(md:bJ W h mb mp M L ck ea ec es)(hE:M.E.length ≤1099511627):Sat Tryz.prog 35 #[.pointer (some ⟨mb,0,none⟩),.bool false] h fun v h'=>∃ad cap,v= .slice ad (iW M).length cap∧Own h' (.slice ad (iW M).length cap) 9 (iW M).length 1 ((iW M).map Value.string)∧(∀k,ad.map (fun(x:Addr)=>x.block)=some k→h.size ≤k)∧Ext h h':=by
 have hm:=md.hm
 have hp:=md.hp
 obtain⟨c,hg⟩:=md.choose
 have a8:=md.ln
 have q:=Ext.refl h
 have f:Sep h.size h.size []:=Sep.nil _ _
 refine ag Tryz.func35 42 fun a j=>qP [] j fun a j=>qP [(5,.slice none 0 0)] j fun a j=>qP [(6,.slice none 0 0)] j fun a j=>cS<|qS j<|tO 3 0 (q.blk hm) ?_
 refine tF 4 (Does.range (t:=81) (k:=9) (el:=101) (by kernel_rfl) (by kernel_rfl) (q.blk hp)) ?_
 rintro _ h1 ⟨rfl,hh⟩
 have g:=aT hh
 have p:=bj hh
 have G:=q.size
 have P:=f
 replace q:=q.ext g
 replace f:=P.new G (aj p)
 clear P G hh g
 refine sT [(13,pV h.size)] fun a j=>cB 0 ?_
 have i:Own h1 (.slice none 0 0) 95 0 39 (a_ (([]:List bW).map (aJ c))):=Own.nil _ _ _
 have d:Own h1 (.slice none 0 0) 9 0 1 ((live (([]:List bW).map (aJ c))).map Value.string):=Own.nil _ _ _
 have G:=q.size
 replace f:=(f.none G).none G;clear G
 refine cL (fun m a h'=>∃D:List bW,∃R:List bW,∃ad:Option Addr,∃cap:Nat,∃w:Option Addr,∃s:Nat,m=R.length ∧(Ext h h')∧((D++R).Perm L)∧(h'[h.size]? =some (py mp ck D))∧(Own h' (.slice ad ((D.map (aJ c)).length) cap) 95 ((D.map (aJ c)).length) 39 (a_ (D.map (aJ c))))∧(Own h' (.slice w ((live (D.map (aJ c))).length) s) 9 ((live (D.map (aJ c))).length) 1 ((live (D.map (aJ c))).map Value.string))∧(Sep h.size h'.size [w.map (·.block),ad.map (·.block),some h.size])∧(Fr a 42 [(0,.pointer (some ⟨mb,0,none⟩)),(1,.bool false),(5,.slice ad ((D.map (aJ c)).length) cap),(6,.slice w ((live (D.map (aJ c))).length) s),(13,.pointer (some ⟨h.size,0,none⟩))])) (L.length) ⟨[],L,none,0,none,0,rfl,q,(List.Perm.refl _),p,i,d,f,j.to⟩ ?_
 clear j a
 clear q
 clear p
 clear i
 clear d
 clear f
 rintro m a h2 ⟨D,R,ad,cap,w,s,rfl,q,hP,p,i,d,f,j⟩
 refine cS ?_
 rcases(by cases R<;>simp:R=[]∨R≠[]) with hR|hR
 ·refine rS j<|tC 0 (.tuple #[.bool false]) (jA (by kernel_rfl) p (q.blk hp) hP md.bo hR)<|sE [(15,.bool false)] fun a j=>tK<|cS<|cF 15 j<|cX 0 (xT (xT (xB ?_)))
  refine tK<|cS<|qP [(32,.bool false)] j fun a j=>cF 32 j<|cN<|tK<|qS j ?_
  subst hR
  rw[List.append_nil] at hP
  have a2:=md.enum hg hP
  have a6:=hP.length_eq
  have X:=iy (D.map (aJ c))
  rw[List.length_map] at X
  refine tG 1 (u7 _ _ _ _ (live (D.map (aJ c))) d rfl (by omega)) ?_
  rintro _ h3 ⟨Q,g⟩
  replace q:=q.grew g (f.l 0)
  replace f:=f.up g.size
  clear d;have d:=Q;clear Q g
  refine sT [] fun a j=>qP [(4,.slice w ((live (D.map (aJ c))).length) s)] j fun a j=>cR<|rT 4 (.slice w ((live (D.map (aJ c))).length) s) j ?_
  rw[←ll a2] at d
  have a3:(live (D.map (aJ c))).length =(iW M).length :=by rw[ll a2];unfold gA;rw[List.length_mergeSort]
  rw[a3] at d
  exact⟨w,s,by rw[a3],d,f.low 0 rfl,q⟩
 ·refine rS j<|tF 0 (gV (by kernel_rfl) p (q.blk hp) hP md.bo hR) ?_
  rintro _ h4 ⟨x,R',Y,a9,a4,rfl,hh⟩
  obtain⟨S,gi⟩:=jB hh p
  replace q:=q.grew gi (f.l 2)
  replace d:=d.k gi (f.ap 0 2)
  replace i:=i.k gi (f.ap 1 2)
  replace p:=p
  replace f:=f.up gi.size
  clear p;have p:=S;clear S hh gi
  have a5:=hg x a4
  have a6:D.length <L.length :=by have:=Y.length_eq;simp at this;omega
  refine sE [(15,.bool true)] fun a j=>tK<|cS<|cT 15 j<|cN<|tK<|cB 1 ?_
  refine qS j<|tC 0 (.tuple #[.string x.1,.agg (dn ((aJ c x).b) ((aJ c x).e) ((aJ c x).ho) ((aJ c x).go) (.slice (aJ c x).ad ((aJ c x).n) ((aJ c x).cap)) (.slice (c x).ba ((c x).o.dt.length) ((c x).bc))).toArray]) (ma (by kernel_rfl) p (q.blk hp) a4 md.bo a5.hv)<|tN 3 (pV h4.size) ((dj (.slice none 0 0)).toArray) 101 fun h5 g6 J=> ?_
  replace f:=f.nw q.size J
  refine bt 5 (dn ((aJ c x).b) ((aJ c x).e) ((aJ c x).ho) ((aJ c x).go) (.slice (aJ c x).ad ((aJ c x).n) ((aJ c x).cap)) (.slice (c x).ba ((c x).o.dt.length) ((c x).bc))) J fun h8 Z zq=> ?_
  replace J:=zq
  refine sT [(7,.string x.1),(8,pV h4.size)] fun a j=>qS j<|tQ 2 0 (rc ((aJ c x).b) ((aJ c x).e) ((aJ c x).ho) ((aJ c x).go) (.slice (aJ c x).ad ((aJ c x).n) ((aJ c x).cap))) J<|tN 3 (.slice (some ⟨h8.size,0,none⟩) 1 1) ((a_ [(aJ c x)]).toArray) 95 fun b0 C K=> ?_
  replace q:=(q.ext g6).grew Z (f.l 0)
  replace f:=(f.up Z.size).nw q.size K
  replace i:=((i.ext g6).k Z (f.ap 3 1)).ext C
  refine tP 4 ((D.map (aJ c)++[(aJ c x)]).length) 104 (a_ (D.map (aJ c)++[(aJ c x)])) i (Row.blk (n:=1) (sz:=39) (l:=a_ [(aJ c x)]) K rfl) (eH _) (fun z F a7 i A T=> ?_) (ys:=(a_ ([(aJ c x)]))) (hl:=(by unfold maxLen;rw[List.length_map];omega)) (hb:=(by rw[List.length_map];omega)) (hZ:=by first|rfl|exact List.flatMap_append.symm |simp[a_])
  replace q:=q.ext C
  have u:=f
  replace f:=f.sa A 3 T i q.size;clear T
  rw[nK] at i
  refine sT [(5,.slice z ((D.map (aJ c)++[(aJ c x)]).length) F)] fun a j=> ?_
  have B:((D.map (aJ c)++[(aJ c x)]).length :Nat)=((D++[x]).map (aJ c)).length :=by first| (simp;done)| (simp;omega)
  rw[B] at j;clear B
  refine qS j ?_
  replace J:=(J.x C).y A (u.bp 1 3)
  refine tO 2 37 J<|sT [(27,.bool (!((aJ c x).go)))] fun a j=>cC 27 (!((aJ c x).go)) j (fun r=> ?_) (fun r=> ?_)
  ·replace r:(aJ c x).go =false:=by simpa using r
   refine rS j<|tN 2 (.slice (some ⟨a7.size,0,none⟩) 1 1) #[.string x.1] 9 fun b1 N a0=> ?_
   replace q:=q.grew A (u.l 3)
   replace f:=f.nw q.size a0
   have X:=iy (D.map (aJ c))
   rw[List.length_map] at X
   replace d:=((((d.ext g6).k Z (u.ap 2 1)).ext C).k A (u.ap 2 3)).ext N
   refine tP 3 ((live (D.map (aJ c))++[x.1]).length) 16 ((live (D.map (aJ c))++[x.1]).map Value.string) d (Row.blk (n:=1) (sz:=1) (l:=[x.1].map Value.string) a0 rfl) (fR _) (fun H I b2 d O U=> ?_) (ys:=(([x.1]).map Value.string))
   replace q:=q.ext N
   have a1:=f
   replace f:=f.sa O 3 U d q.size;clear U
   have V:live (D.map (aJ c))++[x.1]=live ((D++[x]).map (aJ c)):=by rw[tZ r,a5.id]
   rw[V] at d
   refine sE [(6,.slice H ((live (D.map (aJ c))++[x.1]).length) I)] fun a j=> ?_
   have B:((live (D.map (aJ c))++[x.1]).length :Nat)=(live ((D++[x]).map (aJ c))).length :=by first| (rw[←V])| (simp;done)| (simp;omega)
   rw[B] at j;clear B
   refine bK ?_
   clear J
   clear K
   clear a0
   replace p:=O.blk (N.blk (A.blk (C.blk (Z.blk (g6.blk p) (u.bp 4 1))) (u.bp 4 3))) (a1.bp 5 3)
   replace i:=(i.ext N).k O (a1.ap 4 3)
   replace q:=q.grew O (a1.l 3)
   replace f:=f.sub (l':=[H.map (·.block),z.map (·.block),some h.size]) (.cons _ (.cons _ (.cons _ (.cons_cons _ (.cons_cons _ (.cons_cons _ (.slnil)))))))
   show ∃m',m'<_∧_
   refine⟨_,?_,(D++[x]),R',z,F,H,I,rfl,q,Y,p,i,d,f,j.to⟩
   omega
  ·replace r:(aJ c x).go =true:=by simpa using r
   replace d:=(((d.ext g6).k Z (u.ap 2 1)).ext C).k A (u.ap 2 3)
   rw[←lp r] at d
   rw[←lp r] at j
   refine cN<|bK ?_
   clear J
   clear K
   replace p:=A.blk (C.blk (Z.blk (g6.blk p) (u.bp 4 1))) (u.bp 4 3)
   replace q:=q.grew A (u.l 3)
   replace f:=f.sub (l':=[w.map (·.block),z.map (·.block),some h.size]) (.cons _ (.cons _ (.cons_cons _ (.cons_cons _ (.cons_cons _ (.slnil))))))
   show ∃m',m'<_∧_
   refine⟨_,?_,(D++[x]),R',z,F,w,s,rfl,q,Y,p,i,d,f,j.to⟩
   omega
set_option maxHeartbeats 1000000 in
theorem z6{W:Nat→Prop}(h:Heap)(mb mp:Nat)(M:Md)(L:List bW)(ck:Nat)(ea:Option Addr)(ec:Nat)(es:List Value)(md:bJ W h mb mp M L ck ea ec es)(hE:M.E.length ≤1099511627):Sat Tryz.prog 35 #[.pointer (some ⟨mb,0,none⟩),.bool true] h fun v h'=>∃ad cap,v= .slice ad (eZ M).length cap∧Own h' (.slice ad (eZ M).length cap) 9 (eZ M).length 1 ((eZ M).map Value.string)∧(∀k,ad.map (fun(x:Addr)=>x.block)=some k→h.size ≤k)∧Ext h h':=by
 have hm:=md.hm
 have hp:=md.hp
 obtain⟨c,hg⟩:=md.choose
 have b8:=md.ln
 have j:=Ext.refl h
 have i:Sep h.size h.size []:=Sep.nil _ _
 refine ag Tryz.func35 42 fun a p=>qP [] p fun a p=>qP [(5,.slice none 0 0)] p fun a p=>qP [(6,.slice none 0 0)] p fun a p=>cS<|qS p<|tO 3 0 (j.blk hm) ?_
 refine tF 4 (Does.range (t:=81) (k:=9) (el:=101) (by kernel_rfl) (by kernel_rfl) (j.blk hp)) ?_
 rintro _ h1 ⟨rfl,hh⟩
 have g:=aT hh
 have q:=bj hh
 have H:=j.size
 have U:=i
 replace j:=j.ext g
 replace i:=U.new H (aj q)
 clear U H hh g
 refine sT [(13,pV h.size)] fun a p=>cB 0 ?_
 have d:Own h1 (.slice none 0 0) 95 0 39 (a_ (([]:List bW).map (aJ c))):=Own.nil _ _ _
 have f:Own h1 (.slice none 0 0) 9 0 1 ((live (([]:List bW).map (aJ c))).map Value.string):=Own.nil _ _ _
 have H:=j.size
 replace i:=(i.none H).none H;clear H
 refine cL (fun m a h'=>∃D:List bW,∃R:List bW,∃ad:Option Addr,∃cap:Nat,∃I:Option Addr,∃G:Nat,m=R.length ∧(Ext h h')∧((D++R).Perm L)∧(h'[h.size]? =some (py mp ck D))∧(Own h' (.slice ad ((D.map (aJ c)).length) cap) 95 ((D.map (aJ c)).length) 39 (a_ (D.map (aJ c))))∧(Own h' (.slice I ((live (D.map (aJ c))).length) G) 9 ((live (D.map (aJ c))).length) 1 ((live (D.map (aJ c))).map Value.string))∧(Sep h.size h'.size [I.map (·.block),ad.map (·.block),some h.size])∧(Fr a 42 [(0,.pointer (some ⟨mb,0,none⟩)),(1,.bool true),(5,.slice ad ((D.map (aJ c)).length) cap),(6,.slice I ((live (D.map (aJ c))).length) G),(13,.pointer (some ⟨h.size,0,none⟩))])) (L.length) ⟨[],L,none,0,none,0,rfl,j,(List.Perm.refl _),q,d,f,i,p.to⟩ ?_
 clear p a
 clear j
 clear q
 clear d
 clear f
 clear i
 rintro m a h2 ⟨D,R,ad,cap,I,G,rfl,j,hP,q,d,f,i,p⟩
 refine cS ?_
 rcases(by cases R<;>simp:R=[]∨R≠[]) with hR|hR
 ·refine rS p<|tC 0 (.tuple #[.bool false]) (jA (by kernel_rfl) q (j.blk hp) hP md.bo hR)<|sE [(15,.bool false)] fun a p=>tK<|cS<|cF 15 p<|cX 0 (xT (xT (xB ?_)))
  refine tK<|cS<|qP [(32,.bool true)] p fun a p=>cT 32 p<|qS p<|tO 4 2 (j.blk hm) ?_
  subst hR
  rw[List.append_nil] at hP
  have a9:=md.enum hg hP
  have b0:=hP.length_eq
  have a0:=iy (D.map (aJ c))
  rw[List.length_map] at a0
  have b1:=j.size
  refine tG 5 (zZ _ (D.map (aJ c)) _ _ M.t 1099511627776 vA d.row (by rw[List.length_map];omega) (fun r hr=>BK hg hP hr) (Nat.le_trans (List.length_filter_le _ _) (by rw[List.length_map];omega))) ?_
  rintro _ h5 ⟨M2,a1,J,b2,b3,rfl,K,b5,g⟩
  replace j:=j.ext g
  refine sT [(4,.slice a1 M2.length J)] fun a p=>cR (yT ?_)
  refine rT 4 (.slice a1 M2.length J) p ?_
  have a5:=tS a9 b2 b3
  have a6:M2.length =(eZ M).length :=by rw[a5];unfold ids;rw[List.length_map]
  rw[a6,←a5] at K
  exact⟨a1,J,by rw[a6],K,fun k e=>Nat.le_trans b1 (b5 k e),j⟩
 ·refine rS p<|tF 0 (gV (by kernel_rfl) q (j.blk hp) hP md.bo hR) ?_
  rintro _ h6 ⟨x,R',a2,c0,a7,rfl,hh⟩
  obtain⟨V,gi⟩:=jB hh q
  replace j:=j.grew gi (i.l 2)
  replace f:=f.k gi (i.ap 0 2)
  replace d:=d.k gi (i.ap 1 2)
  replace q:=q
  replace i:=i.up gi.size
  clear q;have q:=V;clear V hh gi
  have a8:=hg x a7
  have b0:D.length <L.length :=by have:=a2.length_eq;simp at this;omega
  refine sE [(15,.bool true)] fun a p=>tK<|cS<|cT 15 p<|cN<|tK<|cB 1 ?_
  refine qS p<|tC 0 (.tuple #[.string x.1,.agg (dn ((aJ c x).b) ((aJ c x).e) ((aJ c x).ho) ((aJ c x).go) (.slice (aJ c x).ad ((aJ c x).n) ((aJ c x).cap)) (.slice (c x).ba ((c x).o.dt.length) ((c x).bc))).toArray]) (ma (by kernel_rfl) q (j.blk hp) a7 md.bo a8.hv)<|tN 3 (pV h6.size) ((dj (.slice none 0 0)).toArray) 101 fun h7 g8 P=> ?_
  replace i:=i.nw j.size P
  refine bt 5 (dn ((aJ c x).b) ((aJ c x).e) ((aJ c x).ho) ((aJ c x).go) (.slice (aJ c x).ad ((aJ c x).n) ((aJ c x).cap)) (.slice (c x).ba ((c x).o.dt.length) ((c x).bc))) P fun b6 B zq=> ?_
  replace P:=zq
  refine sT [(7,.string x.1),(8,pV h6.size)] fun a p=>qS p<|tQ 2 0 (rc ((aJ c x).b) ((aJ c x).e) ((aJ c x).ho) ((aJ c x).go) (.slice (aJ c x).ad ((aJ c x).n) ((aJ c x).cap))) P<|tN 3 (.slice (some ⟨b6.size,0,none⟩) 1 1) ((a_ [(aJ c x)]).toArray) 95 fun c1 C Q=> ?_
  replace j:=(j.ext g8).grew B (i.l 0)
  replace i:=(i.up B.size).nw j.size Q
  replace d:=((d.ext g8).k B (i.ap 3 1)).ext C
  refine tP 4 ((D.map (aJ c)++[(aJ c x)]).length) 104 (a_ (D.map (aJ c)++[(aJ c x)])) d (Row.blk (n:=1) (sz:=39) (l:=a_ [(aJ c x)]) Q rfl) (eH _) (fun w F b7 d z X=> ?_) (ys:=(a_ ([(aJ c x)]))) (hl:=(by unfold maxLen;rw[List.length_map];omega)) (hb:=(by rw[List.length_map];omega)) (hZ:=by first|rfl|exact List.flatMap_append.symm |simp[a_])
  replace j:=j.ext C
  have u:=i
  replace i:=i.sa z 3 X d j.size;clear X
  rw[nK] at d
  refine sT [(5,.slice w ((D.map (aJ c)++[(aJ c x)]).length) F)] fun a p=> ?_
  have A:((D.map (aJ c)++[(aJ c x)]).length :Nat)=((D++[x]).map (aJ c)).length :=by first| (simp;done)| (simp;omega)
  rw[A] at p;clear A
  refine qS p ?_
  replace P:=(P.x C).y z (u.bp 1 3)
  refine tO 2 37 P<|sT [(27,.bool (!((aJ c x).go)))] fun a p=>cC 27 (!((aJ c x).go)) p (fun s=> ?_) (fun s=> ?_)
  ·replace s:(aJ c x).go =false:=by simpa using s
   refine rS p<|tN 2 (.slice (some ⟨b7.size,0,none⟩) 1 1) #[.string x.1] 9 fun c2 S a3=> ?_
   replace j:=j.grew z (u.l 3)
   replace i:=i.nw j.size a3
   have a0:=iy (D.map (aJ c))
   rw[List.length_map] at a0
   replace f:=((((f.ext g8).k B (u.ap 2 1)).ext C).k z (u.ap 2 3)).ext S
   refine tP 3 ((live (D.map (aJ c))++[x.1]).length) 16 ((live (D.map (aJ c))++[x.1]).map Value.string) f (Row.blk (n:=1) (sz:=1) (l:=[x.1].map Value.string) a3 rfl) (fR _) (fun N O c3 f T Y=> ?_) (ys:=(([x.1]).map Value.string))
   replace j:=j.ext S
   have a4:=i
   replace i:=i.sa T 3 Y f j.size;clear Y
   have Z:live (D.map (aJ c))++[x.1]=live ((D++[x]).map (aJ c)):=by rw[tZ s,a8.id]
   rw[Z] at f
   refine sE [(6,.slice N ((live (D.map (aJ c))++[x.1]).length) O)] fun a p=> ?_
   have A:((live (D.map (aJ c))++[x.1]).length :Nat)=(live ((D++[x]).map (aJ c))).length :=by first| (rw[←Z])| (simp;done)| (simp;omega)
   rw[A] at p;clear A
   refine bK ?_
   clear P
   clear Q
   clear a3
   replace q:=T.blk (S.blk (z.blk (C.blk (B.blk (g8.blk q) (u.bp 4 1))) (u.bp 4 3))) (a4.bp 5 3)
   replace d:=(d.ext S).k T (a4.ap 4 3)
   replace j:=j.grew T (a4.l 3)
   replace i:=i.sub (l':=[N.map (·.block),w.map (·.block),some h.size]) (.cons _ (.cons _ (.cons _ (.cons_cons _ (.cons_cons _ (.cons_cons _ (.slnil)))))))
   show ∃m',m'<_∧_
   refine⟨_,?_,(D++[x]),R',w,F,N,O,rfl,j,a2,q,d,f,i,p.to⟩
   omega
  ·replace s:(aJ c x).go =true:=by simpa using s
   replace f:=(((f.ext g8).k B (u.ap 2 1)).ext C).k z (u.ap 2 3)
   rw[←lp s] at f
   rw[←lp s] at p
   refine cN<|bK ?_
   clear P
   clear Q
   replace q:=z.blk (C.blk (B.blk (g8.blk q) (u.bp 4 1))) (u.bp 4 3)
   replace j:=j.grew z (u.l 3)
   replace i:=i.sub (l':=[I.map (·.block),w.map (·.block),some h.size]) (.cons _ (.cons _ (.cons_cons _ (.cons_cons _ (.cons_cons _ (.slnil))))))
   show ∃m',m'<_∧_
   refine⟨_,?_,(D++[x]),R',w,F,I,G,rfl,j,a2,q,d,f,i,p.to⟩
   omega
noncomputable def b45:Code:=Tryz.f45.body.getD .skip
theorem ft(h:Heap)(x:RB)(e:Int)(ho go:Bool)(c d:Value):Sat Tryz.prog 45 #[.agg (dn x e ho go (c) (d)).toArray] h fun v h'=>v= .agg (wa x e ho go).toArray ∧Ext h h':=by
 have g:=Ext.refl h
 have b:Sep h.size h.size []:=Sep.nil _ _
 refine ag Tryz.func45 22 fun a i=>qS i<|tN 0 (pV h.size) ((dn x e ho go (c) (d)).toArray) 101 fun k n f=> ?_
 replace b:=b.nw g.size f
 refine tN 1 (pV k.size) ((wa dF 0 false false).toArray) 41 fun q m j=> ?_
 replace g:=g.ext n
 replace b:=b.nw g.size j
 refine sT [(1,pV h.size),(2,pV k.size)] fun a i=>qS i ?_
 replace f:=f.x m
 refine tO 2 1 f<|tQ 5 2 ((hl x).map bv) f<|tO 8 34 f<|tO 11 35 f<|tO 14 36 f<|tO 17 37 f<|bt 19 (wa x e ho go) j fun r o p=> ?_
 replace j:=p
 refine sT [] fun a i=>cR<|rB j i ?_
 replace g:=(g.ext m).grew o (b.l 0)
 exact⟨rfl,g⟩
theorem z7(h:Heap)(L:List Hs)(va:Option Addr)(vc n:Nat)(hL:HR h va vc n L)(hn:n≤1099511627000)(i:Int)(kt:bq h)(p:List Hs)(e:Int)(hz:cO L i=(p,e)):Sat Tryz.prog 71 #[.slice va n vc,.int .i64 i] h fun v h'=>∃ad cap,v= .tuple #[.slice ad p.length cap,.int .i64 e]∧Own h' (.slice ad p.length cap) 39 p.length 32 (hcs p)∧(∀k,ad.map (fun(x:Addr)=>x.block)=some k→h.size ≤k)∧Ext h h':=
 (vh h L va vc n hL hn i kt).mono fun v h' ⟨s,hv,ad,cap,hs,o,hge,g⟩=>by
  rw[hz] at hv hs o
  subst hs
  exact⟨ad,cap,hv,o,hge,g⟩
theorem z8(h:Heap)(L:List Hs)(va:Option Addr)(vc n:Nat)(hL:HR h va vc n L)(hn:n≤1099511627000)(kt:bq h):Sat Tryz.prog 36 #[.slice va n vc] h fun v h'=>v= .agg ((hl (pN (root L))).map bv).toArray ∧Ext h h':=by
 rw[l_ (bg hL.2.1)];exact iA h L va vc n hL kt hn
noncomputable def b34:Code:=Tryz.f34.body.getD .skip
set_option maxHeartbeats 1000000 in
theorem z_{W:Nat→Prop}(h:Heap)(mb mp:Nat)(M:Md)(L:List bW)(ck:Nat)(ea:Option Addr)(ec:Nat)(es:List Value)(md:bJ W h mb mp M L ck ea ec es)(kd n:Int)(s:ByteArray)(oa:Option Addr)(on oc:Nat)(ka:Option Addr)(kn kc:Nat)(hsz:s.size ≤9223372036854775807)(kt:bq h)(hE:M.E.length ≤1099511627):Sat Tryz.prog 34 #[.pointer (some ⟨mb,0,none⟩),.agg #[.int .i64 kd,.string s,.slice oa on oc,.int .i64 n,.slice ka kn kc]] h fun v h'=>oN W h.size h' mb mp M v (dm M kd s)∧Ext h h':=by
 have hp:=md.hp
 have g:=Ext.refl h
 have a1:=kt.lt
 have c:Sep h.size h.size []:=Sep.nil _ _
 refine ag Tryz.func34 59 fun a d=>qS d<|tN 0 (pV h.size) #[.int .i64 kd,.string s,.slice oa on oc,.int .i64 n,.slice ka kn kc] 35 fun h1 g2 G=> ?_
 replace c:=c.nw g.size G
 refine tN 1 (pV h1.size) ((bY 0).toArray) 47 fun h4 V i=> ?_
 replace g:=g.ext g2
 replace c:=c.nw g.size i
 refine sT [(3,pV h.size),(4,pV h1.size)] fun a d=>cS ?_
 rcases md.kv s with u|⟨u,X,c0⟩|⟨u,A,x,B,o,rfl,hs,X,d3,d4,ca,cc,ba,bc,hv,r1,r2⟩
 ·refine rS d ?_
  replace G:=G.x V
  refine tO 2 1 G ?_
  replace g:=g.ext V
  refine tG 3 (ui _ mb mp M _ ck ea ec es (md.ext g) s hsz u) ?_
  rintro _ h8 ⟨rfl,g7⟩
  refine tN 7 (pV h8.size) ((dj (.slice none 0 0)).toArray) 101 fun h9 a2 a3=> ?_
  replace g:=g.ext g7
  replace c:=(c.up g7.size).nw g.size a3
  refine bt 8 (dj (.slice none 0 0)) a3 fun d5 a4 m=>sE [(5,pV h8.size),(6,.int .i64 210)] fun a d=>tK<|cS<|cB 0<|qP [(14,.bool true)] d fun a d=>cT 14 d ?_
  refine rS d ?_
  replace i:=((i.x g7).x a2).y a4 (c.bp 1 0)
  refine tV 2 0 [.int .i64 210] (bY 210) i fun d6 c1 m=> ?_
  replace i:=m
  refine sE [] fun a d=>bK<|tK<|qS d<|tR 0 i<|bt 1 (bY 210) i fun d7 c2 m=> ?_
  replace i:=m
  refine sT [] fun a d=>cR<|rB i d ?_
  replace g:=(((g.ext a2).grew a4 (c.l 0)).grew c1 (c.l 1)).grew c2 (c.l 1)
  rw[t_ u];exact⟨gh md g 210,g⟩
 ·refine rS d ?_
  replace G:=G.x V
  refine tO 2 1 G ?_
  replace g:=g.ext V
  refine tG 3 (nT _ mb mp M _ ck ea ec es (md.ext g) s c0 u) ?_
  rintro _ a5 ⟨rfl,Y⟩
  refine tN 7 (pV a5.size) ((dj (.slice none 0 0)).toArray) 101 fun d8 a6 a7=> ?_
  replace g:=g.ext Y
  replace c:=(c.up Y.size).nw g.size a7
  refine bt 8 (dj (.slice none 0 0)) a7 fun d9 a8 m=>sE [(5,pV a5.size),(6,.int .i64 211)] fun a d=>tK<|cS<|cB 0<|qP [(14,.bool true)] d fun a d=>cT 14 d ?_
  refine rS d ?_
  replace i:=((i.x Y).x a6).y a8 (c.bp 1 0)
  refine tV 2 0 [.int .i64 211] (bY 211) i fun e1 c3 m=> ?_
  replace i:=m
  refine sE [] fun a d=>bK<|tK<|qS d<|tR 0 i<|bt 1 (bY 211) i fun e2 c4 m=> ?_
  replace i:=m
  refine sT [] fun a d=>cR<|rB i d ?_
  replace g:=(((g.ext a6).grew a8 (c.l 0)).grew c3 (c.l 1)).grew c4 (c.l 1)
  rw[kA u X];exact⟨gh md g 211,g⟩
 ·refine rS d ?_
  replace G:=G.x V
  refine tO 2 1 G ?_
  replace g:=g.ext V
  refine tG 3 (qp _ mb mp M _ ck ea ec es (md.ext g) s x (List.mem_append_right _ (List.mem_cons_self ..)) hs o ca cc ba bc hv u) ?_
  rintro _ K ⟨rfl,C⟩
  refine tN 7 (pV K.size) ((dj (.slice none 0 0)).toArray) 101 fun e3 w r=> ?_
  replace g:=g.ext C
  replace c:=(c.up C.size).nw g.size r
  refine bt 8 (dn o.b o.e o.ho o.go (.slice ca 0 cc) (.slice ba o.dt.length bc)) r fun e4 q m=> ?_
  replace r:=m
  refine sE [(5,pV K.size),(6,.int .i64 0)] fun a d=>tK<|cS<|cB 0<|qP [(14,.bool false)] d fun a d=>cF 14 d<|qS d ?_
  replace G:=((G.x C).x w).y q (c.bp 2 0)
  refine tO 1 0 G<|sT [(19,.bool (decide (kd=(3:Int))))] fun a d=>cJ 19 d (fun I=> ?_) fun I=> ?_
  ·refine rS d<|tR 0 r<|tG 1 (ft _ o.b o.e o.ho o.go (.slice ca 0 cc) (.slice ba o.dt.length bc)) ?_
   rintro _ e5 ⟨rfl,a9⟩
   replace i:=(((i.x C).x w).y q (c.bp 1 0)).x a9
   refine tV 3 2 (wa o.b o.e o.ho o.go) (bb (0:Int) (.slice none 0 0) o.b o.e o.ho o.go (.slice none 0 0) (0:Int) dF (0:Int) (.slice none 0 0)) i fun e6 c5 m=> ?_
   replace i:=m
   refine sE [] fun a d=>bK<|tK<|qS d<|tR 0 i<|bt 1 (bb (0:Int) (.slice none 0 0) o.b o.e o.ho o.go (.slice none 0 0) (0:Int) dF (0:Int) (.slice none 0 0)) i fun e7 c6 m=> ?_
   replace i:=m
   refine sT [] fun a d=>cR<|rB i d ?_
   replace g:=((((g.ext w).grew q (c.l 0)).ext a9).grew c5 (c.l 1)).grew c6 (c.l 1)
   rw[nO u X I];exact⟨iB md g rfl (Own.nil _ _ _) fB (Own.nil _ _ _) fB (Own.nil _ _ _) fB aq.nil,g⟩
  ·refine qS d<|tO 1 0 G<|sT [(26,.bool (decide (kd=(16:Int))))] fun a d=>cJ 26 d (fun J=> ?_) fun J=> ?_
   ·refine qS d<|tO 2 34 r ?_
    replace i:=((i.x C).x w).y q (c.bp 1 0)
    refine tV 4 73 [.int .i64 o.b.idx] (bb (0:Int) (.slice none 0 0) dF 0 false false (.slice none 0 0) (0:Int) dF o.b.idx (.slice none 0 0)) i fun e8 S m=> ?_
    replace i:=m
    refine sT [] fun a d=>cD [0,1,0,4,12,31,63,127,127,255,767,2047,4095] 8 mixed d<|mP 13 [0,2,3] [pV mb,pV K.size,.pointer (some ⟨K.size,34,none⟩)] ?_
    replace r:=r.y S (c.bp 0 1)
    refine mO 29 16 4 34 (.int .i64 o.b.idx) r ?_
    replace kt:=(((((kt.ext g2).ext V).ext C).ext w).grew q (c.zero 0 rfl a1)).grew S (c.zero 1 rfl a1)
    replace g:=((g.ext w).grew q (c.l 0)).grew S (c.l 1)
    refine gD 31 3 1 [4] (Does.call (f:=37) (args:= #[.pointer (some ⟨mb,0,none⟩)]) (by kernel_rfl) (mm _ mb mp M _ ck ea ec es (md.ext g) kt hE)) ?_
    rintro _ e9 ⟨d2,c7,rfl,N,b0,O⟩
    replace c:=((c.up q.size).up S.size).co O b0 N g.size
    replace r:=r.x O
    refine⟨?_,?_⟩
    ·intro j hj
     simp only[List.mem_cons,List.not_mem_nil,or_false] at hj
     subst hj
     exact aE (Calm.load (T:=3) (p:=⟨K.size,34,none⟩) (by kernel_rfl) (Loads.one (k:=1) (by kernel_rfl) ((an r).trans (rfl))))
    obtain⟨p,e,hz⟩:∃p e,cO (cP M.E) o.b.idx =(p,e):=⟨_,_,rfl⟩
    replace kt:=kt.ext O
    refine gC 63 63 5 (z7 _ (cP M.E) _ _ M.E.length (HR.of N (iz _)) (by omega) o.b.idx kt p e hz) ?_
    rintro _ f0 ⟨z,t,rfl,D,b1,Z⟩
    replace g:=g.ext O
    replace c:=c.co Z b1 D g.size
    refine mP 1023 [6,7,8,9] [.tuple #[.slice z p.length t,.int .i64 e],.slice z p.length t,.int .i64 e,.pointer (some ⟨h1.size,74,none⟩)] ?_
    replace i:=(i.x O).x Z
    refine mV 2047 1791 10 74 [.slice z p.length t] (bb (0:Int) (.slice none 0 0) dF 0 false false (.slice none 0 0) (0:Int) dF o.b.idx (.slice z p.length t)) i fun f1 b2 m=> ?_
    replace i:=m
    refine mP 4095 [11] [pV h1.size]<|mV 8191 8191 12 0 [.int .i64 e] (bb e (.slice none 0 0) dF 0 false false (.slice none 0 0) (0:Int) dF o.b.idx (.slice z p.length t)) i fun f2 b3 m=> ?_
    replace i:=m
    refine mE [] fun a d=>bK<|tK<|qS d<|tR 0 i<|bt 1 (bb e (.slice none 0 0) dF 0 false false (.slice none 0 0) (0:Int) dF o.b.idx (.slice z p.length t)) i fun f3 b5 m=> ?_
    replace i:=m
    refine sT [] fun a d=>cR<|rB i d ?_
    have c8:(cO (cP M.E) o.b.idx).1 =p:=by rw[hz]
    replace g:=(((g.ext Z).grew b2 (c.l 3)).grew b3 (c.l 3)).grew b5 (c.l 3)
    replace D:=((D.k b2 (c.ap 0 3)).k b3 (c.ap 0 3)).k b5 (c.ap 0 3)
    rw[mc u X J hz];exact⟨iB md g rfl (Own.nil _ _ _) fB (Own.nil _ _ _) fB D (c.low 0 rfl) (c8▸pF (iz _) _),g⟩
   ·refine qS d<|tO 2 37 r<|sT [(45,.bool o.go)] fun a d=>cC 45 o.go d (fun P=> ?_) (fun P=> ?_)
    ·have U:=P
     refine rS d ?_
     replace i:=((i.x C).x w).y q (c.bp 1 0)
     refine tV 1 0 [.int .i64 213] (bY 213) i fun f4 c9 m=> ?_
     replace i:=m
     refine sE [] fun a d=>bK<|tK<|qS d<|tR 0 i<|bt 1 (bY 213) i fun f5 d0 m=> ?_
     replace i:=m
     refine sT [] fun a d=>cR<|rB i d ?_
     replace g:=(((g.ext w).grew q (c.l 0)).grew c9 (c.l 1)).grew d0 (c.l 1)
     rw[nP u X I J U];exact⟨gh md g 213,g⟩
    ·have U:=P
     refine qS d<|tO 1 0 G<|sT [(50,.bool (decide (kd=(2:Int))))] fun a d=>cJ 50 d (fun Q=> ?_) fun Q=> ?_
     ·refine rS d<|tO 1 39 r ?_
      replace g:=(g.ext w).grew q (c.l 0)
      refine tG 2 (fq _ o.dt o.dt.length ba bc (r2.ext g).1.1 (by omega)) ?_
      rintro _ f6 ⟨R,H,rfl,F,b6,a0⟩
      replace c:=(c.up q.size).co a0 b6 F g.size
      replace i:=(((i.x C).x w).y q (c.bp 2 1)).x a0
      refine tV 4 1 [.slice R o.dt.length H] (bb (0:Int) (.slice R o.dt.length H) dF 0 false false (.slice none 0 0) (0:Int) dF (0:Int) (.slice none 0 0)) i fun f7 b7 m=> ?_
      replace i:=m
      refine sE [] fun a d=>bK<|tK<|qS d<|tR 0 i<|bt 1 (bb (0:Int) (.slice R o.dt.length H) dF 0 false false (.slice none 0 0) (0:Int) dF (0:Int) (.slice none 0 0)) i fun f8 b8 m=> ?_
      replace i:=m
      refine sT [] fun a d=>cR<|rB i d ?_
      replace g:=((g.ext a0).grew b7 (c.l 2)).grew b8 (c.l 2)
      replace F:=(F.k b7 (c.ap 0 2)).k b8 (c.ap 0 2)
      rw[me u X Q U];exact⟨iB md g rfl F (c.low 0 rfl) (Own.nil _ _ _) fB (Own.nil _ _ _) fB aq.nil,g⟩
     ·refine cN<|bK<|tK<|qS d ?_
      replace i:=((i.x C).x w).y q (c.bp 1 0)
      refine tR 0 i<|bt 1 (bY 0) i fun f9 d1 m=> ?_
      replace i:=m
      refine sT [] fun a d=>cR<|rB i d ?_
      replace g:=((g.ext w).grew q (c.l 0)).grew d1 (c.l 1)
      rw[nQ u X I J Q U];exact⟨gh md g 0,g⟩
noncomputable def b17:Code:=Tryz.f17.body.getD .skip
theorem uu{W:Nat→Prop}(h:Heap)(mb mp:Nat)(M:Md)(L:List bW)(ck:Nat)(ea:Option Addr)(ec:Nat)(es:List Value)(md:bJ W h mb mp M L ck ea ec es)(kd n:Int)(s:ByteArray)(oa:Option Addr)(on oc:Nat)(ka:Option Addr)(kn kc:Nat)(hsz:s.size ≤9223372036854775807)(kt:bq h)(hE:M.E.length ≤1099511627)(A:An)(hA:dm M kd s=A):Sat Tryz.prog 34 #[.pointer (some ⟨mb,0,none⟩),.agg #[.int .i64 kd,.string s,.slice oa on oc,.int .i64 n,.slice ka kn kc]] h fun v h'=>∃qa qc ia ic pa pc,v=pX A (.slice qa A.b.length qc) (.slice ia A.i.length ic) (.slice pa A.p.length pc)∧Own h' (.slice qa A.b.length qc) 5 A.b.length 1 (A.b.map bv)∧Own h' (.slice ia A.i.length ic) 9 A.i.length 1 (A.i.map Value.string)∧Own h' (.slice pa A.p.length pc) 39 A.p.length 32 (hcs A.p)∧aq A.p ∧(∀k,AF qa ia pa k→h.size ≤k)∧eY (fun k=>W k∨AF qa ia pa k) h' mb mp M∧Ext h h':=by
 subst hA
 exact(z_ h mb mp M L ck ea ec es md kd n s oa on oc ka kn kc hsz kt hE).mono fun v h' ⟨⟨qa,qc,ia,ic,pa,pc,e,r1,r2,r3,r4,r5,r6⟩,g⟩=>⟨qa,qc,ia,ic,pa,pc,e,r1,r2,r3,r4,r5,r6,g⟩
set_option maxHeartbeats 2000000 in
theorem D8{W:Nat→Prop}(h:Heap)(mb mp:Nat)(M:Md)(L:List bW)(ck:Nat)(ea:Option Addr)(ec:Nat)(es:List Value)(md:bJ W h mb mp M L ck ea ec es)(hW:∀k,W k→k<h.size)(kd n:Int)(s:ByteArray)(l:List UInt8)(oa:Option Addr)(oc:Nat)(ka:Option Addr)(kn kc:Nat)(hr:Row h (.slice oa l.length oc) l.length 1 (l.map bv))(hsz:s.size ≤9223372036854775807)(kt:bq h)(hE:M.E.length ≤1099511627):Sat Tryz.prog 17 #[.pointer (some ⟨mb,0,none⟩),.agg #[.int .i64 kd,.string s,.slice oa l.length oc,.int .i64 n,.slice ka kn kc]] h fun v h'=>oN W h.size h' mb mp (step M kd n s l).1 v (step M kd n s l).2 ∧MG mb mp h h':=by
 have hm:=md.hm
 have hp:=md.hp
 have o:=Ext.refl h
 have r:Sep h.size h.size []:=Sep.nil _ _
 refine ag Tryz.func17 78 fun a d=>qS d<|tN 0 (pV h.size) #[.int .i64 kd,.string s,.slice oa l.length oc,.int .i64 n,.slice ka kn kc] 35 fun h1 g2 F=> ?_
 have i2:=aj F
 replace r:=r.nw o.size F
 refine tN 1 (pV h1.size) ((bY 0).toArray) 47 fun h6 C m=> ?_
 replace o:=o.ext g2
 have g6:=o.size
 replace r:=r.nw o.size m
 refine sT [(3,pV h.size),(4,pV h1.size)] fun a d=>cS<|qS d ?_
 replace F:=F.x C
 refine tO 1 0 F<|sT [(6,.int .i64 kd)] fun a d=>cB 0<|qP [(8,.bool (decide (kd=(1:Int))))] d fun a d=>cJ 8 d (fun a4=> ?_) fun a4=> ?_
 ·refine rS d<|tO 2 1 F<|tO 4 2 F ?_
  replace kt:=(kt.ext g2).ext C
  replace o:=o.ext C
  refine tG 5 (zY _ mb mp M L ck ea ec es (md.ext o) (fun k hk=>Nat.lt_of_lt_of_le (hW k hk) o.size) s hsz l oa oc (hr.ext o) kt hE) ?_
  rintro _ f7 ⟨rfl,q,O⟩
  have D:MG mb mp h f7:=(MG.aI o).trans O
  have G:=aj hm;have a2:=aj hp
  replace m:=O.blk m (by omega) (by omega)
  refine tV 7 0 [.int .i64 ((du M s l).2)] (bY ((du M s l).2)) m fun i3 d0 u=> ?_
  replace q:=q.aM d0 m (by decide) (by omega)
  replace m:=u
  refine sE [] fun a d=>bK<|tK<|qS d<|tR 0 m<|bt 1 (bY ((du M s l).2)) m fun i4 d1 u=> ?_
  replace q:=q.aM d1 m (by decide) (by omega)
  replace m:=u
  refine sT [] fun a d=>cR<|rB m d ?_
  replace D:=(D.nJ d0 (fun x e=>by cases e;omega)).nJ d1 (fun x e=>by cases e;omega)
  rw[gW a4];exact⟨ky q _,D⟩
 ·refine cS<|qP [(17,.bool (decide (kd=(4:Int))))] d fun a d=>cJ 17 d (fun a5=> ?_) fun a5=> ?_
  ·refine cN<|tK<|cJ 17 d (fun a6=> ?_) fun a6=>absurd a5 a6
   refine rS d<|tR 1 F ?_
   replace o:=o.ext C
   refine tG 2 (iY _ mb mp M L ck ea ec es (md.ext o) kd n s oa l.length oc ka kn kc hsz) ?_
   rintro _ f8 ⟨rfl,q,O⟩
   have D:MG mb mp h f8:=(MG.aI o).trans O
   have G:=aj hm;have a2:=aj hp
   replace m:=O.blk m (by omega) (by omega)
   refine tV 4 0 [.int .i64 ((fL M kd n s).2)] (bY ((fL M kd n s).2)) m fun i5 d2 u=> ?_
   replace q:=q.aM d2 m (by decide) (by omega)
   replace m:=u
   refine sE [] fun a d=>bK<|tK<|qS d<|tR 0 m<|bt 1 (bY ((fL M kd n s).2)) m fun i6 d3 u=> ?_
   replace q:=q.aM d3 m (by decide) (by omega)
   replace m:=u
   refine sT [] fun a d=>cR<|rB m d ?_
   replace D:=(D.nJ d2 (fun x e=>by cases e;omega)).nJ d3 (fun x e=>by cases e;omega)
   rw[fp (by omega)];exact⟨ky q _,D⟩
  ·refine qP [(17,.bool (decide (kd=(5:Int))))] d fun a d=>cJ 17 d (fun a7=> ?_) fun a7=> ?_
   ·refine cN<|tK<|cJ 17 d (fun a8=> ?_) fun a8=>absurd a7 a8
    refine rS d<|tR 1 F ?_
    replace o:=o.ext C
    refine tG 2 (iY _ mb mp M L ck ea ec es (md.ext o) kd n s oa l.length oc ka kn kc hsz) ?_
    rintro _ f9 ⟨rfl,q,O⟩
    have D:MG mb mp h f9:=(MG.aI o).trans O
    have G:=aj hm;have a2:=aj hp
    replace m:=O.blk m (by omega) (by omega)
    refine tV 4 0 [.int .i64 ((fL M kd n s).2)] (bY ((fL M kd n s).2)) m fun i7 d4 u=> ?_
    replace q:=q.aM d4 m (by decide) (by omega)
    replace m:=u
    refine sE [] fun a d=>bK<|tK<|qS d<|tR 0 m<|bt 1 (bY ((fL M kd n s).2)) m fun i8 d5 u=> ?_
    replace q:=q.aM d5 m (by decide) (by omega)
    replace m:=u
    refine sT [] fun a d=>cR<|rB m d ?_
    replace D:=(D.nJ d4 (fun x e=>by cases e;omega)).nJ d5 (fun x e=>by cases e;omega)
    rw[fp (by omega)];exact⟨ky q _,D⟩
   ·refine rP [(17,.bool (decide (kd=(6:Int))))] d fun a d=>tK<|cJ 17 d (fun d6=> ?_) fun d6=> ?_
    ·refine rS d<|tR 1 F ?_
     replace o:=o.ext C
     refine tG 2 (iY _ mb mp M L ck ea ec es (md.ext o) kd n s oa l.length oc ka kn kc hsz) ?_
     rintro _ g0 ⟨rfl,q,O⟩
     have D:MG mb mp h g0:=(MG.aI o).trans O
     have G:=aj hm;have a2:=aj hp
     replace m:=O.blk m (by omega) (by omega)
     refine tV 4 0 [.int .i64 ((fL M kd n s).2)] (bY ((fL M kd n s).2)) m fun i9 d7 u=> ?_
     replace q:=q.aM d7 m (by decide) (by omega)
     replace m:=u
     refine sE [] fun a d=>bK<|tK<|qS d<|tR 0 m<|bt 1 (bY ((fL M kd n s).2)) m fun j0 d8 u=> ?_
     replace q:=q.aM d8 m (by decide) (by omega)
     replace m:=u
     refine sT [] fun a d=>cR<|rB m d ?_
     replace D:=(D.nJ d7 (fun x e=>by cases e;omega)).nJ d8 (fun x e=>by cases e;omega)
     rw[fp (by omega)];exact⟨ky q _,D⟩
    ·refine cS<|qP [(25,.bool (decide (kd=(2:Int))))] d fun a d=>cJ 25 d (fun a9=> ?_) fun a9=> ?_
     ·refine cN<|tK<|cJ 25 d (fun b0=> ?_) fun b0=>absurd a9 b0
      refine qS d<|tR 1 F ?_
      obtain⟨A,P⟩:∃A,dm M kd s=A:=⟨_,rfl⟩
      have G:=aj hm
      replace kt:=(kt.ext g2).ext C
      replace o:=o.ext C
      refine tG 2 (uu _ mb mp M L ck ea ec es (md.ext o) kd n s oa l.length oc ka kn kc hsz kt hE A P) ?_
      rintro _ j1 ⟨qa,qc,ia,ic,pa,pc,rfl,H,I,J,r4,z,B,g⟩
      replace z:=fun k e=>Nat.le_trans o.size (z k e)
      replace o:=o.ext g
      replace m:=m.x g
      replace r:=r.up g.size
      clear g
      refine bt 3 (bb A.c (.slice qa A.b.length qc) A.sx A.se A.sh A.sg (.slice ia A.i.length ic) A.n A.y A.k (.slice pa A.p.length pc)) m fun j2 Q u=> ?_
      replace H:=H.aM Q m (by decide)
      replace I:=I.aM Q m (by decide)
      replace J:=J.aM Q m (by decide)
      replace B:=B.aM Q m (by decide) (by omega)
      replace m:=u
      refine sT [] fun a d=>cR (yB (yT ?_))
      refine rB m d ?_
      replace o:=o.grew Q (r.l 0)
      rw[dI (by omega),P];exact⟨⟨_,_,_,_,_,_,rfl,H,I,J,r4,z,B⟩,MG.aI o⟩
     ·refine qP [(25,.bool (decide (kd=(3:Int))))] d fun a d=>cJ 25 d (fun b1=> ?_) fun b1=> ?_
      ·refine cN<|tK<|cJ 25 d (fun b2=> ?_) fun b2=>absurd b1 b2
       refine qS d<|tR 1 F ?_
       obtain⟨A,P⟩:∃A,dm M kd s=A:=⟨_,rfl⟩
       have G:=aj hm
       replace kt:=(kt.ext g2).ext C
       replace o:=o.ext C
       refine tG 2 (uu _ mb mp M L ck ea ec es (md.ext o) kd n s oa l.length oc ka kn kc hsz kt hE A P) ?_
       rintro _ j3 ⟨qa,qc,ia,ic,pa,pc,rfl,H,I,J,r4,z,B,g⟩
       replace z:=fun k e=>Nat.le_trans o.size (z k e)
       replace o:=o.ext g
       replace m:=m.x g
       replace r:=r.up g.size
       clear g
       refine bt 3 (bb A.c (.slice qa A.b.length qc) A.sx A.se A.sh A.sg (.slice ia A.i.length ic) A.n A.y A.k (.slice pa A.p.length pc)) m fun j4 R u=> ?_
       replace H:=H.aM R m (by decide)
       replace I:=I.aM R m (by decide)
       replace J:=J.aM R m (by decide)
       replace B:=B.aM R m (by decide) (by omega)
       replace m:=u
       refine sT [] fun a d=>cR (yB (yT ?_))
       refine rB m d ?_
       replace o:=o.grew R (r.l 0)
       rw[dI (by omega),P];exact⟨⟨_,_,_,_,_,_,rfl,H,I,J,r4,z,B⟩,MG.aI o⟩
      ·refine qP [(25,.bool (decide (kd=(16:Int))))] d fun a d=>cJ 25 d (fun b3=> ?_) fun b3=> ?_
       ·refine cN<|tK<|cJ 25 d (fun b5=> ?_) fun b5=>absurd b3 b5
        refine qS d<|tR 1 F ?_
        obtain⟨A,P⟩:∃A,dm M kd s=A:=⟨_,rfl⟩
        have G:=aj hm
        replace kt:=(kt.ext g2).ext C
        replace o:=o.ext C
        refine tG 2 (uu _ mb mp M L ck ea ec es (md.ext o) kd n s oa l.length oc ka kn kc hsz kt hE A P) ?_
        rintro _ j5 ⟨qa,qc,ia,ic,pa,pc,rfl,H,I,J,r4,z,B,g⟩
        replace z:=fun k e=>Nat.le_trans o.size (z k e)
        replace o:=o.ext g
        replace m:=m.x g
        replace r:=r.up g.size
        clear g
        refine bt 3 (bb A.c (.slice qa A.b.length qc) A.sx A.se A.sh A.sg (.slice ia A.i.length ic) A.n A.y A.k (.slice pa A.p.length pc)) m fun j6 S u=> ?_
        replace H:=H.aM S m (by decide)
        replace I:=I.aM S m (by decide)
        replace J:=J.aM S m (by decide)
        replace B:=B.aM S m (by decide) (by omega)
        replace m:=u
        refine sT [] fun a d=>cR (yB (yT ?_))
        refine rB m d ?_
        replace o:=o.grew S (r.l 0)
        rw[dI (by omega),P];exact⟨⟨_,_,_,_,_,_,rfl,H,I,J,r4,z,B⟩,MG.aI o⟩
       ·refine rP [(25,.bool (decide (kd=(15:Int))))] d fun a d=>tK<|cJ 25 d (fun d9=> ?_) fun d9=> ?_
        ·refine qS d<|tR 1 F ?_
         obtain⟨A,P⟩:∃A,dm M kd s=A:=⟨_,rfl⟩
         have G:=aj hm
         replace kt:=(kt.ext g2).ext C
         replace o:=o.ext C
         refine tG 2 (uu _ mb mp M L ck ea ec es (md.ext o) kd n s oa l.length oc ka kn kc hsz kt hE A P) ?_
         rintro _ j7 ⟨qa,qc,ia,ic,pa,pc,rfl,H,I,J,r4,z,B,g⟩
         replace z:=fun k e=>Nat.le_trans o.size (z k e)
         replace o:=o.ext g
         replace m:=m.x g
         replace r:=r.up g.size
         clear g
         refine bt 3 (bb A.c (.slice qa A.b.length qc) A.sx A.se A.sh A.sg (.slice ia A.i.length ic) A.n A.y A.k (.slice pa A.p.length pc)) m fun j8 U u=> ?_
         replace H:=H.aM U m (by decide)
         replace I:=I.aM U m (by decide)
         replace J:=J.aM U m (by decide)
         replace B:=B.aM U m (by decide) (by omega)
         replace m:=u
         refine sT [] fun a d=>cR (yB (yT ?_))
         refine rB m d ?_
         replace o:=o.grew U (r.l 0)
         rw[dI (by omega),P];exact⟨⟨_,_,_,_,_,_,rfl,H,I,J,r4,z,B⟩,MG.aI o⟩
        ·refine cS<|qP [(33,.bool (decide (kd=(7:Int))))] d fun a d=>cJ 33 d (fun V=> ?_) fun V=> ?_
         ·refine cN<|tK<|cJ 33 d (fun b6=> ?_) fun b6=>absurd V b6
          refine rS d<|tO 2 0 F<|eF 3 kd 8 ?_
          replace o:=o.ext C
          refine tG 4 (z1 _ mb mp M L ck ea ec es (md.ext o) hE) ?_
          rintro _ j9 ⟨X,K,rfl,w,e1,c5⟩
          replace r:=r.co c5 e1 w o.size
          replace m:=m.x c5
          refine tV 6 39 [.slice X ((iW M).length) K] (bb (0:Int) (.slice none 0 0) dF 0 false false (.slice X ((iW M).length) K) (0:Int) dF (0:Int) (.slice none 0 0)) m fun k0 e2 u=> ?_
          replace m:=u
          refine sE [] fun a d=>bK<|tK<|qS d<|tR 0 m<|bt 1 (bb (0:Int) (.slice none 0 0) dF 0 false false (.slice X ((iW M).length) K) (0:Int) dF (0:Int) (.slice none 0 0)) m fun k1 e3 u=> ?_
          replace m:=u
          refine sT [] fun a d=>cR<|rB m d ?_
          replace o:=((o.ext c5).grew e2 (r.l 1)).grew e3 (r.l 1)
          replace w:=(w.k e2 (r.ap 0 1)).k e3 (r.ap 0 1)
          rw[pY V];exact⟨iB md o rfl (Own.nil _ _ _) fB w (r.low 0 rfl) (Own.nil _ _ _) fB aq.nil,MG.aI o⟩
         ·refine rP [(33,.bool (decide (kd=(8:Int))))] d fun a d=>tK<|cJ 33 d (fun b7=> ?_) fun b7=> ?_
          ·refine rS d<|tO 2 0 F<|eT 3 kd 8 ?_
           replace o:=o.ext C
           refine tG 4 (z6 _ mb mp M L ck ea ec es (md.ext o) hE) ?_
           rintro _ k2 ⟨Y,N,rfl,w,e4,c6⟩
           replace r:=r.co c6 e4 w o.size
           replace m:=m.x c6
           refine tV 6 39 [.slice Y ((eZ M).length) N] (bb (0:Int) (.slice none 0 0) dF 0 false false (.slice Y ((eZ M).length) N) (0:Int) dF (0:Int) (.slice none 0 0)) m fun k3 e5 u=> ?_
           replace m:=u
           refine sE [] fun a d=>bK<|tK<|qS d<|tR 0 m<|bt 1 (bb (0:Int) (.slice none 0 0) dF 0 false false (.slice Y ((eZ M).length) N) (0:Int) dF (0:Int) (.slice none 0 0)) m fun k4 e6 u=> ?_
           replace m:=u
           refine sT [] fun a d=>cR<|rB m d ?_
           replace o:=((o.ext c6).grew e5 (r.l 1)).grew e6 (r.l 1)
           replace w:=(w.k e5 (r.ap 0 1)).k e6 (r.ap 0 1)
           rw[pZ b7];exact⟨iB md o rfl (Own.nil _ _ _) fB w (r.low 0 rfl) (Own.nil _ _ _) fB aq.nil,MG.aI o⟩
          ·refine qP [(42,.bool (decide (kd=(9:Int))))] d fun a d=>cJ 42 d (fun b8=> ?_) fun b8=> ?_
           ·refine cD [0,1,3,7,15,0,32,96,255,511,1023] 18 mixed d<|mP 7 [0,1,2] [pV mb,pV mb,.pointer (some ⟨mb,1,none⟩)] ?_
            replace o:=o.ext C
            refine mO 15 8 3 1 (.slice ea M.E.length ec) (o.blk hm)<|mP 63 [4,5] [nV M.E.length,pV mb] ?_
            replace kt:=(kt.ext g2).ext C
            refine gD 127 96 6 [3] (Does.call (f:=37) (args:= #[.pointer (some ⟨mb,0,none⟩)]) (by kernel_rfl) (mm _ mb mp M L ck ea ec es (md.ext o) kt hE)) ?_
            rintro _ k5 ⟨e7,c7,rfl,Z,e8,a3⟩
            replace r:=r.co a3 e8 Z o.size
            replace o:=o.ext a3
            refine⟨?_,?_⟩
            ·intro j hj
             simp only[List.mem_cons,List.not_mem_nil,or_false] at hj
             subst hj
             exact aE (Calm.load (T:=67) (p:=⟨mb,1,none⟩) (by kernel_rfl) (Loads.one (k:=1) (by kernel_rfl) ((an (o.blk hm)).trans rfl)))
            replace kt:=kt.ext a3
            refine gD 255 224 7 [3] (Does.call (f:=36) (args:= #[.slice e7 M.E.length c7]) (by kernel_rfl) (z8 _ (cP M.E) _ _ M.E.length (HR.of Z (iz _)) (by omega) kt)) ?_
            rintro _ k6 ⟨rfl,e9⟩
            replace o:=o.ext e9
            refine⟨?_,?_⟩
            ·intro j hj
             simp only[List.mem_cons,List.not_mem_nil,or_false] at hj
             subst hj
             exact aE (Calm.load (T:=67) (p:=⟨mb,1,none⟩) (by kernel_rfl) (Loads.one (k:=1) (by kernel_rfl) ((an (o.blk hm)).trans rfl)))
            refine mP 1023 [8,9] [.agg (hdc ((M.E.length :Nat):Int) (pN (root (cP M.E)))).toArray,.pointer (some ⟨h1.size,40,none⟩)] ?_
            replace m:=(m.x a3).x e9
            refine mV 2047 2047 10 40 (hdc ((M.E.length :Nat):Int) (pN (root (cP M.E)))) (bb (0:Int) (.slice none 0 0) dF 0 false false (.slice none 0 0) ((M.E.length :Nat):Int) (pN (root (cP M.E))) (0:Int) (.slice none 0 0)) m fun k7 g1 u=> ?_
            replace m:=u
            refine mE [] fun a d=>bK<|tK<|qS d<|tR 0 m<|bt 1 (bb (0:Int) (.slice none 0 0) dF 0 false false (.slice none 0 0) ((M.E.length :Nat):Int) (pN (root (cP M.E))) (0:Int) (.slice none 0 0)) m fun k8 g3 u=> ?_
            replace m:=u
            refine sT [] fun a d=>cR<|rB m d ?_
            replace o:=(o.grew g1 (r.l 1)).grew g3 (r.l 1)
            rw[step_head b8];exact⟨iB md o rfl (Own.nil _ _ _) fB (Own.nil _ _ _) fB (Own.nil _ _ _) fB aq.nil,MG.aI o⟩
           ·refine qP [(54,.bool (decide (kd=(10:Int))))] d fun a d=>cJ 54 d (fun c0=> ?_) fun c0=> ?_
            ·refine cD [0,1,3,7,0,16,48,0,128,384,896,1920,4080,8191,16383,32767,65535] 20 mixed d<|mP 7 [0,1,2] [pV mb,pV mb,.pointer (some ⟨mb,2,none⟩)] ?_
             replace o:=o.ext C
             refine mO 15 8 3 2 (.int .i64 M.t) (o.blk hm)<|mP 31 [4] [.pointer (some ⟨h.size,3,none⟩)]<|mO 63 40 5 3 (.int .i64 n) F<|m1 127 6 (.int .i64 (max 0 n)) (.int .i64 (if n>(0:Int) then n else (0:Int))) (congrArg (Value.int .i64) (by omega))<|mP 1023 [7,8,9] [pV mb,pV mb,.pointer (some ⟨mb,2,none⟩)]<|mO 2047 1064 10 2 (.int .i64 M.t) (o.blk hm)<|m1 4095 11 (.int .i64 (1099511627776 - M.t)) (.int .i64 (IntKind.i64.wrap ((1099511627776:Int) - M.t))) (congrArg (Value.int .i64) (kg (by have:=md.t0;have:=md.t1;omega) (by have:=md.t0;have:=md.t1;omega))) ?_
             refine m1 8191 12 (.int .i64 (min (max 0 n) (1099511627776 - M.t))) (.int .i64 (if (1099511627776 - M.t)<(max 0 n) then (1099511627776 - M.t) else (max 0 n))) (congrArg (Value.int .i64) (by have:=md.t0;have:=md.t1;omega))<|m1 16383 13 (.int .i64 (M.t +min (max 0 n) (1099511627776 - M.t))) (.int .i64 (IntKind.i64.wrap (M.t +min (max 0 n) (1099511627776 - M.t)))) (congrArg (Value.int .i64) (kg (by have:=md.t0;have:=md.t1;omega) (by have:=md.t0;have:=md.t1;omega)))<|mP 65535 [14,15] [pV mb,.pointer (some ⟨mb,2,none⟩)] ?_
             have f0:=o.blk hm
             refine i' 131071 131071 16 (Does.store (b:=mb) (off:=2) (vs:=[.int .i64 (M.t +min (max 0 n) (1099511627776 - M.t))]) (l:=[.map (some mp),.slice ea M.E.length ec,.int .i64 M.t]) (by kernel_rfl) f0 (of_decide_eq_true (by kernel_rfl)) (List.all_eq_true.1 (by kernel_rfl))) ?_
             rintro _ c8 ⟨rfl,hh⟩
             have gt:=bD hh
             have g4:c8[mb]? =some (.cells ([.map (some mp),.slice ea M.E.length ec,.int .i64 (M.t +min (max 0 n) (1099511627776 - M.t))]).toArray 83):=bR (off:=2) (vs:=[.int .i64 (M.t +min (max 0 n) (1099511627776 - M.t))]) (l:=[.map (some mp),.slice ea M.E.length ec,.int .i64 M.t]) hh (by kernel_rfl) f0
             have k9:=md.t0;have l0:=md.t1
             have q:eY W c8 mb mp ⟨M.f,M.E,(M.t +min (max 0 n) (1099511627776 - M.t))⟩:=⟨_,_,_,_,_,(md.ext o).tick gt g4 (by omega) (by omega)⟩
             have O:=MG.D1 (p:=mp) gt
             have D:MG mb mp h c8:=(MG.aI o).trans O
             have G:=aj hm;have a2:=aj hp
             replace m:=O.blk m (by omega) (by omega)
             refine mE [] fun a d=>bK<|tK<|qS d<|tR 0 m<|bt 1 (bY 0) m fun l1 f1 u=> ?_
             replace q:=q.aM f1 m (by decide) (by omega)
             replace m:=u
             refine sT [] fun a d=>cR<|rB m d ?_
             replace D:=D.nJ f1 (fun x e=>by cases e;omega)
             rw[ep c0];exact⟨ky q 0,D⟩
            ·refine cS<|qP [(72,.bool (decide (kd=(11:Int))))] d fun a d=>cJ 72 d (fun c1=> ?_) fun c1=> ?_
             ·refine cN<|tK<|cJ 72 d (fun c2=> ?_) fun c2=>absurd c1 c2
              refine cN<|bK<|tK<|qS d<|tR 0 m<|bt 1 (bY 0) m fun l2 g5 u=> ?_
              replace m:=u
              refine sT [] fun a d=>cR<|rB m d ?_
              replace o:=(o.ext C).grew g5 (r.l 0)
              rw[cf (by omega)];exact⟨gh md o 0,MG.aI o⟩
             ·refine qP [(72,.bool (decide (kd=(12:Int))))] d fun a d=>cJ 72 d (fun c3=> ?_) fun c3=> ?_
              ·refine cN<|tK<|cJ 72 d (fun c4=> ?_) fun c4=>absurd c3 c4
               refine cN<|bK<|tK<|qS d<|tR 0 m<|bt 1 (bY 0) m fun l3 f2 u=> ?_
               replace m:=u
               refine sT [] fun a d=>cR<|rB m d ?_
               replace o:=(o.ext C).grew f2 (r.l 0)
               rw[cf (by omega)];exact⟨gh md o 0,MG.aI o⟩
              ·refine qP [(72,.bool (decide (kd=(13:Int))))] d fun a d=>cJ 72 d (fun a0=> ?_) fun a0=> ?_
               ·refine cN<|tK<|cJ 72 d (fun a1=> ?_) fun a1=>absurd a0 a1
                refine cN<|bK<|tK<|qS d<|tR 0 m<|bt 1 (bY 0) m fun g8 f3 u=> ?_
                replace m:=u
                refine sT [] fun a d=>cR<|rB m d ?_
                replace o:=(o.ext C).grew f3 (r.l 0)
                rw[cf (by omega)];exact⟨gh md o 0,MG.aI o⟩
               ·refine rP [(72,.bool (decide (kd=(14:Int))))] d fun a d=>tK<|cJ 72 d (fun c9=> ?_) fun c9=> ?_
                ·refine cN<|bK<|tK<|qS d<|tR 0 m<|bt 1 (bY 0) m fun g9 f4 u=> ?_
                 replace m:=u
                 refine sT [] fun a d=>cR<|rB m d ?_
                 replace o:=(o.ext C).grew f4 (r.l 0)
                 rw[cf (by omega)];exact⟨gh md o 0,MG.aI o⟩
                ·refine rS d<|tV 1 0 [.int .i64 1] (bY 1) m fun i0 f5 u=> ?_
                 replace m:=u
                 refine sE [] fun a d=>bK<|tK<|qS d<|tR 0 m<|bt 1 (bY 1) m fun i1 f6 u=> ?_
                 replace m:=u
                 refine sT [] fun a d=>cR<|rB m d ?_
                 replace o:=((o.ext C).grew f5 (r.l 0)).grew f6 (r.l 0)
                 rw[jC (by omega) (by omega) (by omega) (by omega) (by omega) (by omega) (by omega) (by omega)];exact⟨gh md o 1,MG.aI o⟩
theorem BL(h:Heap)(mb mp:Nat)(M:Md)(m:Mod h mb mp M)(kd n:Int)(s:ByteArray)(l:List UInt8)(oa:Option Addr)(oc:Nat)(ka:Option Addr)(kn kc:Nat)(hr:Row h (.slice oa l.length oc) l.length 1 (l.map bv))(hsz:s.size ≤9223372036854775807)(kt:bq h)(hE:M.E.length ≤1099511627):Sat Tryz.prog 17 #[.pointer (some ⟨mb,0,none⟩),.agg #[.int .i64 kd,.string s,.slice oa l.length oc,.int .i64 n,.slice ka kn kc]] h fun v h'=>AnsAt h' v (step M kd n s l).2 ∧Mod h' mb mp (step M kd n s l).1 ∧MG mb mp h h':=by
 obtain⟨L,ck,ea,ec,es,md⟩:=m
 exact(D8 h mb mp M L ck ea ec es md (fun _ e=>e.elim) kd n s l oa oc ka kn kc hr hsz kt hE).mono fun v h' ⟨a,g⟩=>⟨a.at_,a.mod,g⟩
noncomputable def b15:Code:=Tryz.f15.body.getD .skip
theorem bJ.new{W:Nat→Prop}{h:Heap}{b p:Nat}(m:h[b]? =some (.cells #[.map (some p),.slice none 0 0,.int .i64 0] 83))(hp:h[p]? =some (.map #[] 0))(kp:0<p)(kb:0<b):eY W h b p ⟨fun _=>none,[],0⟩:=
 ⟨[],0,none,0,[],{hm:=m,hp:=hp,bo:=⟨by simp,by simp⟩,nd:=by simp,ob:=by simp,al:=by simp,er:=cz.nil _ _ _,en:=⟨rfl,by simp⟩,ln:=rfl,t0:=by decide,t1:=by decide,kb:=kb,kp:=kp}⟩
theorem A6(h:Heap)(hk0:0<h.size):Sat Tryz.prog 15 #[] h fun v h'=>∃b p,v= .pointer (some ⟨b,0,none⟩)∧Mod h' b p ⟨fun _=>none,[],0⟩∧h.size ≤b∧h.size ≤p∧Ext h h':=by
 have c:=Ext.refl h
 refine ag Tryz.func15 4 fun a d=>qP [] d fun a d=>qS d<|tF 0 (Does.new (v:= .map (some h.size)) (o:= .map #[] 0) (by kernel_rfl)) ?_
 rintro _ e ⟨rfl,f⟩
 have j:=aT f
 have g:=bj f
 clear f
 refine tN 2 (pV e.size) #[.map (some h.size),.slice none 0 0,.int .i64 0] 83 fun m i k=> ?_
 replace c:=c.ext j
 have l:=c.size
 refine sT [(0,pV e.size)] fun a d=>cR<|rT 0 (pV e.size) d ?_
 replace c:=c.ext i
 replace g:=Ext.blk i g
 exact⟨_,_,rfl,bJ.new k g hk0 (by omega),by omega,Nat.le_refl _,c⟩
noncomputable def b23:Code:=Tryz.f23.body.getD .skip
set_option maxHeartbeats 1000000 in
theorem z'{W:Nat→Prop}(h:Heap)(mb mp:Nat)(M:Md)(L:List bW)(ck:Nat)(ea:Option Addr)(ec:Nat)(es:List Value)(md:bJ W h mb mp M L ck ea ec es)(hW:∀k,W k→k<h.size)(hE:M.E.length ≤1099511627):Sat Tryz.prog 23 #[.pointer (some ⟨mb,0,none⟩)] h fun v h'=>∃c q,v= .pointer (some ⟨c,0,none⟩)∧eY W h' c q M∧h.size ≤c∧h.size ≤q∧Ext h h':=by
 have hm:=md.hm
 have hp:=md.hp
 obtain⟨d,hg⟩:=md.choose
 have b8:=md.ln
 have s:=Ext.refl h
 have i:Sep h.size h.size []:=Sep.nil _ _
 refine ag Tryz.func23 40 fun a z=>qP [] z fun a z=>cS<|cD [0,1,3,7,15,31,0,64,192,448,991,0,2048,6144,14336,32767,65535,131071] 1 mixed z<|mP 7 [0,1,2] [pV mb,pV mb,pV mb]<|mO 15 8 3 0 (.map (some mp)) (s.blk hm)<|mL 31 24 4 (.int .i64 ((L.length :Nat):Int)) (Calm.lS (by kernel_rfl) (s.blk hp) rfl) ?_
 refine mP 479 [6,7,8] [pV mb,pV mb,.pointer (some ⟨mb,1,none⟩)]<|mO 991 536 9 1 (.slice ea M.E.length ec) (s.blk hm)<|mP 15327 [11,12,13] [pV mb,pV mb,.pointer (some ⟨mb,2,none⟩)]<|mO 31711 16920 14 2 (.int .i64 M.t) (s.blk hm)<|aF.ov (is:=[5,10]) (by kernel_rfl) (by simp) ?_
 intro q w
 simp only[List.mem_cons,List.not_mem_nil,or_false] at w
 rcases w with rfl|rfl
 ·refine pg 31743 63 5 [9,14] (Does.new (v:= .map (some h.size)) (o:= .map #[] 0) (by kernel_rfl)) ?_
  rintro _ h1 ⟨rfl,C⟩
  have g:=aT C
  have w:=bj C
  have G:=s.size
  have A:=i
  replace s:=s.ext g
  replace i:=A.new G (aj w)
  clear A G C g
  refine⟨?_,?_⟩
  ·intro j hj
   simp only[List.mem_cons,List.not_mem_nil,or_false] at hj
   rcases hj with rfl|rfl
   ·exact aE (Calm.load (T:=67) (p:=⟨mb,1,none⟩) (by kernel_rfl) (Loads.one (k:=1) (by kernel_rfl) ((an (s.blk hm)).trans rfl)))
   ·exact aE (Calm.load (T:=3) (p:=⟨mb,2,none⟩) (by kernel_rfl) (Loads.one (k:=1) (by kernel_rfl) ((an (s.blk hm)).trans rfl)))
  refine gD 32767 2047 10 [14] (Does.call (f:=44) (args:= #[.slice ea M.E.length ec]) (by kernel_rfl) (mj _ es M.E.length ea ec (md.er.1.1.ext s) (by omega) (fU md.en))) ?_
  rintro _ h6 ⟨U,S,rfl,r,b2,g4⟩
  replace i:=i.co g4 b2 r s.size
  replace s:=s.ext g4
  refine⟨?_,?_⟩
  ·intro j hj
   simp only[List.mem_cons,List.not_mem_nil,or_false] at hj
   subst hj
   exact aE (Calm.load (T:=3) (p:=⟨mb,2,none⟩) (by kernel_rfl) (Loads.one (k:=1) (by kernel_rfl) ((an (s.blk hm)).trans rfl)))
  refine mP 65535 [15] [.agg #[.map (some h.size),.slice U M.E.length S,.int .i64 M.t]]<|mN 131071 131071 16 (pV h6.size) #[.map (some h.size),.slice U M.E.length S,.int .i64 M.t] 83 fun h7 g8 O=> ?_
  replace i:=i.nw s.size O
  refine mP 262143 [17] [pV h6.size]<|mE [(3,pV h6.size)] fun a z=>tK<|cS<|qS z ?_
  replace s:=s.ext g8
  refine tO 3 0 (s.blk hm)<|tF 4 (Does.range (t:=81) (k:=9) (el:=101) (by kernel_rfl) (by kernel_rfl) (s.blk hp)) ?_
  rintro _ b3 ⟨rfl,C⟩
  have g:=aT C
  have u:=bj C
  have G:=s.size
  have A:=i
  replace w:=g8.blk (g4.blk w)
  replace r:=r.ext g8
  replace s:=s.ext g
  replace w:=g.blk w
  replace r:=r.ext g
  replace O:=O.x g
  replace i:=A.new G (aj u)
  clear A G C g
  refine sT [(27,pV h7.size)] fun a z=>cB 0 ?_
  have w:b3[h.size]? =some (.map (ents ([]:List bW)) ([]:List bW).length):=w
  refine cL (fun m a h'=>∃D:List bW,∃R:List bW,∃N:List bW,m=R.length ∧(Ext h h')∧(h'[h6.size]? =some (.cells #[.map (some h.size),.slice U M.E.length S,.int .i64 M.t] 83))∧((D++R).Perm L)∧(N.map pr=D.map pr)∧(Born N N.length)∧(h'[h7.size]? =some (py mp ck D))∧(h'[h.size]? =some (.map (ents N) N.length))∧(Own h' (.slice U M.E.length S) 32 M.E.length 1 es)∧(Sep h.size h'.size [some (h7.size),some (h6.size),U.map (·.block),some (h.size)])∧(Fr a 40 [(3,.pointer (some ⟨h6.size,0,none⟩)),(27,.pointer (some ⟨h7.size,0,none⟩))])) (L.length) ⟨[],L,[],rfl,s,O,(List.Perm.refl _),rfl,Born.nil,u,w,r,i,z.to⟩ ?_
  clear z a
  clear s
  clear O
  clear u
  clear w
  clear r
  clear i
  rintro m a c0 ⟨D,R,N,rfl,s,O,hP,hN,hB,u,w,r,i,z⟩
  refine cS ?_
  rcases(by cases R<;>simp:R=[]∨R≠[]) with hR|hR
  ·refine rS z<|tC 0 (.tuple #[.bool false]) (jA (by kernel_rfl) u (s.blk hp) hP md.bo hR)<|sE [(29,.bool false)] fun a z=>tK<|cS<|cF 29 z<|cX 0 (xT (xT (xB ?_)))
   refine tK<|qP [(2,pV h6.size)] z fun a z=>cR<|rT 2 (pV h6.size) z ?_
   subst hR
   rw[List.append_nil] at hP
   exact⟨_,_,rfl,md.cloned s O w hN hP hB r (i.low 1 rfl _ rfl) (i.low 3 rfl _ rfl) hW (i.low 2 rfl),i.low 1 rfl _ rfl,i.low 3 rfl _ rfl,s⟩
  ·refine rS z<|tF 0 (gV (by kernel_rfl) u (s.blk hp) hP md.bo hR) ?_
   rintro _ a8 ⟨x,R',P,b5,a0,rfl,C⟩
   obtain⟨K,V⟩:=jB C u
   replace s:=s.grew V (i.l 0)
   replace r:=r.k V (i.ap 2 0)
   replace u:=u
   replace w:=V.blk w (i.bp 3 0)
   replace O:=O.y V (i.bp 1 0)
   replace i:=i.up V.size
   clear u;have u:=K;clear K C V
   have a1:=hg x a0
   have b6:D.length <L.length :=by have:=P.length_eq;simp at this;omega
   refine sE [(29,.bool true)] fun a z=>tK<|cS<|cT 29 z<|cN<|tK<|cB 1 ?_
   refine qS z<|tC 0 (.tuple #[.string x.1,.agg (dn ((aJ d x).b) ((aJ d x).e) ((aJ d x).ho) ((aJ d x).go) (.slice (aJ d x).ad ((aJ d x).n) ((aJ d x).cap)) (.slice (d x).ba ((d x).o.dt.length) ((d x).bc))).toArray]) (ma (by kernel_rfl) u (s.blk hp) a0 md.bo a1.hv)<|tN 3 (pV a8.size) ((dj (.slice none 0 0)).toArray) 101 fun c1 a2 a3=> ?_
   replace i:=i.nw s.size a3
   refine bt 5 (dn ((aJ d x).b) ((aJ d x).e) ((aJ d x).ho) ((aJ d x).go) (.slice (aJ d x).ad ((aJ d x).n) ((aJ d x).cap)) (.slice (d x).ba ((d x).o.dt.length) ((d x).bc))) a3 fun c2 X zq=> ?_
   replace a3:=zq
   refine sT [(4,.string x.1),(5,pV a8.size)] fun a z=>cD [0,1,3,7,0,0,63] 5 mixed z<|mP 7 [0,1,2] [pV h6.size,pV h6.size,pV h6.size] ?_
   replace O:=(O.x a2).y X (i.bp 2 0)
   refine mO 15 8 3 0 (.map (some h.size)) O<|mP 31 [4] [.string x.1]<|mR 63 40 5 a3 ?_
   replace w:=X.blk (a2.blk w) (i.bp 4 0)
   refine i' 127 127 6 (Does.rn (t:=81) (k:=9) (el:=101) (v:= .agg (dn ((aJ d x).b) ((aJ d x).e) ((aJ d x).ho) ((aJ d x).go) (.slice (aJ d x).ad ((aJ d x).n) ((aJ d x).cap)) (.slice (d x).ba ((d x).o.dt.length) ((d x).bc))).toArray) (by kernel_rfl) (by kernel_rfl) (by kernel_rfl) w (xg hN P md.nd)) ?_
   rintro _ c3 ⟨rfl,C⟩
   have Y:=bD C
   have Q:=fT C w
   replace s:=(s.ext a2).grew X (i.l 0)
   replace r:=(r.ext a2).k X (i.ap 3 0)
   replace u:=X.blk (a2.blk u) (i.bp 1 0)
   replace i:=i.up X.size
   replace s:=s.grew Y (i.l 4)
   replace r:=r.k Y (i.ap 3 4)
   replace u:=Y.blk u (i.bp 1 4)
   replace w:=w
   replace O:=O.y Y (i.bp 2 4)
   replace i:=i.up Y.size
   rw[show N.length +1=(N++[(x.1,(.agg (dn ((aJ d x).b) ((aJ d x).e) ((aJ d x).ho) ((aJ d x).go) (.slice (aJ d x).ad ((aJ d x).n) ((aJ d x).cap)) (.slice (d x).ba ((d x).o.dt.length) ((d x).bc))).toArray :Value),N.length)]).length by rw[List.length_append];rfl] at Q
   clear w;have w:=Q;clear Q C Y
   refine mE [] fun a z=>bK ?_
   clear a3
   replace i:=i.sub (l':=[some (h7.size),some (h6.size),U.map (·.block),some (h.size)]) (.cons _ (.cons_cons _ (.cons_cons _ (.cons_cons _ (.cons_cons _ (.slnil))))))
   show ∃m',m'<_∧_
   refine⟨_,?_,(D++[x]),R',(N++[(x.1,_,N.length)]),rfl,s,O,P,(ua hN a1.hv _),(hB.one _ _),u,w,r,i,z.to⟩
   omega
 ·refine pg 32735 2015 10 [14] (Does.call (f:=44) (args:= #[.slice ea M.E.length ec]) (by kernel_rfl) (mj _ es M.E.length ea ec (md.er.1.1.ext s) (by omega) (fU md.en))) ?_
  rintro _ I ⟨H,J,rfl,r,a9,b0⟩
  replace i:=i.co b0 a9 r s.size
  replace s:=s.ext b0
  refine⟨?_,?_⟩
  ·intro j hj
   simp only[List.mem_cons,List.not_mem_nil,or_false] at hj
   subst hj
   exact aE (Calm.load (T:=3) (p:=⟨mb,2,none⟩) (by kernel_rfl) (Loads.one (k:=1) (by kernel_rfl) ((an (s.blk hm)).trans rfl)))
  refine gD 32767 2047 5 [14] (Does.new (v:= .map (some I.size)) (o:= .map #[] 0) (by kernel_rfl)) ?_
  rintro _ F ⟨rfl,C⟩
  have g:=aT C
  have w:=bj C
  have G:=s.size
  have A:=i
  replace s:=s.ext g
  replace r:=r.ext g
  replace i:=A.new G (aj w)
  clear A G C g
  refine⟨?_,?_⟩
  ·intro j hj
   simp only[List.mem_cons,List.not_mem_nil,or_false] at hj
   subst hj
   exact aE (Calm.load (T:=3) (p:=⟨mb,2,none⟩) (by kernel_rfl) (Loads.one (k:=1) (by kernel_rfl) ((an (s.blk hm)).trans rfl)))
  refine mP 65535 [15] [.agg #[.map (some I.size),.slice H M.E.length J,.int .i64 M.t]]<|mN 131071 131071 16 (pV F.size) #[.map (some I.size),.slice H M.E.length J,.int .i64 M.t] 83 fun a4 a7 B=> ?_
  replace i:=i.nw s.size B
  refine mP 262143 [17] [pV F.size]<|mE [(3,pV F.size)] fun a z=>tK<|cS<|qS z ?_
  replace s:=s.ext a7
  refine tO 3 0 (s.blk hm)<|tF 4 (Does.range (t:=81) (k:=9) (el:=101) (by kernel_rfl) (by kernel_rfl) (s.blk hp)) ?_
  rintro _ b7 ⟨rfl,C⟩
  have g:=aT C
  have u:=bj C
  have G:=s.size
  have A:=i
  replace r:=r.ext a7
  replace w:=a7.blk w
  replace s:=s.ext g
  replace r:=r.ext g
  replace w:=g.blk w
  replace B:=B.x g
  replace i:=A.new G (aj u)
  clear A G C g
  refine sT [(27,pV a4.size)] fun a z=>cB 0 ?_
  have w:b7[I.size]? =some (.map (ents ([]:List bW)) ([]:List bW).length):=w
  refine cL (fun m a h'=>∃D:List bW,∃R:List bW,∃N:List bW,m=R.length ∧(Ext h h')∧(h'[F.size]? =some (.cells #[.map (some I.size),.slice H M.E.length J,.int .i64 M.t] 83))∧((D++R).Perm L)∧(N.map pr=D.map pr)∧(Born N N.length)∧(h'[a4.size]? =some (py mp ck D))∧(h'[I.size]? =some (.map (ents N) N.length))∧(Own h' (.slice H M.E.length J) 32 M.E.length 1 es)∧(Sep h.size h'.size [some (a4.size),some (F.size),some (I.size),H.map (·.block)])∧(Fr a 40 [(3,.pointer (some ⟨F.size,0,none⟩)),(27,.pointer (some ⟨a4.size,0,none⟩))])) (L.length) ⟨[],L,[],rfl,s,B,(List.Perm.refl _),rfl,Born.nil,u,w,r,i,z.to⟩ ?_
  clear z a
  clear s
  clear B
  clear u
  clear w
  clear r
  clear i
  rintro m a c4 ⟨D,R,N,rfl,s,B,hP,hN,hB,u,w,r,i,z⟩
  refine cS ?_
  rcases(by cases R<;>simp:R=[]∨R≠[]) with hR|hR
  ·refine rS z<|tC 0 (.tuple #[.bool false]) (jA (by kernel_rfl) u (s.blk hp) hP md.bo hR)<|sE [(29,.bool false)] fun a z=>tK<|cS<|cF 29 z<|cX 0 (xT (xT (xB ?_)))
   refine tK<|qP [(2,pV F.size)] z fun a z=>cR<|rT 2 (pV F.size) z ?_
   subst hR
   rw[List.append_nil] at hP
   exact⟨_,_,rfl,md.cloned s B w hN hP hB r (i.low 1 rfl _ rfl) (i.low 2 rfl _ rfl) hW (i.low 3 rfl),i.low 1 rfl _ rfl,i.low 2 rfl _ rfl,s⟩
  ·refine rS z<|tF 0 (gV (by kernel_rfl) u (s.blk hp) hP md.bo hR) ?_
   rintro _ b1 ⟨x,R',P,b5,a0,rfl,C⟩
   obtain⟨K,V⟩:=jB C u
   replace s:=s.grew V (i.l 0)
   replace r:=r.k V (i.ap 3 0)
   replace u:=u
   replace w:=V.blk w (i.bp 2 0)
   replace B:=B.y V (i.bp 1 0)
   replace i:=i.up V.size
   clear u;have u:=K;clear K C V
   have a1:=hg x a0
   have b6:D.length <L.length :=by have:=P.length_eq;simp at this;omega
   refine sE [(29,.bool true)] fun a z=>tK<|cS<|cT 29 z<|cN<|tK<|cB 1 ?_
   refine qS z<|tC 0 (.tuple #[.string x.1,.agg (dn ((aJ d x).b) ((aJ d x).e) ((aJ d x).ho) ((aJ d x).go) (.slice (aJ d x).ad ((aJ d x).n) ((aJ d x).cap)) (.slice (d x).ba ((d x).o.dt.length) ((d x).bc))).toArray]) (ma (by kernel_rfl) u (s.blk hp) a0 md.bo a1.hv)<|tN 3 (pV b1.size) ((dj (.slice none 0 0)).toArray) 101 fun c5 a5 a6=> ?_
   replace i:=i.nw s.size a6
   refine bt 5 (dn ((aJ d x).b) ((aJ d x).e) ((aJ d x).ho) ((aJ d x).go) (.slice (aJ d x).ad ((aJ d x).n) ((aJ d x).cap)) (.slice (d x).ba ((d x).o.dt.length) ((d x).bc))) a6 fun c6 Z zq=> ?_
   replace a6:=zq
   refine sT [(4,.string x.1),(5,pV b1.size)] fun a z=>cD [0,1,3,7,0,0,63] 5 mixed z<|mP 7 [0,1,2] [pV F.size,pV F.size,pV F.size] ?_
   replace B:=(B.x a5).y Z (i.bp 2 0)
   refine mO 15 8 3 0 (.map (some I.size)) B<|mP 31 [4] [.string x.1]<|mR 63 40 5 a6 ?_
   replace w:=Z.blk (a5.blk w) (i.bp 3 0)
   refine i' 127 127 6 (Does.rn (t:=81) (k:=9) (el:=101) (v:= .agg (dn ((aJ d x).b) ((aJ d x).e) ((aJ d x).ho) ((aJ d x).go) (.slice (aJ d x).ad ((aJ d x).n) ((aJ d x).cap)) (.slice (d x).ba ((d x).o.dt.length) ((d x).bc))).toArray) (by kernel_rfl) (by kernel_rfl) (by kernel_rfl) w (xg hN P md.nd)) ?_
   rintro _ c7 ⟨rfl,C⟩
   have Y:=bD C
   have Q:=fT C w
   replace s:=(s.ext a5).grew Z (i.l 0)
   replace r:=(r.ext a5).k Z (i.ap 4 0)
   replace u:=Z.blk (a5.blk u) (i.bp 1 0)
   replace i:=i.up Z.size
   replace s:=s.grew Y (i.l 3)
   replace r:=r.k Y (i.ap 4 3)
   replace u:=Y.blk u (i.bp 1 3)
   replace w:=w
   replace B:=B.y Y (i.bp 2 3)
   replace i:=i.up Y.size
   rw[show N.length +1=(N++[(x.1,(.agg (dn ((aJ d x).b) ((aJ d x).e) ((aJ d x).ho) ((aJ d x).go) (.slice (aJ d x).ad ((aJ d x).n) ((aJ d x).cap)) (.slice (d x).ba ((d x).o.dt.length) ((d x).bc))).toArray :Value),N.length)]).length by rw[List.length_append];rfl] at Q
   clear w;have w:=Q;clear Q C Y
   refine mE [] fun a z=>bK ?_
   clear a6
   replace i:=i.sub (l':=[some (a4.size),some (F.size),some (I.size),H.map (·.block)]) (.cons _ (.cons_cons _ (.cons_cons _ (.cons_cons _ (.cons_cons _ (.slnil))))))
   show ∃m',m'<_∧_
   refine⟨_,?_,(D++[x]),R',(N++[(x.1,_,N.length)]),rfl,s,B,P,(ua hN a1.hv _),(hB.one _ _),u,w,r,i,z.to⟩
   omega
noncomputable def b20:Code:=Tryz.f20.body.getD .skip
end Go.Proofs.YtegkejcglfgpmaaGreatDoor
end
section
namespace Go.aL
open Go Go.ai
/-! ### two models are the same -/
def vB(o p:Ob):Prop:=fJ o.b o.e o.ho o.go p.b p.e p.ho p.go =true∧o.dt =p.dt
def qu:Option Ob→Option Ob→Prop
  |none,none=>True
  |some o,some p=>vB o p
  |_,_=>False
def iP(M N:Md):Prop:=(∀s,qu (M.f s) (N.f s))∧M.E =N.E
open Classical in
noncomputable def eK(M N:Md):Bool:=decide (iP M N)
section
variable {M N:Md} {s:ByteArray} {o p:Ob} {k:Nat}
theorem xH(h:iP M N):eK M N=true:=by unfold eK;simp[h]
theorem gq(h:¬iP M N):eK M N=false:=by unfold eK;simp[h]
theorem xI(h:M.E.length ≠N.E.length):¬iP M N:=fun k=>h (by rw[k.2])
theorem Aa(h:M.f s=some o)(k:N.f s=none):¬iP M N:=fun q=>by have:=q.1 s;rw[h,k] at this;exact this
theorem uv(h:M.f s=some o)(k:N.f s=some p)(n:¬vB o p):¬iP M N:=fun q=>by have:=q.1 s;rw[h,k] at this;exact n this
theorem BM{e e':List UInt8}(h:M.E[k]? =some e)(j:N.E[k]? =some e')(n:e≠e'):¬iP M N:=fun q=>by rw[q.2,j] at h;cases h;exact n rfl
theorem Ab(h:M.f s=some o)(k:N.f s=some p)(n:vB o p):qu (M.f s) (N.f s):=by rw[h,k];exact n
theorem vC(h:∀i,i<k→M.E[i]? =N.E[i]?)(e:M.E[k]? =N.E[k]?):∀i,i<k+1→M.E[i]? =N.E[i]? :=fun i hi=>by
  rcases Nat.lt_succ_iff_lt_or_eq.1 hi with h1|rfl
  · exact h i h1
  · exact e
theorem xJ(hl:M.E.length =N.E.length)(h:∀i,i<k→M.E[i]? =N.E[i]?)(hk:k=M.E.length):M.E =N.E :=List.ext_getElem? fun i=>by
  by_cases hi:i<k
  · exact h i hi
  · rw[List.getElem?_eq_none (by omega),List.getElem?_eq_none (by omega)]
theorem CW(N:Md)(s:ByteArray)(o:Ob):N.f s=none∨∃p,N.f s=some p∧(fJ o.b o.e o.ho o.go p.b p.e p.ho p.go =false∨(fJ o.b o.e o.ho o.go p.b p.e p.ho p.go =true∧o.dt ≠p.dt)∨(fJ o.b o.e o.ho o.go p.b p.e p.ho p.go =true∧o.dt =p.dt)):=by
  cases h:N.f s with
  |none=>exact .inl rfl
  | some p =>
    refine .inr ⟨p,rfl, ?_⟩
    cases e:fJ o.b o.e o.ho o.go p.b p.e p.ho p.go with
    |false=>exact .inl rfl
    |true=>by_cases d:o.dt =p.dt;exact .inr (.inr ⟨rfl,d⟩);exact .inr (.inl ⟨rfl,d⟩)
theorem CX(h:fJ o.b o.e o.ho o.go p.b p.e p.ho p.go =false):¬vB o p:=fun k=>by rw[k.1] at h;cases h
theorem CY(h:o.dt ≠p.dt):¬vB o p:=fun k=>h k.2
end
theorem CZ{a b:List UInt8}(h:a≠b):(ByteArray.mk a.toArray)≠ByteArray.mk b.toArray :=fun e=>h (by have:=congrArg (fun x:ByteArray=>x.data.toList) e;simpa using this)
theorem xK{a b:List UInt8}(h:a≠b):(!((ByteArray.mk a.toArray).toList ==(ByteArray.mk b.toArray).toList))=true:=by rw[jE,decide_eq_false (CZ h)];rfl
theorem xM{a b:List UInt8}(h:a=b):(!((ByteArray.mk a.toArray).toList ==(ByteArray.mk b.toArray).toList))=false:=by subst h;rw[jE,decide_eq_true rfl];rfl
theorem bJ.C0 {W W2 : Nat → Prop} {h : Heap} {b p c q : Nat} {M N : Md} {L L2 : List bW} {ck ck2 : Nat} {ea BN : Option Addr} {ec Ac : Nat} {es es2 : List Value} (m : bJ W h b p M L ck ea ec es) (n : bJ W2 h c q N L2 ck2 BN Ac es2) (hl : M.E.length = N.E.length) (ha : ∀ x ∈ L, qu (M.f x.1) (N.f x.1)) (s : ByteArray) : qu (M.f s) (N.f s) := by
  cases hf:M.f s with
  |some o=>obtain⟨x,hx,rfl⟩:=m.al s o hf;rw[←hf];exact ha x hx
  | none =>
    cases hg:N.f s with
    |none=>trivial
    | some r =>
      exfalso
      have hs:∀x∈L,x.1 ≠s:=fun x hx e=>by obtain⟨o,h1,_⟩:=m.ob x hx;rw[e,hf] at h1;cases h1
      have nd:(s::L.map fun x=>x.1).Nodup :=List.nodup_cons.2 ⟨fun e=>by obtain⟨x,hx,e⟩:=List.mem_map.1 e;exact hs x hx e,m.nd⟩
      have hin:(s::L.map fun x=>x.1) ⊆ L2.map fun x=>x.1 :=fun t ht=>by
        rcases List.mem_cons.1 ht with rfl|ht
        · obtain⟨y,hy,e⟩:=n.al _ _ hg;exact List.mem_map.2 ⟨y,hy,e⟩
        · obtain ⟨x, hx, rfl⟩ := List.mem_map.1 ht
          obtain⟨o,h1,_⟩:=m.ob x hx
          have:=ha x hx
          rw[h1] at this
          cases hn:N.f x.1 with
          |none=>rw[hn] at this;exact this.elim
          |some r=>obtain⟨y,hy,e⟩:=n.al _ _ hn;exact List.mem_map.2 ⟨y,hy,e⟩
      have:=nd.length_le_of_subset hin
      simp only[List.length_cons,List.length_map] at this
      have h1:=m.ln
      have h2:=n.ln
      omega
theorem bJ.C1{W:Nat→Prop}{h:Heap}{b p:Nat}{M:Md}{L:List bW}{ck:Nat}{ea:Option Addr}{ec:Nat}{es:List Value}(m:bJ W h b p M L ck ea ec es){s:ByteArray}(hf:M.f s=none):∀y∈L,y.1 ≠s:=fun y hy e=>by
  obtain⟨o,h1,_⟩:=m.ob y hy;rw[e,hf] at h1;cases h1
theorem xP{α:Type}{P:α→Prop}{D:List α}{x:α}(h:∀y∈D,P y)(k:P x):∀y∈D++[x],P y:=fun y hy=>(List.mem_append.1 hy).elim (h y) fun e=>by rw[List.mem_singleton.1 e];exact k
end Go.aL
end
section
namespace Go.Proofs.YtegkejcglfgpmaaGreatDoor
open Go Go.ai Go.aL
noncomputable def b25:Code:=Tryz.f25.body.getD .skip
set_option maxHeartbeats 1000000 in
theorem xQ{W:Nat→Prop}(h:Heap)(mb mp:Nat)(M:Md)(L:List bW)(ck:Nat)(ea:Option Addr)(ec:Nat)(es:List Value)(md:bJ W h mb mp M L ck ea ec es){W2:Nat→Prop}(nb np:Nat)(N:Md)(L2:List bW)(ck2:Nat)(BN:Option Addr)(Ac:Nat)(es2:List Value)(sq:bJ W2 h nb np N L2 ck2 BN Ac es2)(hl:M.E.length ≤2199023255552):Sat Tryz.prog 25 #[.pointer (some ⟨mb,0,none⟩),.pointer (some ⟨nb,0,none⟩)] h fun v h'=>v= .bool (eK M N)∧Ext h h':=by
 have hm:=md.hm
 have hp:=md.hp
 have C:=sq.hm
 have Q:=sq.hp
 have e4:=md.ln
 have e3:=sq.ln
 obtain⟨c,hg⟩:=md.choose
 have s:=Ext.refl h
 have u:Sep h.size h.size []:=Sep.nil _ _
 refine ag Tryz.func25 94 fun a d=>qP [] d fun a d=>cS<|cS ?_
 rcases(by omega:M.E.length =N.E.length ∨M.E.length ≠N.E.length) with a5|a5
 ·refine cD [0,1,3,7,15,0,32,96,224,511,1023,2047,4095,8191,16383,32767,65535,4095,135167,397311,921599,1970175,4194303,8388607] 1 mixed d<|mP 7 [0,1,2] [pV mb,pV mb,pV mb]<|mO 15 8 3 0 (.map (some mp)) (s.blk hm)<|mL 31 24 4 (.int .i64 ((L.length :Nat):Int)) (Calm.lS (by kernel_rfl) (s.blk hp) rfl)<|mP 255 [5,6,7] [pV nb,pV nb,pV nb]<|mO 511 280 8 0 (.map (some np)) (s.blk C)<|mL 1023 792 9 (.int .i64 ((L2.length :Nat):Int)) (Calm.lS (by kernel_rfl) (s.blk Q) rfl) ?_
  refine Ez 2047 10 ((L.length :Nat):Int) ((L2.length :Nat):Int)<|mP 32767 [11,12,13,14] [.bool false,pV mb,pV mb,.pointer (some ⟨mb,1,none⟩)]<|mO 65535 33560 15 1 (.slice ea M.E.length ec) (s.blk hm)<|mP 1048575 [16,17,18,19] [nV M.E.length,pV nb,pV nb,.pointer (some ⟨nb,1,none⟩)]<|mO 2097151 1082136 20 1 (.slice BN N.E.length Ac) (s.blk C)<|mP 4194303 [21] [nV N.E.length]<|Ez 8388607 22 ((M.E.length :Nat):Int) ((N.E.length :Nat):Int) ?_
  refine mP 16777215 [23] [.bool false]<|mE [(34,.bool false)] fun a d=>tK<|cF 34 d<|cN<|tK<|cS ?_
  refine qS d<|tO 3 0 (s.blk hm)<|tF 4 (Does.range (t:=81) (k:=9) (el:=101) (by kernel_rfl) (by kernel_rfl) (s.blk hp)) ?_
  rintro _ h1 ⟨rfl,hh⟩
  have g:=aT hh
  have z:=bj hh
  have c0:=s.size
  have a8:=u
  replace s:=s.ext g
  replace u:=a8.new c0 (aj z)
  clear a8 c0 hh g
  refine sT [(39,pV h.size)] fun a d=>cB 0<|cL (fun m a h'=>∃D:List bW,∃R:List bW,m=R.length ∧(Ext h h')∧((D++R).Perm L)∧(∀x∈D,qu (M.f x.1) (N.f x.1))∧(h'[h.size]? =some (py mp ck D))∧(Sep h.size h'.size [some (h.size)])∧(Fr a 94 [(0,.pointer (some ⟨mb,0,none⟩)),(1,.pointer (some ⟨nb,0,none⟩)),(39,.pointer (some ⟨h.size,0,none⟩))])) (L.length) ⟨[],L,rfl,s,(List.Perm.refl _),(fun _ h=>by cases h),z,u,d.to⟩ ?_
  clear d a
  clear s
  clear z
  clear u
  rintro m a h2 ⟨D,R,rfl,s,hP,a9,z,u,d⟩
  refine cS ?_
  rcases(by cases R<;>simp:R=[]∨R≠[]) with hR|hR
  ·refine rS d<|tC 0 (.tuple #[.bool false]) (jA (by kernel_rfl) z (s.blk hp) hP md.bo hR)<|sE [(41,.bool false)] fun a d=>tK<|cS<|cF 41 d<|cX 0 (xT (xT (xB ?_)))
   refine tK<|cS<|qS d<|tO 3 1 (s.blk hm)<|sT [(75,.slice ea M.E.length ec),(76,nV M.E.length),(77,.int .i64 0)] fun a d=>cB 2 ?_
   subst hR
   rw[List.append_nil] at hP
   refine cL (fun m a h'=>∃k:Nat,m=M.E.length - k∧(Ext h h')∧(k≤M.E.length)∧(∀i,i<k→M.E[i]? =N.E[i]?)∧(Fr a 94 [(1,.pointer (some ⟨nb,0,none⟩)),(75,.slice ea M.E.length ec),(76,.int .i64 ((M.E.length :Nat):Int)),(77,.int .i64 ((k:Nat):Int))])) (M.E.length - 0) ⟨0,rfl,s,(by omega),(fun i h=>absurd h (Nat.not_lt_zero i)),d.to⟩ ?_
   clear d a
   clear s
   rintro m a h3 ⟨k,rfl,s,hk,c1,d⟩
   refine qP [(78,.bool (decide (((k:Nat):Int)<((M.E.length :Nat):Int))))] d fun a d=>cS<|cJ 78 d (fun d5=> ?_) fun d5=> ?_
   ·have d6:k<M.E.length :=by omega
    obtain⟨e,he⟩:∃e,M.E[k]? =some e:=⟨_,List.getElem?_eq_getElem d6⟩
    obtain⟨e2,b3⟩:∃e,N.E[k]? =some e:=⟨_,List.getElem?_eq_getElem (by omega)⟩
    obtain⟨e5,xa,xc,d7,c2⟩:=md.en.2 k e he
    obtain⟨_,c3,c4,b0,b1⟩:=sq.en.2 k e2 b3
    have X:=d
    obtain⟨aa,rfl,c5⟩:=md.er.1.1.bf (by omega)
    have d:=X;clear X
    have X:=d
    obtain⟨S,rfl,b8⟩:=sq.er.1.1.bf (by omega)
    have d:=X;clear X
    refine cN<|tK<|cS<|cB 3<|qS d<|tI 1 aa M.E.length 1 k k<|tC 2 (.slice xa e.length xc) (Calm.load (T:=32) (p:=(Addr.add aa k)) (by kernel_rfl) (Loads.one (k:=1) (by kernel_rfl) ((md.er.1.1.ext s).cells _ _ d7))) ?_
    refine sT [(9,nV k),(10,.slice xa e.length xc)] fun a d=>cS ?_
    rcases Classical.em (e=e2) with Y|Y
    ·refine cD [0,1,0,4,12,28,0,124,252,508,1023] 12 mixed d<|mP 1 [0] [.slice xa e.length xc]<|mL 3 2 1 (.string (ByteArray.mk e.toArray)) (Calm.str (l:=e) (by kernel_rfl) (c2.1.1.ext s))<|mP 31 [2,3,4] [pV nb,pV nb,.pointer (some ⟨nb,1,none⟩)]<|mO 63 34 5 1 (.slice (some S) N.E.length Ac) (s.blk C)<|mP 127 [6] [nV k]<|mI 255 7 S N.E.length 1 k k ?_
     refine mL 511 290 8 (.slice c3 e2.length c4) (Calm.load (T:=32) (p:=(Addr.add S k)) (by kernel_rfl) (Loads.one (k:=1) (by kernel_rfl) ((sq.er.1.1.ext s).cells _ _ b0)))<|mL 1023 802 9 (.string (ByteArray.mk e2.toArray)) (Calm.str (l:=e2) (by kernel_rfl) (b1.1.1.ext s))<|m1 2047 10 (.bool false) (.bool (!((ByteArray.mk e.toArray).toList ==(ByteArray.mk e2.toArray).toList))) (congrArg Value.bool (xM Y))<|mE [(92,.bool false)] fun a d=>tK<|cF 92 d<|cN ?_
     refine bK<|tK<|rS d<|tA 0 k 1<|sE [(77,nV (k+1))] fun a d=> ?_
     show ∃m',m'<_∧_
     refine⟨_,?_,(k+1),rfl,s,(by omega),(vC c1 (by rw[he,b3,Y])),d.to⟩
     omega
    ·have F:=BM he b3 Y
     refine cD [0,1,0,4,12,28,0,124,252,508,1023] 12 mixed d<|mP 1 [0] [.slice xa e.length xc]<|mL 3 2 1 (.string (ByteArray.mk e.toArray)) (Calm.str (l:=e) (by kernel_rfl) (c2.1.1.ext s))<|mP 31 [2,3,4] [pV nb,pV nb,.pointer (some ⟨nb,1,none⟩)]<|mO 63 34 5 1 (.slice (some S) N.E.length Ac) (s.blk C)<|mP 127 [6] [nV k]<|mI 255 7 S N.E.length 1 k k ?_
     refine mL 511 290 8 (.slice c3 e2.length c4) (Calm.load (T:=32) (p:=(Addr.add S k)) (by kernel_rfl) (Loads.one (k:=1) (by kernel_rfl) ((sq.er.1.1.ext s).cells _ _ b0)))<|mL 1023 802 9 (.string (ByteArray.mk e2.toArray)) (Calm.str (l:=e2) (by kernel_rfl) (b1.1.1.ext s))<|m1 2047 10 (.bool true) (.bool (!((ByteArray.mk e.toArray).toList ==(ByteArray.mk e2.toArray).toList))) (congrArg Value.bool (xK Y))<|mE [(92,.bool true)] fun a d=>tK<|cT 92 d<|qP [(4,.bool false)] d fun a d=> ?_
     refine cR (yB (yT (yT (yB (yT ?_)))))
     exact rT 4 (.bool false) d<|⟨congrArg Value.bool (gq F).symm,s⟩
   ·refine cX 2 (xT (xT (xB ?_)))
    exact tK<|qP [(4,.bool true)] d fun a d=>cR<|rT 4 (.bool true) d<|⟨congrArg Value.bool (xH ⟨md.C0 sq a5 fun x hx=>a9 x (hP.mem_iff.2 hx),xJ a5 c1 (by omega)⟩).symm,s⟩
  ·refine rS d<|tF 0 (gV (by kernel_rfl) z (s.blk hp) hP md.bo hR) ?_
   rintro _ h5 ⟨x,R',c6,e6,c7,rfl,hh⟩
   obtain⟨b2,gi⟩:=jB hh z
   replace s:=s.grew gi (u.l 0)
   replace z:=z
   replace u:=u.up gi.size
   clear z;have z:=b2;clear b2 hh gi
   have I:=hg x c7
   have e7:D.length <L.length :=by have:=c6.length_eq;simp at this;omega
   refine sE [(41,.bool true)] fun a d=>tK<|cS<|cT 41 d<|cN<|tK<|cB 1 ?_
   refine qS d<|tC 0 (.tuple #[.string x.1,.agg (dn ((aJ c x).b) ((aJ c x).e) ((aJ c x).ho) ((aJ c x).go) (.slice (aJ c x).ad ((aJ c x).n) ((aJ c x).cap)) (.slice (c x).ba ((c x).o.dt.length) ((c x).bc))).toArray]) (ma (by kernel_rfl) z (s.blk hp) c7 md.bo I.hv)<|tN 3 (pV h5.size) ((dj (.slice none 0 0)).toArray) 101 fun h6 g7 G=> ?_
   replace u:=u.nw s.size G
   refine bt 5 (dn ((aJ c x).b) ((aJ c x).e) ((aJ c x).ho) ((aJ c x).go) (.slice (aJ c x).ad ((aJ c x).n) ((aJ c x).cap)) (.slice (c x).ba ((c x).o.dt.length) ((c x).bc))) G fun U H zq=> ?_
   replace G:=zq
   refine sT [(5,.string x.1),(6,pV h5.size)] fun a d=>cS ?_
   rcases CW N x.1 (c x).o with c8|⟨q,V,J|⟨J,Z⟩|⟨J,Z⟩⟩
   ·have F:=Aa I.hf c8
    refine rS d ?_
    replace s:=(s.ext g7).grew H (u.l 0)
    refine tO 3 0 (s.blk C)<|tC 5 (.tuple #[.agg (dj (.slice none 0 0)).toArray,.bool false]) (oK (t:=81) 9 101 (by kernel_rfl) (by kernel_rfl) (by kernel_rfl) (.agg (dj (.slice none 0 0)).toArray) (by kernel_rfl) (s.blk Q) (sq.C1 c8))<|tN 9 (pV U.size) ((dj (.slice none 0 0)).toArray) 101 fun e8 d8 c9=> ?_
    replace u:=(u.up H.size).nw s.size c9
    refine bt 10 (dj (.slice none 0 0)) c9 fun e9 d9 zq=>sE [(7,pV U.size),(8,.bool false)] fun a d=>tK<|cS<|cD [0,1,3,7,15,7,63,127,255,511,1023,2047,4095,1023,9215,25599,65535,131071] 7 mixed d<|mP 262143 [0,1,2,3,4,5,6,7,8,9,10,11,12,13,14,15,16,17] [.bool false,.bool true,.bool true,undef,undef,undef,undef,undef,.bool true,.bool true,undef,undef,undef,undef,undef,undef,undef,.bool true]<|mE [(71,.bool true)] fun a d=> ?_
    refine tK<|cT 71 d<|qP [(4,.bool false)] d fun a d=>cR (yB (yT (yB (yT ?_))))
    refine rT 4 (.bool false) d ?_
    replace s:=(s.ext d8).grew d9 (u.l 0)
    exact⟨congrArg Value.bool (gq F).symm,s⟩
   ·obtain⟨x2,a0,a1,O,P,ba,bc,a2,a6⟩:=sq.at V
    have F:=uv I.hf V (CX J)
    refine rS d ?_
    replace s:=(s.ext g7).grew H (u.l 0)
    refine tO 3 0 (s.blk C)<|tC 5 (.tuple #[.agg (dn q.b q.e q.ho q.go (.slice O 0 P) (.slice ba q.dt.length bc)).toArray,.bool true]) (iv (t:=81) 9 101 (by kernel_rfl) (by kernel_rfl) (by kernel_rfl) (.agg (dj (.slice none 0 0)).toArray) (by kernel_rfl) (s.blk Q) a0 a1 sq.nd a2)<|tN 9 (pV U.size) ((dj (.slice none 0 0)).toArray) 101 fun f0 d0 K=> ?_
    replace u:=(u.up H.size).nw s.size K
    refine bt 10 (dn q.b q.e q.ho q.go (.slice O 0 P) (.slice ba q.dt.length bc)) K fun f1 d1 zq=> ?_
    replace K:=zq
    refine sE [(7,pV U.size),(8,.bool true)] fun a d=>tK<|cS<|cD [0,1,3,7,15,7,63,127,255,511,1023,2047,4095,1023,9215,25599,65535,131071] 7 mixed d<|mP 7 [0,1,2] [.bool true,.bool false,.bool false] ?_
    replace G:=(G.x d0).y d1 (u.bp 1 0)
    refine mR 15 8 3 G<|mR 47 40 5 K<|gD 63 31 4 [5] (Does.call (f:=45) (args:= #[.agg (dn ((aJ c x).b) ((aJ c x).e) ((aJ c x).ho) ((aJ c x).go) (.slice (aJ c x).ad ((aJ c x).n) ((aJ c x).cap)) (.slice (c x).ba ((c x).o.dt.length) ((c x).bc))).toArray]) (by kernel_rfl) (ft _ (aJ c x).b ((aJ c x).e) ((aJ c x).ho) ((aJ c x).go) (.slice (aJ c x).ad ((aJ c x).n) ((aJ c x).cap)) (.slice (c x).ba ((c x).o.dt.length) ((c x).bc)))) ?_
    rintro _ f2 ⟨rfl,d2⟩
    replace K:=K.x d2
    refine⟨?_,?_⟩
    ·intro j hj
     simp only[List.mem_cons,List.not_mem_nil,or_false] at hj
     subst hj
     exact aE (Calm.load (T:=101) (p:=⟨U.size,0,none⟩) (by kernel_rfl) (Loads.blk (vs:=dn q.b q.e q.ho q.go (.slice O 0 P) (.slice ba q.dt.length bc)) (by kernel_rfl) K rfl))
    refine gC 127 127 6 (ft _ q.b q.e q.ho q.go (.slice O 0 P) (.slice ba q.dt.length bc)) ?_
    rintro _ f3 ⟨rfl,e1⟩
    refine mF 255 7 (.bool true) (Calm.CM (q:=false) (r:=false) (by kernel_rfl) fun w=>(jD ((aJ c x).b) ((aJ c x).e) ((aJ c x).ho) ((aJ c x).go) q.b q.e q.ho q.go w).trans (congrArg (fun b=>Result.ok b w) J))<|mP 262143 [8,9,10,11,12,13,14,15,16,17] [.bool true,.bool true,undef,undef,undef,undef,undef,undef,undef,.bool true]<|mE [(71,.bool true)] fun a d=>tK<|cT 71 d<|qP [(4,.bool false)] d fun a d=>cR (yB (yT (yB (yT ?_))))
    refine rT 4 (.bool false) d ?_
    replace s:=(((s.ext d0).grew d1 (u.l 0)).ext d2).ext e1
    exact⟨congrArg Value.bool (gq F).symm,s⟩
   ·obtain⟨x2,a0,a1,O,P,ba,bc,a2,a6⟩:=sq.at V
    have F:=uv I.hf V (CY Z)
    refine rS d ?_
    replace s:=(s.ext g7).grew H (u.l 0)
    refine tO 3 0 (s.blk C)<|tC 5 (.tuple #[.agg (dn q.b q.e q.ho q.go (.slice O 0 P) (.slice ba q.dt.length bc)).toArray,.bool true]) (iv (t:=81) 9 101 (by kernel_rfl) (by kernel_rfl) (by kernel_rfl) (.agg (dj (.slice none 0 0)).toArray) (by kernel_rfl) (s.blk Q) a0 a1 sq.nd a2)<|tN 9 (pV U.size) ((dj (.slice none 0 0)).toArray) 101 fun f4 d3 B=> ?_
    replace u:=(u.up H.size).nw s.size B
    refine bt 10 (dn q.b q.e q.ho q.go (.slice O 0 P) (.slice ba q.dt.length bc)) B fun f5 d4 zq=> ?_
    replace B:=zq
    refine sE [(7,pV U.size),(8,.bool true)] fun a d=>tK<|cS<|cD [0,1,3,7,15,7,63,127,255,511,1023,2047,4095,1023,9215,25599,65535,131071] 7 mixed d<|mP 7 [0,1,2] [.bool true,.bool false,.bool false] ?_
    replace G:=(G.x d3).y d4 (u.bp 1 0)
    refine mR 15 8 3 G<|mR 47 40 5 B<|gD 63 31 4 [5] (Does.call (f:=45) (args:= #[.agg (dn ((aJ c x).b) ((aJ c x).e) ((aJ c x).ho) ((aJ c x).go) (.slice (aJ c x).ad ((aJ c x).n) ((aJ c x).cap)) (.slice (c x).ba ((c x).o.dt.length) ((c x).bc))).toArray]) (by kernel_rfl) (ft _ (aJ c x).b ((aJ c x).e) ((aJ c x).ho) ((aJ c x).go) (.slice (aJ c x).ad ((aJ c x).n) ((aJ c x).cap)) (.slice (c x).ba ((c x).o.dt.length) ((c x).bc)))) ?_
    rintro _ f6 ⟨rfl,b5⟩
    replace B:=B.x b5
    refine⟨?_,?_⟩
    ·intro j hj
     simp only[List.mem_cons,List.not_mem_nil,or_false] at hj
     subst hj
     exact aE (Calm.load (T:=101) (p:=⟨U.size,0,none⟩) (by kernel_rfl) (Loads.blk (vs:=dn q.b q.e q.ho q.go (.slice O 0 P) (.slice ba q.dt.length bc)) (by kernel_rfl) B rfl))
    refine gC 127 127 6 (ft _ q.b q.e q.ho q.go (.slice O 0 P) (.slice ba q.dt.length bc)) ?_
    rintro _ f7 ⟨rfl,b6⟩
    refine mF 255 7 (.bool false) (Calm.CM (q:=false) (r:=true) (by kernel_rfl) fun w=>(jD ((aJ c x).b) ((aJ c x).e) ((aJ c x).ho) ((aJ c x).go) q.b q.e q.ho q.go w).trans (congrArg (fun b=>Result.ok b w) J))<|mP 2047 [8,9,10] [.bool false,.bool false,.pointer (some ⟨h5.size,39,none⟩)] ?_
    replace G:=(G.x b5).x b6
    refine mO 4095 2088 11 39 (.slice (c x).ba ((c x).o.dt.length) ((c x).bc)) G ?_
    replace s:=(((s.ext d3).grew d4 (u.l 0)).ext b5).ext b6
    refine mL 8191 6184 12 (.string (ByteArray.mk (c x).o.dt.toArray)) (Calm.str (l:=(c x).o.dt) (by kernel_rfl) (I.rd.1.ext s))<|mP 16383 [13] [.pointer (some ⟨U.size,39,none⟩)] ?_
    replace B:=B.x b6
    refine mO 32767 22568 14 39 (.slice ba q.dt.length bc) B<|mL 65535 55336 15 (.string (ByteArray.mk q.dt.toArray)) (Calm.str (l:=q.dt) (by kernel_rfl) (a6.1.ext s))<|m1 131071 16 (.bool true) (.bool (!((ByteArray.mk (c x).o.dt.toArray).toList ==(ByteArray.mk q.dt.toArray).toList))) (congrArg Value.bool (xK Z))<|mP 262143 [17] [.bool true]<|mE [(71,.bool true)] fun a d=>tK<|cT 71 d ?_
    refine qP [(4,.bool false)] d fun a d=>cR (yB (yT (yB (yT ?_))))
    exact rT 4 (.bool false) d<|⟨congrArg Value.bool (gq F).symm,s⟩
   ·obtain⟨x2,a0,a1,O,P,ba,bc,a2,a6⟩:=sq.at V
    refine rS d ?_
    replace s:=(s.ext g7).grew H (u.l 0)
    refine tO 3 0 (s.blk C)<|tC 5 (.tuple #[.agg (dn q.b q.e q.ho q.go (.slice O 0 P) (.slice ba q.dt.length bc)).toArray,.bool true]) (iv (t:=81) 9 101 (by kernel_rfl) (by kernel_rfl) (by kernel_rfl) (.agg (dj (.slice none 0 0)).toArray) (by kernel_rfl) (s.blk Q) a0 a1 sq.nd a2)<|tN 9 (pV U.size) ((dj (.slice none 0 0)).toArray) 101 fun f8 b7 A=> ?_
    replace u:=(u.up H.size).nw s.size A
    refine bt 10 (dn q.b q.e q.ho q.go (.slice O 0 P) (.slice ba q.dt.length bc)) A fun f9 a7 zq=> ?_
    replace A:=zq
    refine sE [(7,pV U.size),(8,.bool true)] fun a d=>tK<|cS<|cD [0,1,3,7,15,7,63,127,255,511,1023,2047,4095,1023,9215,25599,65535,131071] 7 mixed d<|mP 7 [0,1,2] [.bool true,.bool false,.bool false] ?_
    replace G:=(G.x b7).y a7 (u.bp 1 0)
    refine mR 15 8 3 G<|mR 47 40 5 A<|gD 63 31 4 [5] (Does.call (f:=45) (args:= #[.agg (dn ((aJ c x).b) ((aJ c x).e) ((aJ c x).ho) ((aJ c x).go) (.slice (aJ c x).ad ((aJ c x).n) ((aJ c x).cap)) (.slice (c x).ba ((c x).o.dt.length) ((c x).bc))).toArray]) (by kernel_rfl) (ft _ (aJ c x).b ((aJ c x).e) ((aJ c x).ho) ((aJ c x).go) (.slice (aJ c x).ad ((aJ c x).n) ((aJ c x).cap)) (.slice (c x).ba ((c x).o.dt.length) ((c x).bc)))) ?_
    rintro _ g0 ⟨rfl,a3⟩
    replace A:=A.x a3
    refine⟨?_,?_⟩
    ·intro j hj
     simp only[List.mem_cons,List.not_mem_nil,or_false] at hj
     subst hj
     exact aE (Calm.load (T:=101) (p:=⟨U.size,0,none⟩) (by kernel_rfl) (Loads.blk (vs:=dn q.b q.e q.ho q.go (.slice O 0 P) (.slice ba q.dt.length bc)) (by kernel_rfl) A rfl))
    refine gC 127 127 6 (ft _ q.b q.e q.ho q.go (.slice O 0 P) (.slice ba q.dt.length bc)) ?_
    rintro _ g1 ⟨rfl,a4⟩
    refine mF 255 7 (.bool false) (Calm.CM (q:=false) (r:=true) (by kernel_rfl) fun w=>(jD ((aJ c x).b) ((aJ c x).e) ((aJ c x).ho) ((aJ c x).go) q.b q.e q.ho q.go w).trans (congrArg (fun b=>Result.ok b w) J))<|mP 2047 [8,9,10] [.bool false,.bool false,.pointer (some ⟨h5.size,39,none⟩)] ?_
    replace G:=(G.x a3).x a4
    refine mO 4095 2088 11 39 (.slice (c x).ba ((c x).o.dt.length) ((c x).bc)) G ?_
    replace s:=(((s.ext b7).grew a7 (u.l 0)).ext a3).ext a4
    refine mL 8191 6184 12 (.string (ByteArray.mk (c x).o.dt.toArray)) (Calm.str (l:=(c x).o.dt) (by kernel_rfl) (I.rd.1.ext s))<|mP 16383 [13] [.pointer (some ⟨U.size,39,none⟩)] ?_
    replace A:=A.x a4
    refine mO 32767 22568 14 39 (.slice ba q.dt.length bc) A<|mL 65535 55336 15 (.string (ByteArray.mk q.dt.toArray)) (Calm.str (l:=q.dt) (by kernel_rfl) (a6.1.ext s))<|m1 131071 16 (.bool false) (.bool (!((ByteArray.mk (c x).o.dt.toArray).toList ==(ByteArray.mk q.dt.toArray).toList))) (congrArg Value.bool (xM Z))<|mP 262143 [17] [.bool false]<|mE [(71,.bool false)] fun a d=>tK<|cF 71 d ?_
    refine cN<|bK ?_
    clear G
    clear A
    replace z:=a4.blk (a3.blk (a7.blk (b7.blk (H.blk (g7.blk z) (u.bp 2 1))) (u.bp 2 0)))
    replace u:=((u.up a7.size).up a3.size).up a4.size
    replace u:=u.sub (l':=[some (h.size)]) (.cons _ (.cons _ (.cons_cons _ (.slnil))))
    show ∃m',m'<_∧_
    refine⟨_,?_,(D++[x]),R',rfl,s,c6,(xP a9 (Ab I.hf V ⟨J,Z⟩)),z,u,d.to⟩
    omega
 ·have F:=xI a5
  refine cD [0,1,3,7,15,0,32,96,224,511,1023,2047,4095,8191,16383,32767,65535,4095,135167,397311,921599,1970175,4194303,8388607] 1 mixed d<|mP 7 [0,1,2] [pV mb,pV mb,pV mb]<|mO 15 8 3 0 (.map (some mp)) (s.blk hm)<|mL 31 24 4 (.int .i64 ((L.length :Nat):Int)) (Calm.lS (by kernel_rfl) (s.blk hp) rfl)<|mP 255 [5,6,7] [pV nb,pV nb,pV nb]<|mO 511 280 8 0 (.map (some np)) (s.blk C)<|mL 1023 792 9 (.int .i64 ((L2.length :Nat):Int)) (Calm.lS (by kernel_rfl) (s.blk Q) rfl) ?_
  refine E3 2047 10 ((L.length :Nat):Int) ((L2.length :Nat):Int)<|mP 16777215 [11,12,13,14,15,16,17,18,19,20,21,22,23] [.bool true,undef,undef,undef,undef,undef,undef,undef,undef,undef,undef,undef,.bool true]<|mE [(34,.bool true)] fun a d=>tK<|cT 34 d<|qP [(4,.bool false)] d fun a d=>cR (yT ?_)
  exact rT 4 (.bool false) d<|⟨congrArg Value.bool (gq F).symm,s⟩
noncomputable def b19:Code:=Tryz.f19.body.getD .skip
noncomputable def b55:Code:=Tryz.f55.body.getD .skip
theorem xS(h:Heap)(kd n:Int)(s:ByteArray)(oa:Option Addr)(on oc:Nat)(ka:Option Addr)(kn kc:Nat):Sat Tryz.prog 55 #[.agg #[.int .i64 kd,.string s,.slice oa on oc,.int .i64 n,.slice ka kn kc]] h fun v h'=>v= .tuple #[.bool (ak kd).1,.bool (ak kd).2]∧Ext h h':=by
 have c:=Ext.refl h
 refine ag Tryz.func55 20 fun a b=>qS b<|tN 0 (pV h.size) #[.int .i64 kd,.string s,.slice oa on oc,.int .i64 n,.slice ka kn kc] 35 fun F d E=>sT [(1,pV h.size)] fun a b=>cS<|qS b<|tO 1 0 E ?_
 refine sT [(5,.int .i64 kd)] fun a b=>cB 0<|cS<|qP [(6,.bool (decide (kd=(1:Int))))] b fun a b=>cJ 6 b (fun w=> ?_) fun w=> ?_
 ·refine cN<|tK<|cJ 6 b (fun x=> ?_) fun x=>absurd w x
  refine qP [(2,.bool true),(3,.bool true)] b fun a b=>cR (yB (yT ?_))
  refine aA [.tmp 2,.tmp 3] [.bool true,.bool true] (.tuple #[.bool true,.bool true]) rfl b ⟨rfl,rfl,trivial⟩ rfl ?_
  replace c:=c.ext d
  rw[bS (by omega)];exact⟨rfl,c⟩
 ·refine qP [(6,.bool (decide (kd=(4:Int))))] b fun a b=>cJ 6 b (fun y=> ?_) fun y=> ?_
  ·refine cN<|tK<|cJ 6 b (fun z=> ?_) fun z=>absurd y z
   refine qP [(2,.bool true),(3,.bool true)] b fun a b=>cR (yB (yT ?_))
   refine aA [.tmp 2,.tmp 3] [.bool true,.bool true] (.tuple #[.bool true,.bool true]) rfl b ⟨rfl,rfl,trivial⟩ rfl ?_
   replace c:=c.ext d
   rw[bS (by omega)];exact⟨rfl,c⟩
  ·refine qP [(6,.bool (decide (kd=(5:Int))))] b fun a b=>cJ 6 b (fun A=> ?_) fun A=> ?_
   ·refine cN<|tK<|cJ 6 b (fun B=> ?_) fun B=>absurd A B
    refine qP [(2,.bool true),(3,.bool true)] b fun a b=>cR (yB (yT ?_))
    refine aA [.tmp 2,.tmp 3] [.bool true,.bool true] (.tuple #[.bool true,.bool true]) rfl b ⟨rfl,rfl,trivial⟩ rfl ?_
    replace c:=c.ext d
    rw[bS (by omega)];exact⟨rfl,c⟩
   ·refine rP [(6,.bool (decide (kd=(6:Int))))] b fun a b=>tK<|cJ 6 b (fun C=> ?_) fun C=> ?_
    ·refine qP [(2,.bool true),(3,.bool true)] b fun a b=>cR (yB (yT ?_))
     refine aA [.tmp 2,.tmp 3] [.bool true,.bool true] (.tuple #[.bool true,.bool true]) rfl b ⟨rfl,rfl,trivial⟩ rfl ?_
     replace c:=c.ext d
     rw[bS (by omega)];exact⟨rfl,c⟩
    ·refine cS<|qP [(11,.bool (decide (kd=(2:Int))))] b fun a b=>cJ 11 b (fun e=> ?_) fun e=> ?_
     ·refine cN<|tK<|cJ 11 b (fun f=> ?_) fun f=>absurd e f
      refine qP [(2,.bool true),(3,.bool false)] b fun a b=>cR (yB (yT ?_))
      refine aA [.tmp 2,.tmp 3] [.bool true,.bool false] (.tuple #[.bool true,.bool false]) rfl b ⟨rfl,rfl,trivial⟩ rfl ?_
      replace c:=c.ext d
      rw[bO (by omega) (by omega)];exact⟨rfl,c⟩
     ·refine qP [(11,.bool (decide (kd=(3:Int))))] b fun a b=>cJ 11 b (fun g=> ?_) fun g=> ?_
      ·refine cN<|tK<|cJ 11 b (fun i=> ?_) fun i=>absurd g i
       refine qP [(2,.bool true),(3,.bool false)] b fun a b=>cR (yB (yT ?_))
       refine aA [.tmp 2,.tmp 3] [.bool true,.bool false] (.tuple #[.bool true,.bool false]) rfl b ⟨rfl,rfl,trivial⟩ rfl ?_
       replace c:=c.ext d
       rw[bO (by omega) (by omega)];exact⟨rfl,c⟩
      ·refine qP [(11,.bool (decide (kd=(7:Int))))] b fun a b=>cJ 11 b (fun j=> ?_) fun j=> ?_
       ·refine cN<|tK<|cJ 11 b (fun k=> ?_) fun k=>absurd j k
        refine qP [(2,.bool true),(3,.bool false)] b fun a b=>cR (yB (yT ?_))
        refine aA [.tmp 2,.tmp 3] [.bool true,.bool false] (.tuple #[.bool true,.bool false]) rfl b ⟨rfl,rfl,trivial⟩ rfl ?_
        replace c:=c.ext d
        rw[bO (by omega) (by omega)];exact⟨rfl,c⟩
       ·refine qP [(11,.bool (decide (kd=(8:Int))))] b fun a b=>cJ 11 b (fun l=> ?_) fun l=> ?_
        ·refine cN<|tK<|cJ 11 b (fun m=> ?_) fun m=>absurd l m
         refine qP [(2,.bool true),(3,.bool false)] b fun a b=>cR (yB (yT ?_))
         refine aA [.tmp 2,.tmp 3] [.bool true,.bool false] (.tuple #[.bool true,.bool false]) rfl b ⟨rfl,rfl,trivial⟩ rfl ?_
         replace c:=c.ext d
         rw[bO (by omega) (by omega)];exact⟨rfl,c⟩
        ·refine qP [(11,.bool (decide (kd=(9:Int))))] b fun a b=>cJ 11 b (fun o=> ?_) fun o=> ?_
         ·refine cN<|tK<|cJ 11 b (fun p=> ?_) fun p=>absurd o p
          refine qP [(2,.bool true),(3,.bool false)] b fun a b=>cR (yB (yT ?_))
          refine aA [.tmp 2,.tmp 3] [.bool true,.bool false] (.tuple #[.bool true,.bool false]) rfl b ⟨rfl,rfl,trivial⟩ rfl ?_
          replace c:=c.ext d
          rw[bO (by omega) (by omega)];exact⟨rfl,c⟩
         ·refine qP [(11,.bool (decide (kd=(11:Int))))] b fun a b=>cJ 11 b (fun q=> ?_) fun q=> ?_
          ·refine cN<|tK<|cJ 11 b (fun r=> ?_) fun r=>absurd q r
           refine qP [(2,.bool true),(3,.bool false)] b fun a b=>cR (yB (yT ?_))
           refine aA [.tmp 2,.tmp 3] [.bool true,.bool false] (.tuple #[.bool true,.bool false]) rfl b ⟨rfl,rfl,trivial⟩ rfl ?_
           replace c:=c.ext d
           rw[bO (by omega) (by omega)];exact⟨rfl,c⟩
          ·refine qP [(11,.bool (decide (kd=(15:Int))))] b fun a b=>cJ 11 b (fun t=> ?_) fun t=> ?_
           ·refine cN<|tK<|cJ 11 b (fun u=> ?_) fun u=>absurd t u
            refine qP [(2,.bool true),(3,.bool false)] b fun a b=>cR (yB (yT ?_))
            refine aA [.tmp 2,.tmp 3] [.bool true,.bool false] (.tuple #[.bool true,.bool false]) rfl b ⟨rfl,rfl,trivial⟩ rfl ?_
            replace c:=c.ext d
            rw[bO (by omega) (by omega)];exact⟨rfl,c⟩
           ·refine rP [(11,.bool (decide (kd=(16:Int))))] b fun a b=>tK<|cJ 11 b (fun D=> ?_) fun D=> ?_
            ·refine qP [(2,.bool true),(3,.bool false)] b fun a b=>cR (yB (yT ?_))
             refine aA [.tmp 2,.tmp 3] [.bool true,.bool false] (.tuple #[.bool true,.bool false]) rfl b ⟨rfl,rfl,trivial⟩ rfl ?_
             replace c:=c.ext d
             rw[bO (by omega) (by omega)];exact⟨rfl,c⟩
            ·refine cN<|bK<|tK<|qP [(2,.bool false),(3,.bool false)] b fun a b=>cR<|aA [.tmp 2,.tmp 3] [.bool false,.bool false] (.tuple #[.bool false,.bool false]) rfl b ⟨rfl,rfl,trivial⟩ rfl ?_
             replace c:=c.ext d
             rw[dY (by omega) (by omega)];exact⟨rfl,c⟩
noncomputable def b94:Code:=Tryz.f94.body.getD .skip
theorem Ad(h:Heap)(l r:List ByteArray)(va:Option Addr)(vc:Nat)(vb:Option Addr)(vd:Nat)(hl1:ay h (.slice va l.length vc) l.length 1 (l.map Value.string))(hr1:ay h (.slice vb r.length vd) r.length 1 (r.map Value.string))(hlb:l.length ≤1099511627776):Sat Tryz.prog 94 #[.slice va l.length vc,.slice vb r.length vd] h fun v h'=>v= .bool (decide (l=r))∧h'=h:=by
 refine ag Tryz.func94 26 fun a c=>qP [] c fun a c=>cS<|cS ?_
 rcases Nat.decEq l.length r.length with g|g
 ·refine rS c<|uT 4 ((l.length :Nat):Int) ((r.length :Nat):Int)<|sE [(10,.bool true)] fun a c=>tK<|cT 10 c<|qP [(4,.bool false)] c fun a c=>cR (yT ?_)
  exact rT 4 (.bool false) c<|⟨by rw[decide_eq_false (fun e=>g (by rw[e]))],rfl⟩
 ·refine rS c<|uF 4 ((l.length :Nat):Int) ((r.length :Nat):Int)<|sE [(10,.bool false)] fun a c=>tK<|cF 10 c<|cN<|tK ?_
  refine cS<|qP [(12,nV l.length),(13,.int .i64 0)] c fun a c=>cB 0<|cL (fun m a h'=>∃k:Nat,m=l.length - k∧(h'=h)∧(k≤l.length)∧(l.take k=r.take k)∧(Fr a 26 [(0,.slice va l.length vc),(1,.slice vb r.length vd),(12,.int .i64 ((l.length :Nat):Int)),(13,.int .i64 ((k:Nat):Int))])) (l.length - 0) ⟨0,rfl,rfl,(by omega),rfl,c.to⟩ ?_
  clear c a
  rintro m a z ⟨k,rfl,j,A,q,c⟩
  refine qP [(14,.bool (decide (((k:Nat):Int)<((l.length :Nat):Int))))] c fun a c=>cS<|cJ 14 c (fun s=> ?_) fun s=> ?_
  ·have t:k<l.length :=by omega
   have f:=c
   obtain⟨u,rfl,n⟩:=hl1.1.bf (by omega)
   have c:=f;clear f
   have f:=c
   obtain⟨w,rfl,o⟩:=hr1.1.bf (by omega)
   have c:=f;clear f
   refine cN<|tK<|cS<|cB 1<|qP [(5,nV k)] c fun a c=>cS<|cD [0,0,3,7,0,0,48,112,255] 6 mixed c ?_
   refine mP 3 [0,1] [.slice (some u) l.length vc,nV k]<|mI 7 2 u l.length 1 k k<|mL 15 8 3 (.string (l.getD k ByteArray.empty)) (Calm.load (T:=9) (p:=(Addr.add u k)) (by kernel_rfl) (Loads.one (k:=1) (by kernel_rfl) (j▸Row.str hl1.1 (by omega))))<|mP 63 [4,5] [.slice (some w) r.length vd,nV k]<|mI 127 6 w r.length 1 k k<|mL 255 136 7 (.string (r.getD k ByteArray.empty)) (Calm.load (T:=9) (p:=(Addr.add w k)) (by kernel_rfl) (Loads.one (k:=1) (by kernel_rfl) (j▸Row.str hr1.1 (by omega))))<|m1 511 8 (.bool (!decide ((l.getD k ByteArray.empty)=(r.getD k ByteArray.empty)))) (.bool (!((l.getD k ByteArray.empty).toList ==(r.getD k ByteArray.empty).toList))) (congrArg (fun b=>Value.bool (!b)) (jE _ _)) ?_
   refine mE [(24,.bool (!decide ((l.getD k ByteArray.empty)=(r.getD k ByteArray.empty))))] fun a c=>tK<|cI 24 c (fun i=> ?_) fun i=> ?_
   ·have x:=mf i
    refine qP [(4,.bool false)] c fun a c=>cR (yB (yT (yT (yB (yT ?_)))))
    exact rT 4 (.bool false) c<|⟨by rw[decide_eq_false x],j⟩
   ·have y:=i
    refine cN<|bK<|tK<|rS c<|tA 0 k 1<|sE [(13,nV (k+1))] fun a c=> ?_
    show ∃m',m'<_∧_
    refine⟨_,?_,(k+1),rfl,j,(by omega),(qb (d:=ByteArray.empty) q t (by omega) y),c.to⟩
    omega
  ·refine cX 0 (xT (xT (xB ?_)))
   refine tK<|qP [(4,.bool true)] c fun a c=>cR<|rT 4 (.bool true) c ?_
   obtain rfl:k=l.length :=by omega
   rw[List.take_length,g,List.take_length] at q
   exact⟨by rw[decide_eq_true q],j⟩
noncomputable def b95:Code:=Tryz.f95.body.getD .skip
theorem xU(h:Heap)(l r:List (List UInt8))(va:Option Addr)(vc:Nat)(vb:Option Addr)(vd:Nat)(hl1:ay h (.slice va l.length vc) l.length 32 (hcs l))(hr1:ay h (.slice vb r.length vd) r.length 32 (hcs r))(h32:aq l)(C2:aq r)(hlb:l.length ≤1099511627776):Sat Tryz.prog 95 #[.slice va l.length vc,.slice vb r.length vd] h fun v h'=>v= .bool (decide (l=r))∧h'=h:=by
 refine ag Tryz.func95 26 fun a b=>qP [] b fun a b=>cS<|cS ?_
 rcases Nat.decEq l.length r.length with f|f
 ·refine rS b<|uT 4 ((l.length :Nat):Int) ((r.length :Nat):Int)<|sE [(10,.bool true)] fun a b=>tK<|cT 10 b<|qP [(4,.bool false)] b fun a b=>cR (yT ?_)
  exact rT 4 (.bool false) b<|⟨by rw[decide_eq_false (fun e=>f (by rw[e]))],rfl⟩
 ·refine rS b<|uF 4 ((l.length :Nat):Int) ((r.length :Nat):Int)<|sE [(10,.bool false)] fun a b=>tK<|cF 10 b<|cN<|tK ?_
  refine cS<|qP [(12,nV l.length),(13,.int .i64 0)] b fun a b=>cB 0<|cL (fun m a h'=>∃k:Nat,m=l.length - k∧(h'=h)∧(k≤l.length)∧(l.take k=r.take k)∧(Fr a 26 [(0,.slice va l.length vc),(1,.slice vb r.length vd),(12,.int .i64 ((l.length :Nat):Int)),(13,.int .i64 ((k:Nat):Int))])) (l.length - 0) ⟨0,rfl,rfl,(by omega),rfl,b.to⟩ ?_
  clear b a
  rintro m a y ⟨k,rfl,i,z,s,b⟩
  refine qP [(14,.bool (decide (((k:Nat):Int)<((l.length :Nat):Int))))] b fun a b=>cS<|cJ 14 b (fun t=> ?_) fun t=> ?_
  ·have u:k<l.length :=by omega
   have c:=b
   obtain⟨p,rfl,j⟩:=hl1.1.bf (by omega)
   have b:=c;clear c
   have c:=b
   obtain⟨q,rfl,o⟩:=hr1.1.bf (by omega)
   have b:=c;clear c
   refine cN<|tK<|cS<|cB 1<|qP [(5,nV k)] b fun a b=>cS<|cD [0,0,3,7,0,0,48,112,255] 6 mixed b ?_
   refine mP 3 [0,1] [.slice (some p) l.length vc,nV k]<|mI 7 2 p l.length 32 k (k*32)<|mH 15 8 3 k ((⟨i.symm ▸hl1.1,h32,rfl⟩:HR _ _ _ _ _))<|mP 63 [4,5] [.slice (some q) r.length vd,nV k]<|mI 127 6 q r.length 32 k (k*32)<|mH 255 136 7 k ((⟨i.symm ▸hr1.1,C2,rfl⟩:HR _ _ _ _ _))<|mF 511 8 (.bool (!decide ((l.getD k [])=(r.getD k [])))) (DK (l:=(l.getD k [])) (r:=(r.getD k [])) (n:=32) (by kernel_rfl) ((⟨hl1.1,h32,rfl⟩:HR _ (some p) _ _ _).2.1.get (k:=k) (by rw[(⟨hl1.1,h32,rfl⟩:HR _ (some p) _ _ _).2.2];omega)) ((⟨hr1.1,C2,rfl⟩:HR _ (some q) _ _ _).2.1.get (k:=k) (by rw[(⟨hr1.1,C2,rfl⟩:HR _ (some q) _ _ _).2.2];omega))) ?_
   refine mE [(24,.bool (!decide ((l.getD k [])=(r.getD k []))))] fun a b=>tK<|cI 24 b (fun g=> ?_) fun g=> ?_
   ·have w:=mf g
    refine qP [(4,.bool false)] b fun a b=>cR (yB (yT (yT (yB (yT ?_)))))
    exact rT 4 (.bool false) b<|⟨by rw[decide_eq_false w],i⟩
   ·have x:=g
    refine cN<|bK<|tK<|rS b<|tA 0 k 1<|sE [(13,nV (k+1))] fun a b=> ?_
    show ∃m',m'<_∧_
    refine⟨_,?_,(k+1),rfl,i,(by omega),(qb (d:=[]) s u (by omega) x),b.to⟩
    omega
  ·refine cX 0 (xT (xT (xB ?_)))
   refine tK<|qP [(4,.bool true)] b fun a b=>cR<|rT 4 (.bool true) b ?_
   obtain rfl:k=l.length :=by omega
   rw[List.take_length,f,List.take_length] at s
   exact⟨by rw[decide_eq_true s],i⟩
noncomputable def b56:Code:=Tryz.f56.body.getD .skip
set_option maxHeartbeats 1000000 in
theorem bQ(h:Heap)(A B:An)(D9:Option Addr)(qc1:Nat)(Dv:Option Addr)(Dw:Nat)(Dx:Option Addr)(pc1:Nat)(q1:ay h (.slice D9 A.b.length qc1) A.b.length 1 (A.b.map bv))(i1:ay h (.slice Dv A.i.length Dw) A.i.length 1 (A.i.map Value.string))(p1:ay h (.slice Dx A.p.length pc1) A.p.length 32 (hcs A.p))(qa2:Option Addr)(qc2:Nat)(Dy:Option Addr)(Dz:Nat)(DA:Option Addr)(pc2:Nat)(q2:ay h (.slice qa2 B.b.length qc2) B.b.length 1 (B.b.map bv))(i2:ay h (.slice Dy B.i.length Dz) B.i.length 1 (B.i.map Value.string))(p2:ay h (.slice DA B.p.length pc2) B.p.length 32 (hcs B.p))(h32:aq A.p)(C2:aq B.p)(D_:A.i.length ≤1099511627776)(Ea:A.p.length ≤1099511627776):Sat Tryz.prog 56 #[.agg (bb A.c (.slice D9 A.b.length qc1) A.sx A.se A.sh A.sg (.slice Dv A.i.length Dw) A.n A.y A.k (.slice Dx A.p.length pc1)).toArray,.agg (bb B.c (.slice qa2 B.b.length qc2) B.sx B.se B.sh B.sg (.slice Dy B.i.length Dz) B.n B.y B.k (.slice DA B.p.length pc2)).toArray] h fun v h'=>v= .int .i64 (au A B)∧Ext h h':=by
 have e:=Ext.refl h
 refine ag Tryz.func56 52 fun a d=>qS d<|tN 0 (pV h.size) ((bb A.c (.slice D9 A.b.length qc1) A.sx A.se A.sh A.sg (.slice Dv A.i.length Dw) A.n A.y A.k (.slice Dx A.p.length pc1)).toArray) 47 fun O P t=>tN 1 (pV O.size) ((bb B.c (.slice qa2 B.b.length qc2) B.sx B.se B.sh B.sg (.slice Dy B.i.length Dz) B.n B.y B.k (.slice DA B.p.length pc2)).toArray) 47 fun Q H w=> ?_
 replace e:=e.ext P
 refine sT [(2,pV h.size),(3,pV O.size)] fun a d=>cS<|cB 0<|qS d ?_
 replace t:=t.x H
 refine tO 1 0 t<|tO 3 0 w<|sT [(5,.bool (!decide (A.c =B.c)))] fun a d=>cI 5 d (fun z=> ?_) fun z=> ?_
 ·have I:=z
  refine qP [(4,.int .i64 1)] d fun a d=>cR (yB (yT ?_))
  refine rT 4 (.int .i64 1) d ?_
  replace e:=e.ext H
  exact⟨by rw[xh I],e⟩
 ·have g:=z
  refine qS d<|tO 1 1 t ?_
  replace e:=e.ext H
  refine tC 2 (.string (ByteArray.mk A.b.toArray)) (Calm.str (l:=A.b) (by kernel_rfl) (q1.1.ext e))<|tO 4 1 w<|tC 5 (.string (ByteArray.mk B.b.toArray)) (Calm.str (l:=B.b) (by kernel_rfl) (q2.1.ext e))<|t1 6 (.bool (!decide (A.b =B.b))) (.bool (!((ByteArray.mk A.b.toArray).toList ==(ByteArray.mk B.b.toArray).toList))) (congrArg (fun b=>Value.bool (!b)) (xj _ _))<|sT [(11,.bool (!decide (A.b =B.b)))] fun a d=>cI 11 d (fun C=> ?_) fun C=> ?_
  ·have J:=C
   refine qP [(4,.int .i64 2)] d fun a d=>cR (yB (yT ?_))
   exact rT 4 (.int .i64 2) d<|⟨by rw[rule2 g J],e⟩
  ·have j:=C
   refine qS d<|tQ 1 2 (wa A.sx A.se A.sh A.sg) t<|tQ 3 2 (wa B.sx B.se B.sh B.sg) w<|tC 4 (.bool (!(fJ A.sx A.se A.sh A.sg B.sx B.se B.sh B.sg))) ((Calm.CM (q:=false) (by kernel_rfl) (jD A.sx A.se A.sh A.sg B.sx B.se B.sh B.sg)) _)<|sT [(19,.bool (!(fJ A.sx A.se A.sh A.sg B.sx B.se B.sh B.sg)))] fun a d=>cC 19 (!(fJ A.sx A.se A.sh A.sg B.sx B.se B.sh B.sg)) d (fun D=> ?_) (fun D=> ?_)
   ·have K:=D
    refine qP [(4,.int .i64 3)] d fun a d=>cR (yB (yT ?_))
    exact rT 4 (.int .i64 3) d<|⟨by rw[AZ g j (by simpa using K)],e⟩
   ·have m:=D
    refine qS d<|tO 1 39 t<|tO 3 39 w<|tC 4 (.bool (decide (A.i =B.i))) (Does.call (f:=94) (args:= #[.slice Dv A.i.length Dw,.slice Dy B.i.length Dz]) (by kernel_rfl) (Ad _ A.i B.i _ _ _ _ (i1.ext e) (i2.ext e) D_))<|sT [(25,.bool (!decide (A.i =B.i)))] fun a d=>cI 25 d (fun o=> ?_) fun o=> ?_
    ·have L:=o
     refine qP [(4,.int .i64 4)] d fun a d=>cR (yB (yT ?_))
     exact rT 4 (.int .i64 4) d<|⟨by rw[A1 g j (by simpa using m) L],e⟩
    ·have u:=o
     refine qS d<|tQ 1 40 (hdc A.n A.y) t<|tQ 3 40 (hdc B.n B.y) w<|tC 4 (.bool (!(kT A.n A.y B.n B.y))) ((Calm.CM (q:=false) (by kernel_rfl) (xe A.n A.y B.n B.y)) _)<|sT [(32,.bool (!(kT A.n A.y B.n B.y)))] fun a d=>cC 32 (!(kT A.n A.y B.n B.y)) d (fun r=> ?_) (fun r=> ?_)
     ·have M:=r
      refine qP [(4,.int .i64 5)] d fun a d=>cR (yB (yT ?_))
      exact rT 4 (.int .i64 5) d<|⟨by rw[A2 g j (by simpa using m) u (by simpa using M)],e⟩
     ·have E:=r
      refine cS ?_
      rcases Int.decEq A.k B.k with G|G
      ·refine rS d<|tO 1 73 t<|tO 3 73 w<|uT 4 A.k B.k <|sE [(38,.bool true)] fun a d=>tK<|cT 38 d ?_
       refine qP [(4,.int .i64 6)] d fun a d=>cR (yB (yT ?_))
       exact rT 4 (.int .i64 6) d<|⟨by rw[ub g j (by simpa using m) u (by simpa using E) (by first|exact .inl G|exact .inr F)],e⟩
      ·refine rS d<|tO 1 73 t<|tO 3 73 w<|uF 4 A.k B.k <|tO 7 74 t<|tO 9 74 w<|tC 10 (.bool (decide (A.p =B.p))) (Does.call (f:=95) (args:= #[.slice Dx A.p.length pc1,.slice DA B.p.length pc2]) (by kernel_rfl) (xU _ A.p B.p _ _ _ _ (p1.ext e) (p2.ext e) h32 C2 Ea)) ?_
       refine sE [(38,.bool (!decide (A.p =B.p)))] fun a d=>tK<|cI 38 d (fun s=> ?_) fun s=> ?_
       ·have F:=s
        refine qP [(4,.int .i64 6)] d fun a d=>cR (yB (yT ?_))
        exact rT 4 (.int .i64 6) d<|⟨by rw[ub g j (by simpa using m) u (by simpa using E) (by first|exact .inl G|exact .inr F)],e⟩
       ·have N:=s
        exact cN<|bK<|tK<|qP [(4,.int .i64 0)] d fun a d=>cR<|rT 4 (.int .i64 0) d<|⟨by rw[p_ g j (by simpa using m) u (by simpa using E) G N],e⟩
noncomputable def b61:Code:=Tryz.f61.body.getD .skip
theorem Eb(kd c k:Int):(kd=11∧0≤k∧k≤6)∨(kd=11∧k<0)∨(kd=11∧0≤k∧6<k)∨(kd=15∧c=0∧0≤k∧k≤8)∨(kd=15∧c=0∧k<0)∨(kd=15∧c=0∧0≤k∧8<k)∨(kd=15∧c≠0)∨(kd≠11∧kd≠15):=by omega
theorem qv(h:Heap)(mb mp:Nat)(M:Md)(m:Mod h mb mp M)(kd n:Int)(s:ByteArray)(l:List UInt8)(oa:Option Addr)(oc:Nat)(ka:Option Addr)(kn kc:Nat)(hr:Row h (.slice oa l.length oc) l.length 1 (l.map bv))(hsz:s.size ≤9223372036854775807)(kt:bq h)(hE:M.E.length ≤1099511627)(W:An)(hW:(step M kd n s l).2 =W):Sat Tryz.prog 17 #[.pointer (some ⟨mb,0,none⟩),.agg #[.int .i64 kd,.string s,.slice oa l.length oc,.int .i64 n,.slice ka kn kc]] h fun v h'=>∃qa qc ia ic pa pc,v=pX W (.slice qa W.b.length qc) (.slice ia W.i.length ic) (.slice pa W.p.length pc)∧ay h' (.slice qa W.b.length qc) W.b.length 1 (W.b.map bv)∧ay h' (.slice ia W.i.length ic) W.i.length 1 (W.i.map Value.string)∧ay h' (.slice pa W.p.length pc) W.p.length 32 (hcs W.p)∧aq W.p ∧Mod h' mb mp (step M kd n s l).1 ∧MG mb mp h h':=by
 subst hW
 exact(BL h mb mp M m kd n s l oa oc ka kn kc hr hsz kt hE).mono fun v h' ⟨⟨qa,qc,ia,ic,pa,pc,e,r1,r2,r3,r4⟩,g⟩=>⟨qa,qc,ia,ic,pa,pc,e,r1,r2,r3,r4,g⟩
set_option maxHeartbeats 1000000 in
theorem xV(h:Heap)(jb mb mp:Nat)(M:Md)(m:Mod h mb mp M)(cv:Value)(o1 o2 o4:Bool)(hj:h[jb]? =some (.cells #[cv,.bool o1,.bool o2,.bool false,.bool o4] 77))(kd n:Int)(s:ByteArray)(l:List UInt8)(oa:Option Addr)(oc:Nat)(ka:Option Addr)(kn kc:Nat)(hr:Row h (.slice oa l.length oc) l.length 1 (l.map bv))(hsz:s.size ≤9223372036854775807)(X:An)(cp:Option Addr)(cq:Nat)(cr:Option Addr)(ct:Nat)(cu:Option Addr)(cx:Nat)(xq:ay h (.slice cp X.b.length cq) X.b.length 1 (X.b.map bv))(xi:ay h (.slice cr X.i.length ct) X.i.length 1 (X.i.map Value.string))(xp:ay h (.slice cu X.p.length cx) X.p.length 32 (hcs X.p))(x32:aq X.p)(kt:bq h)(hE:M.E.length ≤1099511627):Sat Tryz.prog 61 #[.pointer (some ⟨jb,0,none⟩),.pointer (some ⟨mb,0,none⟩),.agg #[.int .i64 kd,.string s,.slice oa l.length oc,.int .i64 n,.slice ka kn kc],.agg (bb X.c (.slice cp X.b.length cq) X.sx X.se X.sh X.sg (.slice cr X.i.length ct) X.n X.y X.k (.slice cu X.p.length cx)).toArray] h fun v h'=>v= .int .i64 (bA kd n s l X M).2 ∧Mod h' mb mp (bA kd n s l X M).1 ∧MG mb mp h h':=by
 have a6:=aj hj
 obtain⟨a7,a8⟩:=m.zO hj (by decide)
 have G:=Ext.refl h
 have r:Sep h.size h.size []:=Sep.nil _ _
 refine ag Tryz.func61 59 fun a d=>qS d<|tN 0 (pV h.size) #[.int .i64 kd,.string s,.slice oa l.length oc,.int .i64 n,.slice ka kn kc] 35 fun h1 P F=> ?_
 have a9:=aj F
 replace r:=r.nw G.size F
 refine tN 1 (pV h1.size) ((bb X.c (.slice cp X.b.length cq) X.sx X.se X.sh X.sg (.slice cr X.i.length ct) X.n X.y X.k (.slice cu X.p.length cx)).toArray) 47 fun h6 J q=> ?_
 replace G:=G.ext P
 replace r:=r.nw G.size q
 refine sT [(6,pV h.size),(7,pV h1.size)] fun a d=>qS d ?_
 replace F:=F.x J
 refine tR 1 F ?_
 obtain⟨W,D⟩:∃W,(step M kd n s l).2 =W:=⟨_,rfl⟩
 replace G:=G.ext J
 have mE:=m.ext G;have a3:=jJ m kd n s l;rw[D] at a3
 replace kt:=(kt.ext P).ext J
 refine tG 2 (qv _ mb mp M mE kd n s l oa oc ka kn kc (hr.ext G) hsz kt hE W D) ?_
 rintro _ K ⟨qa,qc,ia,ic,pa,pc,rfl,A,B,C,H,f,I⟩
 have u:MG mb mp h K:=(MG.aI G).trans I
 have b0:=m.kb
 replace hj:=(hj.x P).x J
 replace hj:=I.blk hj (by omega) (by omega)
 replace F:=I.blk F (by omega) (by omega)
 replace q:=I.blk q (by omega) (by omega)
 replace xq:=(xq.ext P).ext J
 replace xq:=xq.vk I mE
 replace xi:=(xi.ext P).ext J
 replace xi:=xi.vk I mE
 replace xp:=(xp.ext P).ext J
 replace xp:=xp.vk I mE
 replace r:=r.up I.1
 refine tN 3 (pV K.size) ((bY 0).toArray) 47 fun b1 j g=> ?_
 have a5:=u.1
 replace r:=r.nw u.1 g
 refine bt 4 (bb W.c (.slice qa W.b.length qc) W.sx W.se W.sh W.sg (.slice ia W.i.length ic) W.n W.y W.k (.slice pa W.p.length pc)) g fun b2 o Q=> ?_
 replace xq:=xq.ext j
 replace xq:=xq.aM o g (by decide)
 replace xi:=xi.ext j
 replace xi:=xi.aM o g (by decide)
 replace xp:=xp.ext j
 replace xp:=xp.aM o g (by decide)
 replace A:=A.ext j
 replace A:=A.aM o g (by decide)
 replace B:=B.ext j
 replace B:=B.aM o g (by decide)
 replace C:=C.ext j
 replace C:=C.aM o g (by decide)
 replace f:=f.ext j
 replace f:=f.aM o g (by decide) (by omega)
 replace hj:=hj.x j
 replace hj:=hj.y o
 replace g:=Q
 refine sT [(9,pV K.size)] fun a d=>qP [(10,.int .i64 0)] d fun a d=>cS<|qS d ?_
 replace F:=(F.x j).y o (r.bp 2 0)
 refine tO 1 0 F<|sT [(15,.int .i64 kd)] fun a d=>cB 0<|cS ?_
 rcases Eb kd W.c X.k with⟨L,hy⟩|⟨L,N⟩|⟨L,N,a4⟩|⟨L,O,hy⟩|⟨L,O,N⟩|⟨L,O,N,a4⟩|⟨L,O⟩|L
 ·have t:=jK (W:=W) (X:=X) (kd:=kd) (by omega)
  refine rS d<|eT 0 kd 11<|sE [(16,.bool true)] fun a d=>tK<|cT 16 d<|rP [(10,.int .i64 6)] d fun a d=>bK ?_
  refine tK<|cS<|qS d ?_
  replace q:=(q.x j).y o (r.bp 1 0)
  refine tO 4 73 q<|tT 5 ((0:Int)≤X.k)<|tO 9 73 q<|tT 11 (X.k ≤(6:Int))<|sT [(52,.bool true)] fun a d=>cT 52 d<|rS d ?_
  refine tO 1 73 q<|tV 3 73 [.int .i64 X.k] (bb W.c (.slice qa W.b.length qc) W.sx W.se W.sh W.sg (.slice ia W.i.length ic) W.n W.y X.k (.slice pa W.p.length pc)) g fun b3 w Q=> ?_
  replace xq:=xq.aM w g (by decide)
  replace xi:=xi.aM w g (by decide)
  replace xp:=xp.aM w g (by decide)
  replace A:=A.aM w g (by decide)
  replace B:=B.aM w g (by decide)
  replace C:=C.aM w g (by decide)
  replace f:=f.aM w g (by decide) (by omega)
  replace g:=Q
  refine sE [] fun a d=>tK<|qS d<|tR 0 g ?_
  replace q:=q.y w (r.bp 1 0)
  refine tR 1 q<|tG 2 (bQ _ {W with k:=X.k } X _ _ _ _ _ _ A B C _ _ _ _ _ _ xq xi xp H x32 (by show W.i.length ≤_;omega) (by show W.p.length ≤_;omega)) ?_
  rintro _ b5 ⟨rfl,R⟩
  refine sT [(8,.int .i64 (au {W with k:=X.k } X))] fun a d=>cR<|rT 8 (.int .i64 (au {W with k:=X.k } X)) d ?_
  replace u:=(((u.ext j).nJ o (fun x e=>by cases e;omega)).nJ w (fun x e=>by cases e;omega)).ext R
  replace f:=f.ext R
  exact⟨by unfold bA;rw[D,t],f,u⟩
 ·have t:=e_ (W:=W) (X:=X) (kd:=kd) (by omega)
  refine rS d<|eT 0 kd 11<|sE [(16,.bool true)] fun a d=>tK<|cT 16 d<|rP [(10,.int .i64 6)] d fun a d=>bK ?_
  refine tK<|cS<|qS d ?_
  replace q:=(q.x j).y o (r.bp 1 0)
  refine tO 4 73 q<|tX 5 ((0:Int)≤X.k)<|sT [(52,.bool false)] fun a d=>cF 52 d<|cN<|tK<|qS d ?_
  refine tR 0 g<|tR 1 q<|tG 2 (bQ _ W X _ _ _ _ _ _ A B C _ _ _ _ _ _ xq xi xp H x32 (by show W.i.length ≤_;omega) (by show W.p.length ≤_;omega)) ?_
  rintro _ b6 ⟨rfl,S⟩
  refine sT [(8,.int .i64 (au W X))] fun a d=>cR<|rT 8 (.int .i64 (au W X)) d ?_
  replace u:=((u.ext j).nJ o (fun x e=>by cases e;omega)).ext S
  replace f:=f.ext S
  exact⟨by unfold bA;rw[D,t],f,u⟩
 ·have t:=e_ (W:=W) (X:=X) (kd:=kd) (by omega)
  refine rS d<|eT 0 kd 11<|sE [(16,.bool true)] fun a d=>tK<|cT 16 d<|rP [(10,.int .i64 6)] d fun a d=>bK ?_
  refine tK<|cS<|qS d ?_
  replace q:=(q.x j).y o (r.bp 1 0)
  refine tO 4 73 q<|tT 5 ((0:Int)≤X.k)<|tO 9 73 q<|tX 11 (X.k ≤(6:Int))<|sT [(52,.bool false)] fun a d=>cF 52 d<|cN ?_
  refine tK<|qS d<|tR 0 g<|tR 1 q<|tG 2 (bQ _ W X _ _ _ _ _ _ A B C _ _ _ _ _ _ xq xi xp H x32 (by show W.i.length ≤_;omega) (by show W.p.length ≤_;omega)) ?_
  rintro _ b7 ⟨rfl,T⟩
  refine sT [(8,.int .i64 (au W X))] fun a d=>cR<|rT 8 (.int .i64 (au W X)) d ?_
  replace u:=((u.ext j).nJ o (fun x e=>by cases e;omega)).ext T
  replace f:=f.ext T
  exact⟨by unfold bA;rw[D,t],f,u⟩
 ·have t:=jK (W:=W) (X:=X) (kd:=kd) (by omega)
  refine rS d<|eF 0 kd 11<|sE [(16,.bool false)] fun a d=>tK<|cF 16 d<|qS d<|eT 0 kd 15 ?_
  refine sT [(18,.bool true)] fun a d=>cT 18 d<|qS d<|tO 1 0 g<|eT 2 W.c 0<|sT [(22,.bool true)] fun a d=>cT 22 d ?_
  refine rP [(10,.int .i64 8)] d fun a d=>bK<|tK<|cS<|qS d ?_
  replace q:=(q.x j).y o (r.bp 1 0)
  refine tO 4 73 q<|tT 5 ((0:Int)≤X.k)<|tO 9 73 q<|tT 11 (X.k ≤(8:Int))<|sT [(52,.bool true)] fun a d=>cT 52 d<|rS d ?_
  refine tO 1 73 q<|tV 3 73 [.int .i64 X.k] (bb W.c (.slice qa W.b.length qc) W.sx W.se W.sh W.sg (.slice ia W.i.length ic) W.n W.y X.k (.slice pa W.p.length pc)) g fun b8 z Q=> ?_
  replace xq:=xq.aM z g (by decide)
  replace xi:=xi.aM z g (by decide)
  replace xp:=xp.aM z g (by decide)
  replace A:=A.aM z g (by decide)
  replace B:=B.aM z g (by decide)
  replace C:=C.aM z g (by decide)
  replace f:=f.aM z g (by decide) (by omega)
  replace g:=Q
  refine sE [] fun a d=>tK<|qS d<|tR 0 g ?_
  replace q:=q.y z (r.bp 1 0)
  refine tR 1 q<|tG 2 (bQ _ {W with k:=X.k } X _ _ _ _ _ _ A B C _ _ _ _ _ _ xq xi xp H x32 (by show W.i.length ≤_;omega) (by show W.p.length ≤_;omega)) ?_
  rintro _ c0 ⟨rfl,U⟩
  refine sT [(8,.int .i64 (au {W with k:=X.k } X))] fun a d=>cR<|rT 8 (.int .i64 (au {W with k:=X.k } X)) d ?_
  replace u:=(((u.ext j).nJ o (fun x e=>by cases e;omega)).nJ z (fun x e=>by cases e;omega)).ext U
  replace f:=f.ext U
  exact⟨by unfold bA;rw[D,t],f,u⟩
 ·have t:=e_ (W:=W) (X:=X) (kd:=kd) (by omega)
  refine rS d<|eF 0 kd 11<|sE [(16,.bool false)] fun a d=>tK<|cF 16 d<|qS d<|eT 0 kd 15 ?_
  refine sT [(18,.bool true)] fun a d=>cT 18 d<|qS d<|tO 1 0 g<|eT 2 W.c 0<|sT [(22,.bool true)] fun a d=>cT 22 d ?_
  refine rP [(10,.int .i64 8)] d fun a d=>bK<|tK<|cS<|qS d ?_
  replace q:=(q.x j).y o (r.bp 1 0)
  refine tO 4 73 q<|tX 5 ((0:Int)≤X.k)<|sT [(52,.bool false)] fun a d=>cF 52 d<|cN<|tK<|qS d ?_
  refine tR 0 g<|tR 1 q<|tG 2 (bQ _ W X _ _ _ _ _ _ A B C _ _ _ _ _ _ xq xi xp H x32 (by show W.i.length ≤_;omega) (by show W.p.length ≤_;omega)) ?_
  rintro _ c1 ⟨rfl,V⟩
  refine sT [(8,.int .i64 (au W X))] fun a d=>cR<|rT 8 (.int .i64 (au W X)) d ?_
  replace u:=((u.ext j).nJ o (fun x e=>by cases e;omega)).ext V
  replace f:=f.ext V
  exact⟨by unfold bA;rw[D,t],f,u⟩
 ·have t:=e_ (W:=W) (X:=X) (kd:=kd) (by omega)
  refine rS d<|eF 0 kd 11<|sE [(16,.bool false)] fun a d=>tK<|cF 16 d<|qS d<|eT 0 kd 15 ?_
  refine sT [(18,.bool true)] fun a d=>cT 18 d<|qS d<|tO 1 0 g<|eT 2 W.c 0<|sT [(22,.bool true)] fun a d=>cT 22 d ?_
  refine rP [(10,.int .i64 8)] d fun a d=>bK<|tK<|cS<|qS d ?_
  replace q:=(q.x j).y o (r.bp 1 0)
  refine tO 4 73 q<|tT 5 ((0:Int)≤X.k)<|tO 9 73 q<|tX 11 (X.k ≤(8:Int))<|sT [(52,.bool false)] fun a d=>cF 52 d<|cN ?_
  refine tK<|qS d<|tR 0 g<|tR 1 q<|tG 2 (bQ _ W X _ _ _ _ _ _ A B C _ _ _ _ _ _ xq xi xp H x32 (by show W.i.length ≤_;omega) (by show W.p.length ≤_;omega)) ?_
  rintro _ c2 ⟨rfl,Y⟩
  refine sT [(8,.int .i64 (au W X))] fun a d=>cR<|rT 8 (.int .i64 (au W X)) d ?_
  replace u:=((u.ext j).nJ o (fun x e=>by cases e;omega)).ext Y
  replace f:=f.ext Y
  exact⟨by unfold bA;rw[D,t],f,u⟩
 ·have t:=e_ (W:=W) (X:=X) (kd:=kd) (by omega)
  refine rS d<|eF 0 kd 11<|sE [(16,.bool false)] fun a d=>tK<|cF 16 d<|qS d<|eT 0 kd 15 ?_
  refine sT [(18,.bool true)] fun a d=>cT 18 d<|qS d<|tO 1 0 g<|eF 2 W.c 0<|sT [(22,.bool false)] fun a d=>cF 22 d ?_
  refine cN<|bK<|tK<|cS<|qP [(52,.bool false)] d fun a d=>cF 52 d<|cN ?_
  refine tK<|qS d<|tR 0 g ?_
  replace q:=(q.x j).y o (r.bp 1 0)
  refine tR 1 q<|tG 2 (bQ _ W X _ _ _ _ _ _ A B C _ _ _ _ _ _ xq xi xp H x32 (by show W.i.length ≤_;omega) (by show W.p.length ≤_;omega)) ?_
  rintro _ c3 ⟨rfl,Z⟩
  refine sT [(8,.int .i64 (au W X))] fun a d=>cR<|rT 8 (.int .i64 (au W X)) d ?_
  replace u:=((u.ext j).nJ o (fun x e=>by cases e;omega)).ext Z
  replace f:=f.ext Z
  exact⟨by unfold bA;rw[D,t],f,u⟩
 ·have t:=e_ (W:=W) (X:=X) (kd:=kd) (by omega)
  refine rS d<|eF 0 kd 11<|sE [(16,.bool false)] fun a d=>tK<|cF 16 d<|qS d<|eF 0 kd 15 ?_
  refine sT [(18,.bool false)] fun a d=>cF 18 d<|qP [(23,.bool (decide (kd=(2:Int))))] d fun a d=>cJ 23 d (fun a0=> ?_) fun a0=> ?_
  ·refine qS d<|tO 3 3 hj<|sT [(39,.bool false)] fun a d=>cF 39 d<|cN<|bK<|tK ?_
   refine cS<|qP [(52,.bool false)] d fun a d=>cF 52 d<|cN<|tK<|qS d<|tR 0 g ?_
   replace q:=(q.x j).y o (r.bp 1 0)
   refine tR 1 q<|tG 2 (bQ _ W X _ _ _ _ _ _ A B C _ _ _ _ _ _ xq xi xp H x32 (by show W.i.length ≤_;omega) (by show W.p.length ≤_;omega)) ?_
   rintro _ c4 ⟨rfl,a1⟩
   refine sT [(8,.int .i64 (au W X))] fun a d=>cR<|rT 8 (.int .i64 (au W X)) d ?_
   replace u:=((u.ext j).nJ o (fun x e=>by cases e;omega)).ext a1
   replace f:=f.ext a1
   exact⟨by unfold bA;rw[D,t],f,u⟩
  ·refine cN<|bK<|tK<|cS<|qP [(52,.bool false)] d fun a d=>cF 52 d<|cN ?_
   refine tK<|qS d<|tR 0 g ?_
   replace q:=(q.x j).y o (r.bp 1 0)
   refine tR 1 q<|tG 2 (bQ _ W X _ _ _ _ _ _ A B C _ _ _ _ _ _ xq xi xp H x32 (by show W.i.length ≤_;omega) (by show W.p.length ≤_;omega)) ?_
   rintro _ c5 ⟨rfl,a2⟩
   refine sT [(8,.int .i64 (au W X))] fun a d=>cR<|rT 8 (.int .i64 (au W X)) d ?_
   replace u:=((u.ext j).nJ o (fun x e=>by cases e;omega)).ext a2
   replace f:=f.ext a2
   exact⟨by unfold bA;rw[D,t],f,u⟩
theorem oU(h:Heap)(mb mp:Nat)(M:Md)(m:Mod h mb mp M)(hE:M.E.length ≤1099511627):Sat Tryz.prog 23 #[.pointer (some ⟨mb,0,none⟩)] h fun v h'=>∃c q,v= .pointer (some ⟨c,0,none⟩)∧Mod h' c q M∧h.size ≤c∧h.size ≤q∧Ext h h':=by
 obtain⟨L,ck,ea,ec,es,m⟩:=m
 exact z' h mb mp M L ck ea ec es m (fun _ e=>e.elim) hE
noncomputable def b60:Code:=Tryz.f60.body.getD .skip
set_option maxHeartbeats 1000000 in
theorem xW(h:Heap)(jb mb mp:Nat)(M:Md)(m:Mod h mb mp M)(kd n:Int)(s:ByteArray)(l:List UInt8)(oa:Option Addr)(oc:Nat)(ka:Option Addr)(kn kc:Nat)(hr:Row h (.slice oa l.length oc) l.length 1 (l.map bv))(hsz:s.size ≤9223372036854775807)(X:An)(cp:Option Addr)(cq:Nat)(cr:Option Addr)(ct:Nat)(cu:Option Addr)(cx:Nat)(xq:ay h (.slice cp X.b.length cq) X.b.length 1 (X.b.map bv))(xi:ay h (.slice cr X.i.length ct) X.i.length 1 (X.i.map Value.string))(xp:ay h (.slice cu X.p.length cx) X.p.length 32 (hcs X.p))(x32:aq X.p)(kt:bq h)(hE:M.E.length ≤1099511627):Sat Tryz.prog 60 #[.pointer (some ⟨jb,0,none⟩),.pointer (some ⟨mb,0,none⟩),.agg #[.int .i64 kd,.string s,.slice oa l.length oc,.int .i64 n,.slice ka kn kc],.agg (bb X.c (.slice cp X.b.length cq) X.sx X.se X.sh X.sg (.slice cr X.i.length ct) X.n X.y X.k (.slice cu X.p.length cx)).toArray] h fun v h'=>v= .int .i64 (bh kd n s l X M).2 ∧Mod h' mb mp (bh kd n s l X M).1 ∧MG mb mp h h':=by
 have r:=Ext.refl h
 have d:Sep h.size h.size []:=Sep.nil _ _
 refine ag Tryz.func60 26 fun a t=>qS t<|tN 0 (pV h.size) #[.int .i64 kd,.string s,.slice oa l.length oc,.int .i64 n,.slice ka kn kc] 35 fun h1 g2 S=> ?_
 have c6:=aj S
 replace d:=d.nw r.size S
 refine tN 1 (pV h1.size) ((bb X.c (.slice cp X.b.length cq) X.sx X.se X.sh X.sg (.slice cr X.i.length ct) X.n X.y X.k (.slice cu X.p.length cx)).toArray) 47 fun h6 Z u=> ?_
 have c7:=aj u
 replace r:=r.ext g2
 replace d:=d.nw r.size u
 refine sT [(6,pV h.size),(7,pV h1.size)] fun a t=>cS<|cD [0,1,0,7,0,31] 1 mixed t<|mP 1 [0] [pV mb] ?_
 replace S:=S.x Z
 refine mR 5 4 2 S<|aF.ov (is:=[1,4]) (by kernel_rfl) (by simp) ?_
 intro q hq
 simp only[List.mem_cons,List.not_mem_nil,or_false] at hq
 rcases hq with rfl|rfl
 ·replace r:=r.ext Z
  refine pg 7 3 1 [2] (Does.call (f:=23) (args:= #[.pointer (some ⟨mb,0,none⟩)]) (by kernel_rfl) (oU _ mb mp M (m.ext r) hE)) ?_
  rintro _ a0 ⟨c,q,rfl,Q,a8,a9,g⟩
  have b0:=r.size;have b1:=Nat.le_refl a0.size;have b2:=Q.kb
  replace kt:=(kt.ext g2).ext Z
  replace xq:=(xq.ext g2).ext Z
  replace xi:=(xi.ext g2).ext Z
  replace xp:=(xp.ext g2).ext Z
  replace r:=r.ext g
  replace kt:=kt.ext g
  replace xq:=xq.ext g
  replace xi:=xi.ext g
  replace xp:=xp.ext g
  replace S:=S.x g
  replace u:=u.x g
  replace d:=d.up g.size
  clear g
  refine⟨?_,?_⟩
  ·intro j Y
   simp only[List.mem_cons,List.not_mem_nil,or_false] at Y
   subst Y
   exact aE (Calm.load (T:=35) (p:=⟨h.size,0,none⟩) (by kernel_rfl) (Loads.blk (vs:=[.int .i64 kd,.string s,.slice oa l.length oc,.int .i64 n,.slice ka kn kc]) (by kernel_rfl) S rfl))
  refine aF.ov (is:=[3,4]) (by kernel_rfl) (by simp) ?_
  intro q hq
  simp only[List.mem_cons,List.not_mem_nil,or_false] at hq
  rcases hq with rfl|rfl
  ·obtain⟨W,R⟩:∃W,(step M kd n s l).2 =W:=⟨_,rfl⟩
   have a1:=jJ Q kd n s l;rw[R] at a1
   refine pg 15 15 3 [] (Does.call (f:=17) (args:= #[.pointer (some ⟨c,0,none⟩),.agg #[.int .i64 kd,.string s,.slice oa l.length oc,.int .i64 n,.slice ka kn kc]]) (by kernel_rfl) (qv _ c q M Q kd n s l oa oc ka kn kc (hr.ext r) hsz kt hE W R)) ?_
   rintro _ a5 ⟨qa,qc,ia,ic,pa,pc,rfl,I,J,K,r4,_,L⟩
   refine⟨fun j Y=>by simp at Y,?_⟩
   replace r:Ext h a5:=Gr.dD r L (by rintro k (e|e)<;>omega)
   replace u:=L.blk u (by omega) (by omega)
   replace xq:=xq.vk L Q
   replace xi:=xi.vk L Q
   replace xp:=xp.vk L Q
   replace d:=d.up L.1
   refine mN 31 31 4 (pV a5.size) ((bY 0).toArray) 47 fun c8 C B=> ?_
   replace d:=d.nw r.size B
   refine mV 63 63 5 0 (bb W.c (.slice qa W.b.length qc) W.sx W.se W.sh W.sg (.slice ia W.i.length ic) W.n W.y W.k (.slice pa W.p.length pc)) (bb W.c (.slice qa W.b.length qc) W.sx W.se W.sh W.sg (.slice ia W.i.length ic) W.n W.y W.k (.slice pa W.p.length pc)) B fun c9 D zq=> ?_
   replace xq:=xq.ext C
   replace xq:=xq.aM D B (by decide)
   replace xi:=xi.ext C
   replace xi:=xi.aM D B (by decide)
   replace xp:=xp.ext C
   replace xp:=xp.aM D B (by decide)
   replace I:=I.ext C
   replace I:=I.aM D B (by decide)
   replace J:=J.ext C
   replace J:=J.aM D B (by decide)
   replace K:=K.ext C
   replace K:=K.aM D B (by decide)
   replace B:=zq
   refine mE [(9,pV a5.size)] fun a t=>tK<|cS<|cS ?_
   rcases Classical.em (W.c =0) with F|F
   ·refine rS t<|tO 1 0 B<|eT 2 W.c 0 ?_
    replace u:=(u.x C).y D (d.bp 1 0)
    refine tR 5 u<|tG 6 (bQ _ (cm 3) X none 0 none 0 none 0 (ay.nil _ _) (ay.nil _ _) (ay.nil _ _) _ _ _ _ _ _ xq xi xp aq.nil x32 (by decide) (by decide)) ?_
    rintro _ d0 ⟨rfl,N⟩
    refine t1 7 (.bool (decide (au (cm 3) X=(0:Int)))) (.bool (au (cm 3) X==(0:Int))) rfl<|sE [(22,.bool (decide (au (cm 3) X=(0:Int))))] fun a t=>tK<|cJ 22 t (fun a2=> ?_) fun a2=> ?_
    ·have z:=jL (R▸F:(step M kd n s l).2.c =0) a2
     refine qP [(8,.int .i64 0)] t fun a t=>cR (yT ?_)
     refine rT 8 (.int .i64 0) t ?_
     replace r:=((r.ext C).grew D (d.l 0)).ext N
     rw[z];exact⟨rfl,m.ext r,MG.aI r⟩
    ·have z:=iC (kd:=kd) (n:=n) (s:=s) (l:=l) (M:=M) (fun e=>a2 e.2)
     refine cN<|tK<|qS t ?_
     replace B:=B.x N
     refine tR 0 B ?_
     replace u:=u.x N
     refine tR 1 u ?_
     replace xq:=xq.ext N
     replace xi:=xi.ext N
     replace xp:=xp.ext N
     replace I:=I.ext N
     replace J:=J.ext N
     replace K:=K.ext N
     refine tG 2 (bQ _ W X _ _ _ _ _ _ I J K _ _ _ _ _ _ xq xi xp r4 x32 (by omega) (by omega)) ?_
     rintro _ d1 ⟨rfl,b3⟩
     refine sT [(8,.int .i64 (au W X))] fun a t=>cR<|rT 8 (.int .i64 (au W X)) t ?_
     replace r:=(((r.ext C).grew D (d.l 0)).ext N).ext b3
     rw[z];exact⟨by rw[R],m.ext r,MG.aI r⟩
   ·have z:=iC (X:=X) (fun e:(step M kd n s l).2.c =0∧au (cm 3) X=0=>F (R▸e.1))
    refine rS t<|tO 1 0 B<|eF 2 W.c 0<|sE [(22,.bool false)] fun a t=>tK<|cF 22 t<|cN ?_
    refine tK<|qS t<|tR 0 B ?_
    replace u:=(u.x C).y D (d.bp 1 0)
    refine tR 1 u<|tG 2 (bQ _ W X _ _ _ _ _ _ I J K _ _ _ _ _ _ xq xi xp r4 x32 (by omega) (by omega)) ?_
    rintro _ d2 ⟨rfl,b5⟩
    refine sT [(8,.int .i64 (au W X))] fun a t=>cR<|rT 8 (.int .i64 (au W X)) t ?_
    replace r:=((r.ext C).grew D (d.l 0)).ext b5
    rw[z];exact⟨by rw[R],m.ext r,MG.aI r⟩
  ·refine pg 23 19 4 [2] (Does.new (v:= .pointer (some ⟨a0.size,0,none⟩)) (o:= .cells (bY 0).toArray 47) (by kernel_rfl)) ?_
   rintro _ a6 ⟨rfl,hh⟩
   have U:Ext a0 a6:=aT hh
   have A:a6[a0.size]? =some (.cells (bY 0).toArray 47):=bj hh
   clear hh
   replace d:=d.nw r.size A
   replace S:=S.x U
   refine⟨?_,?_⟩
   ·intro j Y
    simp only[List.mem_cons,List.not_mem_nil,or_false] at Y
    subst Y
    exact aE (Calm.load (T:=35) (p:=⟨h.size,0,none⟩) (by kernel_rfl) (Loads.blk (vs:=[.int .i64 kd,.string s,.slice oa l.length oc,.int .i64 n,.slice ka kn kc]) (by kernel_rfl) S rfl))
   obtain⟨W,R⟩:∃W,(step M kd n s l).2 =W:=⟨_,rfl⟩
   replace Q:=Q.ext U
   have a1:=jJ Q kd n s l;rw[R] at a1
   replace r:=r.ext U
   replace kt:=kt.ext U
   replace xq:=xq.ext U
   replace xi:=xi.ext U
   replace xp:=xp.ext U
   replace u:=u.x U
   refine gC 31 31 3 (qv _ c q M Q kd n s l oa oc ka kn kc (hr.ext r) hsz kt hE W R) ?_
   rintro _ b6 ⟨qa,qc,ia,ic,pa,pc,rfl,I,J,K,r4,_,L⟩
   replace r:Ext h b6:=Gr.dD r L (by rintro k (e|e)<;>omega)
   replace u:=L.blk u (by omega) (by omega)
   replace A:=L.blk A (by omega) (by omega)
   replace xq:=xq.vk L Q
   replace xi:=xi.vk L Q
   replace xp:=xp.vk L Q
   replace d:=d.up L.1
   refine mV 63 63 5 0 (bb W.c (.slice qa W.b.length qc) W.sx W.se W.sh W.sg (.slice ia W.i.length ic) W.n W.y W.k (.slice pa W.p.length pc)) (bb W.c (.slice qa W.b.length qc) W.sx W.se W.sh W.sg (.slice ia W.i.length ic) W.n W.y W.k (.slice pa W.p.length pc)) A fun d3 G zq=> ?_
   replace xq:=xq.aM G A (by decide)
   replace xi:=xi.aM G A (by decide)
   replace xp:=xp.aM G A (by decide)
   replace I:=I.aM G A (by decide)
   replace J:=J.aM G A (by decide)
   replace K:=K.aM G A (by decide)
   replace A:=zq
   refine mE [(9,pV a0.size)] fun a t=>tK<|cS<|cS ?_
   rcases Classical.em (W.c =0) with F|F
   ·refine rS t<|tO 1 0 A<|eT 2 W.c 0 ?_
    replace u:=u.y G (d.bp 1 0)
    refine tR 5 u<|tG 6 (bQ _ (cm 3) X none 0 none 0 none 0 (ay.nil _ _) (ay.nil _ _) (ay.nil _ _) _ _ _ _ _ _ xq xi xp aq.nil x32 (by decide) (by decide)) ?_
    rintro _ d4 ⟨rfl,O⟩
    refine t1 7 (.bool (decide (au (cm 3) X=(0:Int)))) (.bool (au (cm 3) X==(0:Int))) rfl<|sE [(22,.bool (decide (au (cm 3) X=(0:Int))))] fun a t=>tK<|cJ 22 t (fun a3=> ?_) fun a3=> ?_
    ·have z:=jL (R▸F:(step M kd n s l).2.c =0) a3
     refine qP [(8,.int .i64 0)] t fun a t=>cR (yT ?_)
     refine rT 8 (.int .i64 0) t ?_
     replace r:=(r.grew G (d.l 0)).ext O
     rw[z];exact⟨rfl,m.ext r,MG.aI r⟩
    ·have z:=iC (kd:=kd) (n:=n) (s:=s) (l:=l) (M:=M) (fun e=>a3 e.2)
     refine cN<|tK<|qS t ?_
     replace A:=A.x O
     refine tR 0 A ?_
     replace u:=u.x O
     refine tR 1 u ?_
     replace xq:=xq.ext O
     replace xi:=xi.ext O
     replace xp:=xp.ext O
     replace I:=I.ext O
     replace J:=J.ext O
     replace K:=K.ext O
     refine tG 2 (bQ _ W X _ _ _ _ _ _ I J K _ _ _ _ _ _ xq xi xp r4 x32 (by omega) (by omega)) ?_
     rintro _ d5 ⟨rfl,b7⟩
     refine sT [(8,.int .i64 (au W X))] fun a t=>cR<|rT 8 (.int .i64 (au W X)) t ?_
     replace r:=((r.grew G (d.l 0)).ext O).ext b7
     rw[z];exact⟨by rw[R],m.ext r,MG.aI r⟩
   ·have z:=iC (X:=X) (fun e:(step M kd n s l).2.c =0∧au (cm 3) X=0=>F (R▸e.1))
    refine rS t<|tO 1 0 A<|eF 2 W.c 0<|sE [(22,.bool false)] fun a t=>tK<|cF 22 t<|cN ?_
    refine tK<|qS t<|tR 0 A ?_
    replace u:=u.y G (d.bp 1 0)
    refine tR 1 u<|tG 2 (bQ _ W X _ _ _ _ _ _ I J K _ _ _ _ _ _ xq xi xp r4 x32 (by omega) (by omega)) ?_
    rintro _ d6 ⟨rfl,b8⟩
    refine sT [(8,.int .i64 (au W X))] fun a t=>cR<|rT 8 (.int .i64 (au W X)) t ?_
    replace r:=(r.grew G (d.l 0)).ext b8
    rw[z];exact⟨by rw[R],m.ext r,MG.aI r⟩
 ·refine pg 21 16 4 [2] (Does.new (v:= .pointer (some ⟨h6.size,0,none⟩)) (o:= .cells (bY 0).toArray 47) (by kernel_rfl)) ?_
  rintro _ a7 ⟨rfl,hh⟩
  have V:Ext h6 a7:=aT hh
  have w:a7[h6.size]? =some (.cells (bY 0).toArray 47):=bj hh
  clear hh
  have c4:=aj w
  replace r:=r.ext Z
  replace d:=d.nw r.size w
  replace S:=S.x V
  refine⟨?_,?_⟩
  ·intro j Y
   simp only[List.mem_cons,List.not_mem_nil,or_false] at Y
   subst Y
   exact aE (Calm.load (T:=35) (p:=⟨h.size,0,none⟩) (by kernel_rfl) (Loads.blk (vs:=[.int .i64 kd,.string s,.slice oa l.length oc,.int .i64 n,.slice ka kn kc]) (by kernel_rfl) S rfl))
  replace u:=u.x V
  have c5:=aj u
  replace r:=r.ext V
  refine gD 23 19 1 [2] (Does.call (f:=23) (args:= #[.pointer (some ⟨mb,0,none⟩)]) (by kernel_rfl) (oU _ mb mp M (m.ext r) hE)) ?_
  rintro _ c0 ⟨c,q,rfl,Q,a8,a9,g⟩
  have b0:=r.size;have b1:=Nat.le_refl c0.size;have b2:=Q.kb
  replace kt:=((kt.ext g2).ext Z).ext V
  replace xq:=((xq.ext g2).ext Z).ext V
  replace xi:=((xi.ext g2).ext Z).ext V
  replace xp:=((xp.ext g2).ext Z).ext V
  replace r:=r.ext g
  replace kt:=kt.ext g
  replace xq:=xq.ext g
  replace xi:=xi.ext g
  replace xp:=xp.ext g
  replace S:=S.x g
  replace u:=u.x g
  replace w:=w.x g
  replace d:=d.up g.size
  clear g
  refine⟨?_,?_⟩
  ·intro j Y
   simp only[List.mem_cons,List.not_mem_nil,or_false] at Y
   subst Y
   exact aE (Calm.load (T:=35) (p:=⟨h.size,0,none⟩) (by kernel_rfl) (Loads.blk (vs:=[.int .i64 kd,.string s,.slice oa l.length oc,.int .i64 n,.slice ka kn kc]) (by kernel_rfl) S rfl))
  obtain⟨W,R⟩:∃W,(step M kd n s l).2 =W:=⟨_,rfl⟩
  have a1:=jJ Q kd n s l;rw[R] at a1
  refine gC 31 31 3 (qv _ c q M Q kd n s l oa oc ka kn kc (hr.ext r) hsz kt hE W R) ?_
  rintro _ c1 ⟨qa,qc,ia,ic,pa,pc,rfl,I,J,K,r4,_,L⟩
  replace r:Ext h c1:=Gr.dD r L (by rintro k (e|e)<;>omega)
  replace u:=L.blk u (by omega) (by omega)
  replace w:=L.blk w (by omega) (by omega)
  replace xq:=xq.vk L Q
  replace xi:=xi.vk L Q
  replace xp:=xp.vk L Q
  replace d:=d.up L.1
  refine mV 63 63 5 0 (bb W.c (.slice qa W.b.length qc) W.sx W.se W.sh W.sg (.slice ia W.i.length ic) W.n W.y W.k (.slice pa W.p.length pc)) (bb W.c (.slice qa W.b.length qc) W.sx W.se W.sh W.sg (.slice ia W.i.length ic) W.n W.y W.k (.slice pa W.p.length pc)) w fun d7 H zq=> ?_
  replace xq:=xq.aM H w (by decide)
  replace xi:=xi.aM H w (by decide)
  replace xp:=xp.aM H w (by decide)
  replace I:=I.aM H w (by decide)
  replace J:=J.aM H w (by decide)
  replace K:=K.aM H w (by decide)
  replace w:=zq
  refine mE [(9,pV h6.size)] fun a t=>tK<|cS<|cS ?_
  rcases Classical.em (W.c =0) with F|F
  ·refine rS t<|tO 1 0 w<|eT 2 W.c 0 ?_
   replace u:=u.y H (d.bp 1 0)
   refine tR 5 u<|tG 6 (bQ _ (cm 3) X none 0 none 0 none 0 (ay.nil _ _) (ay.nil _ _) (ay.nil _ _) _ _ _ _ _ _ xq xi xp aq.nil x32 (by decide) (by decide)) ?_
   rintro _ d8 ⟨rfl,P⟩
   refine t1 7 (.bool (decide (au (cm 3) X=(0:Int)))) (.bool (au (cm 3) X==(0:Int))) rfl<|sE [(22,.bool (decide (au (cm 3) X=(0:Int))))] fun a t=>tK<|cJ 22 t (fun a4=> ?_) fun a4=> ?_
   ·have z:=jL (R▸F:(step M kd n s l).2.c =0) a4
    refine qP [(8,.int .i64 0)] t fun a t=>cR (yT ?_)
    refine rT 8 (.int .i64 0) t ?_
    replace r:=(r.grew H (d.l 0)).ext P
    rw[z];exact⟨rfl,m.ext r,MG.aI r⟩
   ·have z:=iC (kd:=kd) (n:=n) (s:=s) (l:=l) (M:=M) (fun e=>a4 e.2)
    refine cN<|tK<|qS t ?_
    replace w:=w.x P
    refine tR 0 w ?_
    replace u:=u.x P
    refine tR 1 u ?_
    replace xq:=xq.ext P
    replace xi:=xi.ext P
    replace xp:=xp.ext P
    replace I:=I.ext P
    replace J:=J.ext P
    replace K:=K.ext P
    refine tG 2 (bQ _ W X _ _ _ _ _ _ I J K _ _ _ _ _ _ xq xi xp r4 x32 (by omega) (by omega)) ?_
    rintro _ d9 ⟨rfl,c2⟩
    refine sT [(8,.int .i64 (au W X))] fun a t=>cR<|rT 8 (.int .i64 (au W X)) t ?_
    replace r:=((r.grew H (d.l 0)).ext P).ext c2
    rw[z];exact⟨by rw[R],m.ext r,MG.aI r⟩
  ·have z:=iC (X:=X) (fun e:(step M kd n s l).2.c =0∧au (cm 3) X=0=>F (R▸e.1))
   refine rS t<|tO 1 0 w<|eF 2 W.c 0<|sE [(22,.bool false)] fun a t=>tK<|cF 22 t<|cN ?_
   refine tK<|qS t<|tR 0 w ?_
   replace u:=u.y H (d.bp 1 0)
   refine tR 1 u<|tG 2 (bQ _ W X _ _ _ _ _ _ I J K _ _ _ _ _ _ xq xi xp r4 x32 (by omega) (by omega)) ?_
   rintro _ e1 ⟨rfl,c3⟩
   refine sT [(8,.int .i64 (au W X))] fun a t=>cR<|rT 8 (.int .i64 (au W X)) t ?_
   replace r:=(r.grew H (d.l 0)).ext c3
   rw[z];exact⟨by rw[R],m.ext r,MG.aI r⟩
noncomputable def b59:Code:=Tryz.f59.body.getD .skip
set_option maxHeartbeats 1000000 in
theorem jR(h:Heap)(jb:Nat)(bs:List (Nat×Nat))(Ms:List Md)(o1 o2 o4:Bool)(ca:Option Addr)(cc:Nat)(ja:JA h jb bs ⟨Ms,o1,o2,false,o4⟩ ca cc)(kd n:Int)(s:ByteArray)(l:List UInt8)(oa:Option Addr)(oc:Nat)(ka:Option Addr)(kn kc:Nat)(hr:gB (JF jb bs) h (.slice oa l.length oc) l.length 1 (l.map bv))(hsz:s.size ≤9223372036854775807)(X:An)(cp:Option Addr)(cq:Nat)(cr:Option Addr)(ct:Nat)(cu:Option Addr)(cx:Nat)(xq:ay h (.slice cp X.b.length cq) X.b.length 1 (X.b.map bv))(xi:ay h (.slice cr X.i.length ct) X.i.length 1 (X.i.map Value.string))(xp:ay h (.slice cu X.p.length cx) X.p.length 32 (hcs X.p))(x32:aq X.p)(kt:bq h)(hE:∀M∈Ms,M.E.length ≤1099511627)(hn:bs.length ≤1099511627):Sat Tryz.prog 59 #[.pointer (some ⟨jb,0,none⟩),.agg #[.int .i64 kd,.string s,.slice oa l.length oc,.int .i64 n,.slice ka kn kc],.agg (bb X.c (.slice cp X.b.length cq) X.sx X.se X.sh X.sg (.slice cr X.i.length ct) X.n X.y X.k (.slice cu X.p.length cx)).toArray,.func (.func 61) #[.pointer (some ⟨jb,0,none⟩)] #[]] h fun v h'=>v= .int .i64 (bz ⟨Ms,o1,o2,false,o4⟩ (bA kd n s l X)).2 ∧∃bs' ca cc,JA h' jb bs' (bz ⟨Ms,o1,o2,false,o4⟩ (bA kd n s l X)).1 ca cc∧(∀x∈bs',x∈bs)∧Gr (JF jb bs) h h':=by
 obtain⟨o,Y,r⟩:=ja
 have b1:=o
 have c1:=aj o
 have b2:=r.CN o (by decide)
 have H:=r.oQ o (by decide) (by decide)
 have O:=Ext.refl h
 have a1:=kt.lt
 have j:Sep h.size h.size []:=Sep.nil _ _
 refine ag Tryz.func59 47 fun a g=>qS g<|tN 0 (pV h.size) #[.int .i64 kd,.string s,.slice oa l.length oc,.int .i64 n,.slice ka kn kc] 35 fun P g2 z=> ?_
 have c2:=aj z
 replace j:=j.nw O.size z
 refine tN 1 (pV P.size) ((bb X.c (.slice cp X.b.length cq) X.sx X.se X.sh X.sg (.slice cr X.i.length ct) X.n X.y X.k (.slice cu X.p.length cx)).toArray) 47 fun h6 g7 C=> ?_
 replace O:=O.ext g2
 replace j:=j.nw O.size C
 refine sT [(5,pV h.size),(6,pV P.size)] fun a g=>qP [(9,.slice none 0 0)] g fun a g=>qP [(10,.int .i64 0)] g fun a g=>cS<|qS g ?_
 replace o:=(o.x g2).x g7
 refine tO 3 0 o<|sT [(17,.slice ca bs.length cc),(18,nV bs.length),(19,.int .i64 0)] fun a g=>cB 0 ?_
 have d:Own h6 (.slice none 0 0) 55 0 1 ((bP (bA kd n s l X) bs Ms 0).map mh):=Own.nil _ _ _
 replace O:=O.ext g7
 have a2:=O.size
 replace j:=j.none a2;clear a2
 have q:Gr (JF jb bs) h h6:=(Gr.start _ _).ext O
 have w:CA h6 bs Ms:=r.ext O
 replace kt:=(kt.ext g2).ext g7
 replace z:=z.x g7
 refine cL (fun m a h'=>∃k:Nat,∃N:Option Addr,∃D:Nat,m=bs.length - k∧(bq h')∧(h'[jb]? =some (.cells #[.slice ca bs.length cc,.bool o1,.bool o2,.bool false,.bool o4] 77))∧(h'[h.size]? =some (.cells #[.int .i64 kd,.string s,.slice oa l.length oc,.int .i64 n,.slice ka kn kc] 35))∧(h'[P.size]? =some (.cells (bb X.c (.slice cp X.b.length cq) X.sx X.se X.sh X.sg (.slice cr X.i.length ct) X.n X.y X.k (.slice cu X.p.length cx)).toArray 47))∧(k≤bs.length)∧(Gr (JF jb bs) h h')∧(CA h' bs ((Ms.take k).map (fun M=>((bA kd n s l X) M).1)++Ms.drop k))∧(Own h' (.slice N ((bP (bA kd n s l X) bs Ms k).length) D) 55 ((bP (bA kd n s l X) bs Ms k).length) 1 ((bP (bA kd n s l X) bs Ms k).map mh))∧(Sep h.size h'.size [N.map (·.block),some (P.size),some (h.size)])∧(Fr a 47 [(0,.pointer (some ⟨jb,0,none⟩)),(3,.func (.func 61) #[.pointer (some ⟨jb,0,none⟩)] #[]),(5,.pointer (some ⟨h.size,0,none⟩)),(6,.pointer (some ⟨P.size,0,none⟩)),(9,.slice N ((bP (bA kd n s l X) bs Ms k).length) D),(10,.int .i64 (nh (bA kd n s l X) Ms k)),(17,.slice ca bs.length cc),(18,.int .i64 ((bs.length :Nat):Int)),(19,.int .i64 ((k:Nat):Int))])) (bs.length - 0) ⟨0,none,0,rfl,kt,o,z,C,(by omega),q,w,d,j,g.to⟩ ?_
 clear g a
 clear kt
 clear o
 clear z
 clear C
 clear q
 clear w
 clear d
 clear j
 rintro m a c3 ⟨k,N,D,rfl,kt,o,z,C,hk,q,w,d,j,g⟩
 refine qP [(20,.bool (decide (((k:Nat):Int)<((bs.length :Nat):Int))))] g fun a g=>cS<|cJ 20 g (fun a3=> ?_) fun a3=> ?_
 ·have hkn:k<bs.length :=by omega
  obtain⟨x,I⟩:∃x,bs[k]? =some x:=⟨_,List.getElem?_eq_getElem hkn⟩
  obtain⟨M,Q⟩:∃M,Ms[k]? =some M:=⟨_,List.getElem?_eq_getElem (by rw[←r.len];exact hkn)⟩
  have a4:=List.mem_of_getElem? I
  have m0:=r.at_ k x M I Q
  have mk:=w.at_ k x M I (kB (fun M=>((bA kd n s l X) M).1) Q)
  have c4:=m0.kb;have c0:=m0.k1
  obtain⟨c5,c6⟩:=m0.zO b1 (by decide)
  have b3:=hE M (List.mem_of_getElem? Q)
  have a5:=g
  obtain⟨aa,rfl,a6⟩:=Y.1.bf (by omega)
  have g:=a5;clear a5
  refine cN<|tK<|cS<|cB 1<|qS g<|tI 1 aa bs.length 1 k k<|tC 2 (pV x.1) (Calm.load (T:=55) (p:=(Addr.add aa k)) (by kernel_rfl) (Loads.one (k:=1) (by kernel_rfl) ((Y.fr q fun i e=>(H i e).2).1.cells k (mh x) (by rw[List.getElem?_map,I];rfl)))) ?_
  refine sT [(11,nV k),(12,pV x.1)] fun a g=>qS g<|tR 2 z<|tR 3 C<|tF 4 (Does.call (f:=61) (args:= #[.pointer (some ⟨jb,0,none⟩),.pointer (some ⟨x.1,0,none⟩),.agg #[.int .i64 kd,.string s,.slice oa l.length oc,.int .i64 n,.slice ka kn kc],.agg (bb X.c (.slice cp X.b.length cq) X.sx X.se X.sh X.sg (.slice cr X.i.length ct) X.n X.y X.k (.slice cu X.p.length cx)).toArray]) (by kernel_rfl) (xV _ jb x.1 x.2 M mk _ o1 o2 o4 o kd n s l oa oc ka kn kc (hr.gr q) hsz X cp cq cr ct cu cx (xq.fr q fun i e=>(H i e).1) (xi.fr q fun i e=>(H i e).1) (xp.fr q fun i e=>(H i e).1) x32 kt b3)) ?_
  rintro _ b5 ⟨rfl,a7,U⟩
  replace w:=w.set I (kB (fun M=>((bA kd n s l X) M).1) Q) U a7
  rw[oO (fun M=>((bA kd n s l X) M).1) Q] at w
  replace q:=q.xm U (by rintro i (e|e);exact .inl (.inr ⟨x,a4,.inl e⟩);exact .inl (.inr ⟨x,a4,.inr e⟩))
  replace kt:=kt.gr U (by rintro(e|e)<;>omega)
  replace o:=U.blk o (by omega) (by omega)
  replace z:=U.blk z (by omega) (by omega)
  replace C:=U.blk C (by omega) (by omega)
  replace d:=Gr.own U d (by rw[ae];intro k e;have:=j.low 0 rfl k e;rintro(e2|e2)<;>omega)
  replace j:=j.up U.1
  refine sT [(13,.int .i64 (((bA kd n s l X) M).2))] fun a g=>cS<|qP [(30,.bool (decide ((((bA kd n s l X) M).2)=(0:Int))))] g fun a g=>cJ 30 g (fun J=> ?_) fun J=> ?_
  ·have R:=qe (f:=(bA kd n s l X)) I Q J
   have c7:=ud (f:=(bA kd n s l X)) (bs:=bs) (Ms:=Ms) (i:=k)
   refine rS g<|tN 2 (.slice (some ⟨b5.size,0,none⟩) 1 1) #[pV x.1] 55 fun c8 u S=> ?_
   replace j:=j.nw q.1 S
   replace d:=d.ext u
   refine tP 3 ((bP (bA kd n s l X) bs Ms k).length +1) 8 ((bP (bA kd n s l X) bs Ms k).map mh++[mh x]) d (Row.blk (n:=1) (sz:=1) (l:=[mh x]) S rfl) (List.all_eq_true.1 (by rfl)) (fun A F c9 K t V=> ?_)
   replace q:=q.ext u
   replace w:=w.ext u
   replace w:=w.qg t d (ae ..) (by decide) (by decide)
   replace o:=o.x u
   replace o:=o.y t (fun e=>by have:=j.low 1 rfl _ e.symm;omega)
   have B:=j
   replace j:=j.sa t 1 V K q.1;clear V
   replace d:=K;clear K
   have jS:(bP (bA kd n s l X) bs Ms k).length +1=(bP (bA kd n s l X) bs Ms (k+1)).length :=by rw[R,List.length_append];rfl
   rw[jS,show(bP (bA kd n s l X) bs Ms k).map mh++[mh x]=(bP (bA kd n s l X) bs Ms (k+1)).map mh by rw[R,List.map_append];rfl] at d
   refine sE [(9,.slice A ((bP (bA kd n s l X) bs Ms k).length +1) F)] fun a g=> ?_
   have W:((bP (bA kd n s l X) bs Ms k).length +1:Nat)=(bP (bA kd n s l X) bs Ms (k+1)).length :=by first|exact jS| (simp;done)| (simp;omega)
   rw[W] at g;clear W
   refine tK<|qP [(36,.bool (decide (((k:Nat):Int)=(0:Int))))] g fun a g=>cJ 36 g (fun a8=> ?_) fun a8=> ?_
   ·have Z:k=0:=by omega
    have L:=jG (f:=(bA kd n s l X)) Z Q
    refine rP [(10,.int .i64 (((bA kd n s l X) M).2))] g fun a g=> ?_
    rw[←L] at g
    refine bK<|tK<|rS g<|tA 0 k 1<|sE [(19,nV (k+1))] fun a g=> ?_
    clear S
    replace kt:=(kt.ext u).grew t (B.zero 1 rfl a1)
    replace z:=(z.x u).y t (B.bp 3 1)
    replace C:=(C.x u).y t (B.bp 2 1)
    replace q:=q.bX t (fun i e=> .inr (by have:=B.low 1 rfl i e;omega))
    replace j:=j.sub (l':=[A.map (·.block),some (P.size),some (h.size)]) (.cons _ (.cons_cons _ (.cons_cons _ (.cons_cons _ (.slnil)))))
    show ∃m',m'<_∧_
    refine⟨_,?_,(k+1),A,F,rfl,kt,o,z,C,(by omega),q,w,d,j,g.to⟩
    omega
   ·rw[←jH (bA kd n s l X) Ms (k:=k) (by omega)] at g
    refine cN<|bK<|tK<|rS g<|tA 0 k 1<|sE [(19,nV (k+1))] fun a g=> ?_
    clear S
    replace kt:=(kt.ext u).grew t (B.zero 1 rfl a1)
    replace z:=(z.x u).y t (B.bp 3 1)
    replace C:=(C.x u).y t (B.bp 2 1)
    replace q:=q.bX t (fun i e=> .inr (by have:=B.low 1 rfl i e;omega))
    replace j:=j.sub (l':=[A.map (·.block),some (P.size),some (h.size)]) (.cons _ (.cons_cons _ (.cons_cons _ (.cons_cons _ (.slnil)))))
    show ∃m',m'<_∧_
    refine⟨_,?_,(k+1),A,F,rfl,kt,o,z,C,(by omega),q,w,d,j,g.to⟩
    omega
  ·have R:=uc (f:=(bA kd n s l X)) I Q J
   rw[←R] at d g
   refine cN<|tK<|qP [(36,.bool (decide (((k:Nat):Int)=(0:Int))))] g fun a g=>cJ 36 g (fun a9=> ?_) fun a9=> ?_
   ·have Z:k=0:=by omega
    have L:=jG (f:=(bA kd n s l X)) Z Q
    refine rP [(10,.int .i64 (((bA kd n s l X) M).2))] g fun a g=> ?_
    rw[←L] at g
    refine bK<|tK<|rS g<|tA 0 k 1<|sE [(19,nV (k+1))] fun a g=> ?_
    replace j:=j.sub (l':=[N.map (·.block),some (P.size),some (h.size)]) (.cons_cons _ (.cons_cons _ (.cons_cons _ (.slnil))))
    show ∃m',m'<_∧_
    refine⟨_,?_,(k+1),N,D,rfl,kt,o,z,C,(by omega),q,w,d,j,g.to⟩
    omega
   ·rw[←jH (bA kd n s l X) Ms (k:=k) (by omega)] at g
    refine cN<|bK<|tK<|rS g<|tA 0 k 1<|sE [(19,nV (k+1))] fun a g=> ?_
    replace j:=j.sub (l':=[N.map (·.block),some (P.size),some (h.size)]) (.cons_cons _ (.cons_cons _ (.cons_cons _ (.slnil))))
    show ∃m',m'<_∧_
    refine⟨_,?_,(k+1),N,D,rfl,kt,o,z,C,(by omega),q,w,d,j,g.to⟩
    omega
 ·refine cX 0 (xT (xT (xB ?_)))
  refine tK<|cS<|qP [(41,.bool (decide ((((bP (bA kd n s l X) bs Ms k).length :Nat):Int)=(0:Int))))] g fun a g=>cJ 41 g (fun b0=> ?_) fun b0=> ?_
  ·have G:k=bs.length :=by omega
   rw[jI _ _ (G.trans r.len)] at w
   have a0:=ue (f:=(bA kd n s l X)) (bs:=bs) (Ms:=Ms) r.len (by rw[←G];omega)
   refine qP [(8,.int .i64 (nh (bA kd n s l X) Ms k))] g fun a g=>cR (yT ?_)
   refine rT 8 (.int .i64 (nh (bA kd n s l X) Ms k)) g ?_
   rw[ug (f:=(bA kd n s l X)) a0];exact⟨by rw[uf (G.trans r.len)],bs,ca,cc,⟨o,Y.fr q fun i e=>(H i e).2,w⟩,fun x I=>I,q⟩
  ·have G:k=bs.length :=by omega
   rw[jI _ _ (G.trans r.len)] at w
   have a0:=xl (f:=(bA kd n s l X)) (bs:=bs) (Ms:=Ms) r.len (by rw[←G];omega)
   refine cN<|tK<|qS g<|tW 4 0 ([.slice N ((bP (bA kd n s l X) bs Ms k).length) D]) ([.slice ca bs.length cc,.bool o1,.bool o2,.bool false,.bool o4]) ([.slice N ((bP (bA kd n s l X) bs Ms k).length) D,.bool o1,.bool o2,.bool false,.bool o4]) o (fun d0 gz b6=> ?_)
   refine sT [] fun a g=>qP [(8,.int .i64 0)] g fun a g=>cR<|rT 8 (.int .i64 0) g ?_
   have b7:∀i,i=jb→aY _ i:=fun i e=>e▸aY.cells o (by decide)
   have b8:∀i,i=jb→zN _ i:=fun i e w fr e2=>by rw[e,o] at e2;cases e2
   rw[mi (f:=(bA kd n s l X)) a0];exact⟨rfl,bP (bA kd n s l X) bs Ms k,_,_,⟨b6,(kU.of d).fr gz.pM b8,(G▸w.fit r.len).fr gz.pM b7 fun x I=>by have:=b2 x (jF x I);exact⟨fun e=>this.1 e.symm,fun e=>this.2 e.symm⟩⟩,jF,q.bX gz (fun i e=>by cases e;exact .inl (.inl rfl))⟩
set_option maxHeartbeats 1000000 in
theorem nU(h:Heap)(jb:Nat)(bs:List (Nat×Nat))(Ms:List Md)(o1 o2 o4:Bool)(ca:Option Addr)(cc:Nat)(ja:JA h jb bs ⟨Ms,o1,o2,false,o4⟩ ca cc)(kd n:Int)(s:ByteArray)(l:List UInt8)(oa:Option Addr)(oc:Nat)(ka:Option Addr)(kn kc:Nat)(hr:gB (JF jb bs) h (.slice oa l.length oc) l.length 1 (l.map bv))(hsz:s.size ≤9223372036854775807)(X:An)(cp:Option Addr)(cq:Nat)(cr:Option Addr)(ct:Nat)(cu:Option Addr)(cx:Nat)(xq:ay h (.slice cp X.b.length cq) X.b.length 1 (X.b.map bv))(xi:ay h (.slice cr X.i.length ct) X.i.length 1 (X.i.map Value.string))(xp:ay h (.slice cu X.p.length cx) X.p.length 32 (hcs X.p))(x32:aq X.p)(kt:bq h)(hE:∀M∈Ms,M.E.length ≤1099511627)(hn:bs.length ≤1099511627):Sat Tryz.prog 59 #[.pointer (some ⟨jb,0,none⟩),.agg #[.int .i64 kd,.string s,.slice oa l.length oc,.int .i64 n,.slice ka kn kc],.agg (bb X.c (.slice cp X.b.length cq) X.sx X.se X.sh X.sg (.slice cr X.i.length ct) X.n X.y X.k (.slice cu X.p.length cx)).toArray,.func (.func 60) #[.pointer (some ⟨jb,0,none⟩)] #[]] h fun v h'=>v= .int .i64 (bz ⟨Ms,o1,o2,false,o4⟩ (bh kd n s l X)).2 ∧∃bs' ca cc,JA h' jb bs' (bz ⟨Ms,o1,o2,false,o4⟩ (bh kd n s l X)).1 ca cc∧(∀x∈bs',x∈bs)∧Gr (JF jb bs) h h':=by
 obtain⟨q,Y,r⟩:=ja
 have b1:=q
 have c1:=aj q
 have b2:=r.CN q (by decide)
 have H:=r.oQ q (by decide) (by decide)
 have O:=Ext.refl h
 have a1:=kt.lt
 have j:Sep h.size h.size []:=Sep.nil _ _
 refine ag Tryz.func59 47 fun a g=>qS g<|tN 0 (pV h.size) #[.int .i64 kd,.string s,.slice oa l.length oc,.int .i64 n,.slice ka kn kc] 35 fun P g2 z=> ?_
 have c2:=aj z
 replace j:=j.nw O.size z
 refine tN 1 (pV P.size) ((bb X.c (.slice cp X.b.length cq) X.sx X.se X.sh X.sg (.slice cr X.i.length ct) X.n X.y X.k (.slice cu X.p.length cx)).toArray) 47 fun h6 g7 C=> ?_
 replace O:=O.ext g2
 replace j:=j.nw O.size C
 refine sT [(5,pV h.size),(6,pV P.size)] fun a g=>qP [(9,.slice none 0 0)] g fun a g=>qP [(10,.int .i64 0)] g fun a g=>cS<|qS g ?_
 replace q:=(q.x g2).x g7
 refine tO 3 0 q<|sT [(17,.slice ca bs.length cc),(18,nV bs.length),(19,.int .i64 0)] fun a g=>cB 0 ?_
 have d:Own h6 (.slice none 0 0) 55 0 1 ((bP (bh kd n s l X) bs Ms 0).map mh):=Own.nil _ _ _
 replace O:=O.ext g7
 have a2:=O.size
 replace j:=j.none a2;clear a2
 have o:Gr (JF jb bs) h h6:=(Gr.start _ _).ext O
 have w:CA h6 bs Ms:=r.ext O
 replace kt:=(kt.ext g2).ext g7
 replace z:=z.x g7
 refine cL (fun m a h'=>∃k:Nat,∃N:Option Addr,∃D:Nat,m=bs.length - k∧(bq h')∧(h'[jb]? =some (.cells #[.slice ca bs.length cc,.bool o1,.bool o2,.bool false,.bool o4] 77))∧(h'[h.size]? =some (.cells #[.int .i64 kd,.string s,.slice oa l.length oc,.int .i64 n,.slice ka kn kc] 35))∧(h'[P.size]? =some (.cells (bb X.c (.slice cp X.b.length cq) X.sx X.se X.sh X.sg (.slice cr X.i.length ct) X.n X.y X.k (.slice cu X.p.length cx)).toArray 47))∧(k≤bs.length)∧(Gr (JF jb bs) h h')∧(CA h' bs ((Ms.take k).map (fun M=>((bh kd n s l X) M).1)++Ms.drop k))∧(Own h' (.slice N ((bP (bh kd n s l X) bs Ms k).length) D) 55 ((bP (bh kd n s l X) bs Ms k).length) 1 ((bP (bh kd n s l X) bs Ms k).map mh))∧(Sep h.size h'.size [N.map (·.block),some (P.size),some (h.size)])∧(Fr a 47 [(0,.pointer (some ⟨jb,0,none⟩)),(3,.func (.func 60) #[.pointer (some ⟨jb,0,none⟩)] #[]),(5,.pointer (some ⟨h.size,0,none⟩)),(6,.pointer (some ⟨P.size,0,none⟩)),(9,.slice N ((bP (bh kd n s l X) bs Ms k).length) D),(10,.int .i64 (nh (bh kd n s l X) Ms k)),(17,.slice ca bs.length cc),(18,.int .i64 ((bs.length :Nat):Int)),(19,.int .i64 ((k:Nat):Int))])) (bs.length - 0) ⟨0,none,0,rfl,kt,q,z,C,(by omega),o,w,d,j,g.to⟩ ?_
 clear g a
 clear kt
 clear q
 clear z
 clear C
 clear o
 clear w
 clear d
 clear j
 rintro m a c3 ⟨k,N,D,rfl,kt,q,z,C,hk,o,w,d,j,g⟩
 refine qP [(20,.bool (decide (((k:Nat):Int)<((bs.length :Nat):Int))))] g fun a g=>cS<|cJ 20 g (fun a3=> ?_) fun a3=> ?_
 ·have hkn:k<bs.length :=by omega
  obtain⟨x,I⟩:∃x,bs[k]? =some x:=⟨_,List.getElem?_eq_getElem hkn⟩
  obtain⟨M,Q⟩:∃M,Ms[k]? =some M:=⟨_,List.getElem?_eq_getElem (by rw[←r.len];exact hkn)⟩
  have a4:=List.mem_of_getElem? I
  have m0:=r.at_ k x M I Q
  have mk:=w.at_ k x M I (kB (fun M=>((bh kd n s l X) M).1) Q)
  have c4:=m0.kb;have c0:=m0.k1
  obtain⟨c5,c6⟩:=m0.zO b1 (by decide)
  have b3:=hE M (List.mem_of_getElem? Q)
  have a5:=g
  obtain⟨aa,rfl,a6⟩:=Y.1.bf (by omega)
  have g:=a5;clear a5
  refine cN<|tK<|cS<|cB 1<|qS g<|tI 1 aa bs.length 1 k k<|tC 2 (pV x.1) (Calm.load (T:=55) (p:=(Addr.add aa k)) (by kernel_rfl) (Loads.one (k:=1) (by kernel_rfl) ((Y.fr o fun i e=>(H i e).2).1.cells k (mh x) (by rw[List.getElem?_map,I];rfl)))) ?_
  refine sT [(11,nV k),(12,pV x.1)] fun a g=>qS g<|tR 2 z<|tR 3 C<|tF 4 (Does.call (f:=60) (args:= #[.pointer (some ⟨jb,0,none⟩),.pointer (some ⟨x.1,0,none⟩),.agg #[.int .i64 kd,.string s,.slice oa l.length oc,.int .i64 n,.slice ka kn kc],.agg (bb X.c (.slice cp X.b.length cq) X.sx X.se X.sh X.sg (.slice cr X.i.length ct) X.n X.y X.k (.slice cu X.p.length cx)).toArray]) (by kernel_rfl) (xW _ jb x.1 x.2 M mk kd n s l oa oc ka kn kc (hr.gr o) hsz X cp cq cr ct cu cx (xq.fr o fun i e=>(H i e).1) (xi.fr o fun i e=>(H i e).1) (xp.fr o fun i e=>(H i e).1) x32 kt b3)) ?_
  rintro _ b5 ⟨rfl,a7,U⟩
  replace w:=w.set I (kB (fun M=>((bh kd n s l X) M).1) Q) U a7
  rw[oO (fun M=>((bh kd n s l X) M).1) Q] at w
  replace o:=o.xm U (by rintro i (e|e);exact .inl (.inr ⟨x,a4,.inl e⟩);exact .inl (.inr ⟨x,a4,.inr e⟩))
  replace kt:=kt.gr U (by rintro(e|e)<;>omega)
  replace q:=U.blk q (by omega) (by omega)
  replace z:=U.blk z (by omega) (by omega)
  replace C:=U.blk C (by omega) (by omega)
  replace d:=Gr.own U d (by rw[ae];intro k e;have:=j.low 0 rfl k e;rintro(e2|e2)<;>omega)
  replace j:=j.up U.1
  refine sT [(13,.int .i64 (((bh kd n s l X) M).2))] fun a g=>cS<|qP [(30,.bool (decide ((((bh kd n s l X) M).2)=(0:Int))))] g fun a g=>cJ 30 g (fun J=> ?_) fun J=> ?_
  ·have R:=qe (f:=(bh kd n s l X)) I Q J
   have c7:=ud (f:=(bh kd n s l X)) (bs:=bs) (Ms:=Ms) (i:=k)
   refine rS g<|tN 2 (.slice (some ⟨b5.size,0,none⟩) 1 1) #[pV x.1] 55 fun c8 u S=> ?_
   replace j:=j.nw o.1 S
   replace d:=d.ext u
   refine tP 3 ((bP (bh kd n s l X) bs Ms k).length +1) 8 ((bP (bh kd n s l X) bs Ms k).map mh++[mh x]) d (Row.blk (n:=1) (sz:=1) (l:=[mh x]) S rfl) (List.all_eq_true.1 (by rfl)) (fun A F c9 K t V=> ?_)
   replace o:=o.ext u
   replace w:=w.ext u
   replace w:=w.qg t d (ae ..) (by decide) (by decide)
   replace q:=q.x u
   replace q:=q.y t (fun e=>by have:=j.low 1 rfl _ e.symm;omega)
   have B:=j
   replace j:=j.sa t 1 V K o.1;clear V
   replace d:=K;clear K
   have jS:(bP (bh kd n s l X) bs Ms k).length +1=(bP (bh kd n s l X) bs Ms (k+1)).length :=by rw[R,List.length_append];rfl
   rw[jS,show(bP (bh kd n s l X) bs Ms k).map mh++[mh x]=(bP (bh kd n s l X) bs Ms (k+1)).map mh by rw[R,List.map_append];rfl] at d
   refine sE [(9,.slice A ((bP (bh kd n s l X) bs Ms k).length +1) F)] fun a g=> ?_
   have W:((bP (bh kd n s l X) bs Ms k).length +1:Nat)=(bP (bh kd n s l X) bs Ms (k+1)).length :=by first|exact jS| (simp;done)| (simp;omega)
   rw[W] at g;clear W
   refine tK<|qP [(36,.bool (decide (((k:Nat):Int)=(0:Int))))] g fun a g=>cJ 36 g (fun a8=> ?_) fun a8=> ?_
   ·have Z:k=0:=by omega
    have L:=jG (f:=(bh kd n s l X)) Z Q
    refine rP [(10,.int .i64 (((bh kd n s l X) M).2))] g fun a g=> ?_
    rw[←L] at g
    refine bK<|tK<|rS g<|tA 0 k 1<|sE [(19,nV (k+1))] fun a g=> ?_
    clear S
    replace kt:=(kt.ext u).grew t (B.zero 1 rfl a1)
    replace z:=(z.x u).y t (B.bp 3 1)
    replace C:=(C.x u).y t (B.bp 2 1)
    replace o:=o.bX t (fun i e=> .inr (by have:=B.low 1 rfl i e;omega))
    replace j:=j.sub (l':=[A.map (·.block),some (P.size),some (h.size)]) (.cons _ (.cons_cons _ (.cons_cons _ (.cons_cons _ (.slnil)))))
    show ∃m',m'<_∧_
    refine⟨_,?_,(k+1),A,F,rfl,kt,q,z,C,(by omega),o,w,d,j,g.to⟩
    omega
   ·rw[←jH (bh kd n s l X) Ms (k:=k) (by omega)] at g
    refine cN<|bK<|tK<|rS g<|tA 0 k 1<|sE [(19,nV (k+1))] fun a g=> ?_
    clear S
    replace kt:=(kt.ext u).grew t (B.zero 1 rfl a1)
    replace z:=(z.x u).y t (B.bp 3 1)
    replace C:=(C.x u).y t (B.bp 2 1)
    replace o:=o.bX t (fun i e=> .inr (by have:=B.low 1 rfl i e;omega))
    replace j:=j.sub (l':=[A.map (·.block),some (P.size),some (h.size)]) (.cons _ (.cons_cons _ (.cons_cons _ (.cons_cons _ (.slnil)))))
    show ∃m',m'<_∧_
    refine⟨_,?_,(k+1),A,F,rfl,kt,q,z,C,(by omega),o,w,d,j,g.to⟩
    omega
  ·have R:=uc (f:=(bh kd n s l X)) I Q J
   rw[←R] at d g
   refine cN<|tK<|qP [(36,.bool (decide (((k:Nat):Int)=(0:Int))))] g fun a g=>cJ 36 g (fun a9=> ?_) fun a9=> ?_
   ·have Z:k=0:=by omega
    have L:=jG (f:=(bh kd n s l X)) Z Q
    refine rP [(10,.int .i64 (((bh kd n s l X) M).2))] g fun a g=> ?_
    rw[←L] at g
    refine bK<|tK<|rS g<|tA 0 k 1<|sE [(19,nV (k+1))] fun a g=> ?_
    replace j:=j.sub (l':=[N.map (·.block),some (P.size),some (h.size)]) (.cons_cons _ (.cons_cons _ (.cons_cons _ (.slnil))))
    show ∃m',m'<_∧_
    refine⟨_,?_,(k+1),N,D,rfl,kt,q,z,C,(by omega),o,w,d,j,g.to⟩
    omega
   ·rw[←jH (bh kd n s l X) Ms (k:=k) (by omega)] at g
    refine cN<|bK<|tK<|rS g<|tA 0 k 1<|sE [(19,nV (k+1))] fun a g=> ?_
    replace j:=j.sub (l':=[N.map (·.block),some (P.size),some (h.size)]) (.cons_cons _ (.cons_cons _ (.cons_cons _ (.slnil))))
    show ∃m',m'<_∧_
    refine⟨_,?_,(k+1),N,D,rfl,kt,q,z,C,(by omega),o,w,d,j,g.to⟩
    omega
 ·refine cX 0 (xT (xT (xB ?_)))
  refine tK<|cS<|qP [(41,.bool (decide ((((bP (bh kd n s l X) bs Ms k).length :Nat):Int)=(0:Int))))] g fun a g=>cJ 41 g (fun b0=> ?_) fun b0=> ?_
  ·have G:k=bs.length :=by omega
   rw[jI _ _ (G.trans r.len)] at w
   have a0:=ue (f:=(bh kd n s l X)) (bs:=bs) (Ms:=Ms) r.len (by rw[←G];omega)
   refine qP [(8,.int .i64 (nh (bh kd n s l X) Ms k))] g fun a g=>cR (yT ?_)
   refine rT 8 (.int .i64 (nh (bh kd n s l X) Ms k)) g ?_
   rw[ug (f:=(bh kd n s l X)) a0];exact⟨by rw[uf (G.trans r.len)],bs,ca,cc,⟨q,Y.fr o fun i e=>(H i e).2,w⟩,fun x I=>I,o⟩
  ·have G:k=bs.length :=by omega
   rw[jI _ _ (G.trans r.len)] at w
   have a0:=xl (f:=(bh kd n s l X)) (bs:=bs) (Ms:=Ms) r.len (by rw[←G];omega)
   refine cN<|tK<|qS g<|tW 4 0 ([.slice N ((bP (bh kd n s l X) bs Ms k).length) D]) ([.slice ca bs.length cc,.bool o1,.bool o2,.bool false,.bool o4]) ([.slice N ((bP (bh kd n s l X) bs Ms k).length) D,.bool o1,.bool o2,.bool false,.bool o4]) q (fun d0 gz b6=> ?_)
   refine sT [] fun a g=>qP [(8,.int .i64 0)] g fun a g=>cR<|rT 8 (.int .i64 0) g ?_
   have b7:∀i,i=jb→aY _ i:=fun i e=>e▸aY.cells q (by decide)
   have b8:∀i,i=jb→zN _ i:=fun i e w fr e2=>by rw[e,q] at e2;cases e2
   rw[mi (f:=(bh kd n s l X)) a0];exact⟨rfl,bP (bh kd n s l X) bs Ms k,_,_,⟨b6,(kU.of d).fr gz.pM b8,(G▸w.fit r.len).fr gz.pM b7 fun x I=>by have:=b2 x (jF x I);exact⟨fun e=>this.1 e.symm,fun e=>this.2 e.symm⟩⟩,jF,o.bX gz (fun i e=>by cases e;exact .inl (.inl rfl))⟩
end Go.Proofs.YtegkejcglfgpmaaGreatDoor
end
section
namespace Go.aL
open Go Go.ai
/-! ### the candidates when the power goes off: each beside what it becomes -/
abbrev Cn:=(Nat×Nat)×Md
@[reducible] def mz(z:Cn):Value:=mh z.1
noncomputable def jT(M:Md)(T:List Cn):Bool:=T.any fun z=>eK M z.2
noncomputable def cW(T:List Cn)(z:Cn):List Cn:=if jT z.2 T=true then T else T++[z]
noncomputable def vD(M:Md)(Ns:List Md):Bool:=Ns.any fun N=>eK M N
noncomputable def g_(Ns:List Md)(M:Md):List Md:=if vD M Ns=true then Ns else Ns++[M]
theorem BO(M:Md)(T:List Cn):jT M T=vD M (T.map fun z=>z.2):=by unfold jT vD;rw[List.any_map];rfl
theorem sr(T:List Cn)(z:Cn):(cW T z).map (fun z=>z.2)=g_ (T.map fun z=>z.2) z.2 :=by
  unfold cW g_;rw[BO];split
  · rfl
  · rw[List.map_append];rfl
theorem uw{T:List Cn}{z:Cn}(h:jT z.2 T=true):cW T z=T:=by unfold cW;rw[if_pos h]
theorem qw{T:List Cn}{z:Cn}(h:jT z.2 T=false):cW T z=T++[z]:=by unfold cW;rw[if_neg (by rw[h];decide)]
theorem ux(T:List Cn)(z:Cn):(cW T z).length ≤T.length +1:=by unfold cW;split<;>simp
theorem mn{T:List Cn}{z y:Cn}(h:y∈cW T z):y∈T∨y=z:=by
  unfold cW at h;split at h
  · exact .inl h
  · exact(List.mem_append.1 h).imp id List.mem_singleton.1
theorem xY{T:List Cn}{M:Md}{k:Nat}(h:∀i z,i<k→T[i]? =some z→eK M z.2 =false)(hk:k=T.length):jT M T=false:=by
  unfold jT;rw[List.any_eq_false];intro z hz
  obtain⟨i,hi⟩:=List.getElem?_of_mem hz
  rw[h i z (by rw[hk];exact(List.getElem?_eq_some_iff.1 hi).1) hi];decide
theorem Ae{T:List Cn}{M:Md}{k:Nat}{z:Cn}(hz:T[k]? =some z)(h:eK M z.2 =true):jT M T=true:=by
  unfold jT;rw[List.any_eq_true];exact⟨z,List.mem_of_getElem? hz,h⟩
theorem xZ{T:List Cn}{M:Md}{k:Nat}{z:Cn}(h:∀i z,i<k→T[i]? =some z→eK M z.2 =false)(hz:T[k]? =some z)(e:eK M z.2 =false):∀i z,i<k+1→T[i]? =some z→eK M z.2 =false:=fun i y hi hy=>by
  rcases Nat.lt_succ_iff_lt_or_eq.1 hi with h1|rfl
  · exact h i y h1 hy
  · rw[hz] at hy;cases hy;exact e
structure CS(h:Heap)(S:List Cn):Prop where
  at_:∀z∈S,Mod h z.1.1 z.1.2 z.2
  nb:(S.map fun z=>z.1.1).Nodup
  np:(S.map fun z=>z.1.2).Nodup
section
variable {h h':Heap} {S S' T U D:List Cn} {bs:List (Nat×Nat)} {Ms:List Md} {z:Cn} {c q:Nat} {M N:Md}
theorem CS.perm(s:CS h S)(p:S.Perm S'):CS h S':=⟨fun z hz=>s.at_ z (p.mem_iff.2 hz),(p.map _).nodup_iff.1 s.nb,(p.map _).nodup_iff.1 s.np⟩
theorem CS.sub(s:CS h S)(p:S'.Sublist S):CS h S':=⟨fun z hz=>s.at_ z (p.subset hz),s.nb.sublist (p.map _),s.np.sublist (p.map _)⟩
theorem uy:∀{bs:List (Nat×Nat)} {Ms:List Md} {z:Cn},z∈bs.zip Ms→∃i:Nat,bs[i]? =some z.1 ∧Ms[i]? =some z.2
  |[],_,_,h=>by simp at h
  |_::_,[],_,h=>by simp at h
  | x :: bs, M :: Ms, z, h => by
    rw[List.zip_cons_cons] at h
    rcases List.mem_cons.1 h with rfl|h
    · exact⟨0,rfl,rfl⟩
    · obtain⟨i,h1,h2⟩:=uy h;exact⟨i+1,h1,h2⟩
theorem CS.Ec(c:CA h bs Ms):CS h (bs.zip Ms):=by
  have e:∀{α:Type} (f:Nat×Nat→α),(bs.zip Ms).map (fun z=>f z.1)=bs.map f:=fun f=>by
    rw[show(fun z:Cn=>f z.1)=f∘Prod.fst from rfl, ←List.map_map,List.map_fst_zip (by rw[c.len];exact Nat.le_refl _)]
  refine⟨fun z hz=> ?_, ?_, ?_⟩
  · obtain⟨i,h1,h2⟩:=uy hz;exact c.at_ i z.1 z.2 h1 h2
  · rw[e fun x=>x.1];exact c.nb
  · rw[e fun x=>x.2];exact c.np
theorem CS.Ed(s:CS h S):CA h (S.map fun z=>z.1) (S.map fun z=>z.2):=by
  refine⟨by rw[List.length_map,List.length_map],fun i x M h1 h2=> ?_,by rw[List.map_map];exact s.nb,by rw[List.map_map];exact s.np⟩
  rw[List.getElem?_map] at h1 h2
  cases hi:S[i]? with
  |none=>rw[hi] at h1;cases h1
  |some z=>rw[hi] at h1 h2;cases h1;cases h2;exact s.at_ z (List.mem_of_getElem? hi)
theorem CS.ext(s:CS h S)(g:Ext h h'):CS h' S:=⟨fun z hz=>(s.at_ z hz).ext g,s.nb,s.np⟩
theorem CS.qg{o:Option Nat}{v:Value}{E:TypeId}{n sz:Nat}{xs:List Value}(s:CS h S)(g:Grew o h h')(w:Own h v E n sz xs)(ho:aZ v=o)(hE:lj E=false)(hM:E≠83):CS h' S:=⟨fun z hz=>(s.at_ z hz).eJ g w ho hE hM,s.nb,s.np⟩
theorem CS.aM{cs:Array Value}{E:TypeId}{fr:Nat×Nat}(s:CS h S)(g:Grew (some c) h h')(k:h[c]? =some (.cells cs E fr))(hE:lj E=false)(hM:E≠83):CS h' S:=⟨fun z hz=>(s.at_ z hz).aM g k hE ((s.at_ z hz).zO k hM).1,s.nb,s.np⟩
theorem CS.snoc(s:CS h S)(m:Mod h c q M)(h1:∀z∈S,z.1.1 <c∧z.1.2 <q):CS h (S++[((c,q),M)]):=by
  refine⟨fun z hz=> ?_, ?_, ?_⟩
  · rcases List.mem_append.1 hz with e | e
    · exact s.at_ z e
    · rw[List.mem_singleton.1 e];exact m
  · rw [List.map_append, List.nodup_append]; refine ⟨s.nb, by simp, fun a ha b hb e => ?_⟩
    obtain⟨z,hz,rfl⟩:=List.mem_map.1 ha
    simp only[List.map_cons,List.map_nil,List.mem_singleton] at hb
    have:=(h1 z hz).1;omega
  · rw [List.map_append, List.nodup_append]; refine ⟨s.np, by simp, fun a ha b hb e => ?_⟩
    obtain⟨z,hz,rfl⟩:=List.mem_map.1 ha
    simp only[List.map_cons,List.map_nil,List.mem_singleton] at hb
    have:=(h1 z hz).2;omega
theorem CS.upd(s:CS h (S++[((c,q),M)]))(g:MG c q h h')(m:Mod h' c q N):CS h' (S++[((c,q),N)]):=by
  have hm:=s.at_ ((c,q),M) (by simp)
  have n1:=s.nb;have n2:=s.np
  rw[List.map_append,List.nodup_append] at n1 n2
  refine⟨fun z hz=> ?_,by rw[List.map_append,List.nodup_append];exact n1,by rw[List.map_append,List.nodup_append];exact n2⟩
  rcases List.mem_append.1 hz with e|e
  · exact(s.at_ z (by simp[e])).other hm g (fun k=>n1.2.2 _ (List.mem_map.2 ⟨z,e,rfl⟩) c (by simp) k) fun k=>n2.2.2 _ (List.mem_map.2 ⟨z,e,rfl⟩) q (by simp) k
  · rw[List.mem_singleton.1 e];exact m
theorem CS.lt(s:CS h S):∀z∈S,z.1.1 <h.size ∧z.1.2 <h.size :=fun z hz=>(s.at_ z hz).kb
theorem CS.take(s:CS h (T++U++z::D)):∃V,CS h (cW T z++V++D):=by
  cases e:jT z.2 T with
  |true=>rw[uw e];exact⟨U++[z],by simpa using s⟩
  |false=>rw[qw e];exact⟨U,s.perm (by
      have:=(List.perm_middle (a:=z) (l₁:=U) (l₂:=D)).append_left T
      simpa using this)⟩
theorem CS.takeN(s:CS h (T++U++D++[z])):∃V,CS h (cW T z++V++D):=by
  have:CS h (T++U++z::D):=s.perm (by
    have:=((List.perm_append_comm (l₁:=D) (l₂:=[z])).append_left U).append_left T
    simpa using this)
  exact this.take
theorem CS.first(s:CS h (T++U++D)):CS h T:=s.sub (by rw[List.append_assoc];exact List.sublist_append_left ..)
theorem CA.aM{b:Nat}{cs:Array Value}{E:TypeId}{fr:Nat×Nat}(s:CA h bs Ms)(g:Grew (some b) h h')(k:h[b]? =some (.cells cs E fr))(hE:lj E=false)(hM:E≠83):CA h' bs Ms:=⟨s.len,fun i x M h1 h2=>(s.at_ i x M h1 h2).aM g k hE ((s.at_ i x M h1 h2).zO k hM).1,s.nb,s.np⟩
theorem x0{k:Nat}{x:Nat×Nat}(hx:bs[k]? =some x)(hM:Ms[k]? =some M):(bs.zip Ms).drop k=(x,M)::(bs.zip Ms).drop (k+1):=by
  have h1:=(List.getElem?_eq_some_iff.1 hx).1
  have h2:=(List.getElem?_eq_some_iff.1 hM).1
  rw[List.drop_eq_getElem_cons (by rw[List.length_zip];omega),List.getElem_zip]
  rw[List.getElem?_eq_getElem h1] at hx;rw[List.getElem?_eq_getElem h2] at hM
  rw[Option.some.inj hx,Option.some.inj hM]
theorem JA.mkT{jb cap:Nat}{ad:Option Addr}{o1 o2 o3:Bool}{Ns:List Md}(hj:h[jb]? =some (.cells #[.slice ad T.length cap, .bool o1, .bool o2, .bool o3, .bool (decide ((16:Int)<((T.length :Nat):Int)))] 77))(own:Own h (.slice ad T.length cap) 55 T.length 1 (T.map mz))(s:CS h T)(e:T.map (fun z=>z.2)=Ns):JA h jb (T.map fun z=>z.1) ⟨Ns,o1,o2,o3,decide (16<Ns.length)⟩ ad cap:=by
  have hl:(T.map fun z:Cn=>z.1).length =T.length :=List.length_map _
  have hn:T.length =Ns.length :=by rw[←e,List.length_map]
  refine⟨?_, ?_, ?_⟩
  · rw [hl]; show h[jb]? = some (.cells #[_, _, _, _, .bool (decide (16 < Ns.length))] _)
    rw[hj,hn]
    have hd:decide ((16:Int)<((Ns.length :Nat):Int))=decide (16<Ns.length):=decide_eq_decide.2 (by omega)
    rw[hd]
  · rw[hl,List.map_map];exact kU.of own
  · rw[←e];exact s.Ed
end
end Go.aL
namespace Go.Proofs.YtegkejcglfgpmaaGreatDoor
open Go Go.ai Go.aL
noncomputable def ef(kd n:Int)(s:ByteArray)(l:List UInt8)(A:List Md)(M:Md):List Md:=if (step M kd n s l).2.c =0 then g_ (g_ A M) (step M kd n s l).1 else g_ A M
noncomputable def eL(kd n:Int)(s:ByteArray)(l:List UInt8)(Ms:List Md):List Md:=Ms.foldl (ef kd n s l) []
theorem nW{kd n:Int}{s:ByteArray}{l:List UInt8}{Ms:List Md}{k:Nat}{M:Md}(h:Ms[k]? =some M):eL kd n s l (Ms.take (k+1))=ef kd n s l (eL kd n s l (Ms.take k)) M:=by
  unfold eL;rw[List.take_add_one,h,List.foldl_append];rfl
theorem x3{kd n:Int}{s:ByteArray}{l:List UInt8}{T:List Cn}{z:Cn}{c:Nat×Nat}(h:(step z.2 kd n s l).2.c =0):(cW (cW T z) (c,(step z.2 kd n s l).1)).map (fun z=>z.2)=ef kd n s l (T.map fun z=>z.2) z.2 :=by
  unfold ef;rw[if_pos h,sr,sr]
theorem Af{kd n:Int}{s:ByteArray}{l:List UInt8}{T:List Cn}{z:Cn}(h:(step z.2 kd n s l).2.c ≠0):(cW T z).map (fun z=>z.2)=ef kd n s l (T.map fun z=>z.2) z.2 :=by
  unfold ef;rw[if_neg h,sr]
theorem dE{kd n:Int}{s:ByteArray}{l:List UInt8}{M N:Md}(hc:(step M kd n s l).2.c =0)(hN:(step M kd n s l).1 =N)(hne:N.E.length ≠M.E.length):eL kd n s l [M]=[M,N]:=by
  have h0:g_ [] M=[M]:=by unfold g_ vD;rfl
  have h1:eK N M=false:=gq (xI hne)
  unfold eL;rw[List.foldl_cons,List.foldl_nil];unfold ef;rw[if_pos hc,h0,hN]
  unfold g_ vD;simp[h1]
theorem BP(h:Heap)(mb mp nb np:Nat)(M N:Md)(m:Mod h mb mp M)(n:Mod h nb np N)(hl:M.E.length ≤2199023255552):Sat Tryz.prog 25 #[.pointer (some ⟨mb,0,none⟩),.pointer (some ⟨nb,0,none⟩)] h fun v h'=>v= .bool (eK M N)∧Ext h h':=by
 obtain⟨L,ck,ea,ec,es,m⟩:=m
 obtain⟨L2,ck2,BN,Ac,es2,n⟩:=n
 exact xQ h mb mp M L ck ea ec es m nb np N L2 ck2 BN Ac es2 n hl
noncomputable def FP:Code:=Tryz.f138.body.getD .skip
theorem vE(h:Heap)(T:List Cn)(va:Option Addr)(vc:Nat)(hr:Row h (.slice va T.length vc) T.length 1 (T.map mz))(cs:∀z∈T,Mod h z.1.1 z.1.2 z.2)(mb mp:Nat)(M:Md)(m:Mod h mb mp M)(hn:T.length ≤1099511627)(hEl:M.E.length ≤2199023255552):Sat Tryz.prog 138 #[.slice va T.length vc,.func (.func 25) #[.pointer (some ⟨mb,0,none⟩)] #[]] h fun v h'=>∃i:Int,v= .int .i64 i∧decide ((0:Int)≤i)=jT M T∧Ext h h':=by
 have c:=Ext.refl h
 refine ag Tryz.func138 19 fun a b=>qP [] b fun a b=>cS<|qP [(7,nV T.length),(8,.int .i64 0)] b fun a b=>cB 0<|cL (fun m a h'=>∃k:Nat,m=T.length - k∧(Ext h h')∧(k≤T.length)∧(∀i z,i<k→T[i]? =some z→eK M z.2 =false)∧(Fr a 19 [(0,.slice va T.length vc),(1,.func (.func 25) #[.pointer (some ⟨mb,0,none⟩)] #[]),(7,.int .i64 ((T.length :Nat):Int)),(8,.int .i64 ((k:Nat):Int))])) (T.length - 0) ⟨0,rfl,c,(by omega),(fun _ _ h=>absurd h (Nat.not_lt_zero _)),b.to⟩ ?_
 clear b a
 clear c
 rintro m a t ⟨k,rfl,c,u,j,b⟩
 refine qP [(9,.bool (decide (((k:Nat):Int)<((T.length :Nat):Int))))] b fun a b=>cS<|cJ 9 b (fun q=> ?_) fun q=> ?_
 ·have r:k<T.length :=by omega
  obtain⟨z,o⟩:∃z,T[k]? =some z:=⟨_,List.getElem?_eq_getElem r⟩
  have l:=b
  obtain⟨s,rfl,n⟩:=hr.bf (by omega)
  have b:=l;clear l
  refine cN<|tK<|cS<|cB 1<|qP [(5,nV k)] b fun a b=>qS b<|tI 3 s T.length 1 k k ?_
  refine tC 4 (pV z.1.1) (Calm.load (T:=55) (p:=(Addr.add s k)) (by kernel_rfl) (Loads.one (k:=1) (by kernel_rfl) ((hr.ext c).cells k (mz z) (by rw[List.getElem?_map,o];rfl)))) ?_
  refine tF 5 (Does.call (f:=25) (args:= #[.pointer (some ⟨mb,0,none⟩),.pointer (some ⟨z.1.1,0,none⟩)]) (by kernel_rfl) (BP _ mb mp z.1.1 z.1.2 M z.2 (m.ext c) ((cs z (List.mem_of_getElem? o)).ext c) hEl)) ?_
  rintro _ w ⟨rfl,g⟩
  replace c:=c.ext g
  clear g
  refine sT [(16,.bool (eK M z.2))] fun a b=>cC 16 (eK M z.2) b (fun d=> ?_) (fun d=> ?_)
  ·have e:=d
   refine qP [(4,nV k)] b fun a b=>cR (yB (yT (yT (yB (yT ?_)))))
   exact rT 4 (nV k) b<|⟨_,rfl,by rw[Ae o e];exact decide_eq_true (by omega),c⟩
  ·have e:=d
   refine cN<|bK<|tK<|rS b<|tA 0 k 1<|sE [(8,nV (k+1))] fun a b=> ?_
   show ∃m',m'<_∧_
   refine⟨_,?_,(k+1),rfl,c,(by omega),(xZ j o e),b.to⟩
   omega
 ·refine cX 0 (xT (xT (xB ?_)))
  exact tK<|qP [(4,.int .i64 (-1))] b fun a b=>cR<|rT 4 (.int .i64 (-1)) b<|⟨_,rfl,by rw[xY j (by omega)];rfl,c⟩
noncomputable def FQ:Code:=Tryz.f120.body.getD .skip
theorem oV(h:Heap)(T:List Cn)(va:Option Addr)(vc:Nat)(hr:Row h (.slice va T.length vc) T.length 1 (T.map mz))(cs:∀z∈T,Mod h z.1.1 z.1.2 z.2)(mb mp:Nat)(M:Md)(m:Mod h mb mp M)(hn:T.length ≤1099511627)(hEl:M.E.length ≤2199023255552):Sat Tryz.prog 120 #[.slice va T.length vc,.func (.func 25) #[.pointer (some ⟨mb,0,none⟩)] #[]] h fun v h'=>v= .bool (jT M T)∧Ext h h':=by
 have b:=Ext.refl h
 refine ag Tryz.func120 9 fun a c=>qP [] c fun a c=>qS c<|tG 2 (vE _ T va vc (hr.ext b) (fun z e=>(cs z e).ext b) mb mp M (m.ext b) hn hEl) ?_
 rintro _ g ⟨i,rfl,d,f⟩
 refine sT [(4,.bool (decide ((0:Int)≤i)))] fun a c=>cR<|rT 4 (.bool (decide ((0:Int)≤i))) c ?_
 replace b:=b.ext f
 exact⟨congrArg Value.bool d,b⟩
noncomputable def b96:Code:=Tryz.f96.body.getD .skip
theorem add_sat(h:Heap)(T:List Cn)(va:Option Addr)(vc:Nat)(own:Own h (.slice va T.length vc) 55 T.length 1 (T.map mz))(cs:∀z∈T,Mod h z.1.1 z.1.2 z.2)(mb mp:Nat)(M:Md)(m:Mod h mb mp M)(hn:T.length ≤1099511627)(hEl:M.E.length ≤2199023255552):Sat Tryz.prog 96 #[.slice va T.length vc,.pointer (some ⟨mb,0,none⟩)] h fun v h'=>∃ad cap,v= .slice ad (cW T ((mb,mp),M)).length cap∧Own h' (.slice ad (cW T ((mb,mp),M)).length cap) 55 (cW T ((mb,mp),M)).length 1 ((cW T ((mb,mp),M)).map mz)∧Grew (va.map (fun(x:Addr)=>x.block)) h h'∧(ad.map (fun(x:Addr)=>x.block)=va.map (fun(x:Addr)=>x.block)∨∃k,ad.map (fun(x:Addr)=>x.block)=some k∧h.size ≤k):=by
 have b:=Ext.refl h
 refine ag Tryz.func96 14 fun a d=>qP [] d fun a d=>cS<|qS d<|tG 3 (oV _ T va vc (own.row.ext b) (fun z u=>(cs z u).ext b) mb mp M (m.ext b) hn hEl) ?_
 rintro _ r ⟨rfl,s⟩
 refine sT [(8,.bool (jT M T))] fun a d=>cC 8 (jT M T) d (fun i=> ?_) (fun i=> ?_)
 ·have f:=i
  refine qP [(4,.slice va T.length vc)] d fun a d=>cR (yT ?_)
  refine rT 4 (.slice va T.length vc) d ?_
  replace b:=b.ext s
  rw[uw f];exact⟨_,_,rfl,own.ext b,b.but _,.inl rfl⟩
 ·have f:=i
  refine cN<|tK<|qS d<|tN 2 (.slice (some ⟨r.size,0,none⟩) 1 1) #[pV mb] 55 fun C w y=> ?_
  replace b:=b.ext s
  replace b:=b.ext w
  refine tF 3 (Does.eX (t:=75) (E:=55) (sz:=1) (db:=8) (n:=T.length) (m:=1) (c:=vc) (N:=T.length +1) (a:=va) (x:= .slice (some ⟨r.size,0,none⟩) 1 1) (xs:=T.map mz) (ys:=[mz ((mb,mp),M)]) (Z:=(T++[((mb,mp),M)]).map mz) (by kernel_rfl) (by kernel_rfl) (own.ext b) (Row.blk (n:=1) (sz:=1) (l:=[mz ((mb,mp),M)]) y rfl) (List.all_eq_true.1 (by rfl)) (by unfold maxLen;omega) (by omega) rfl (by rw[List.map_append];rfl)) ?_
  rintro _ A ⟨j,g,rfl,o,B,p⟩
  have q:=b.size
  refine sT [(4,.slice j (T.length +1) g)] fun a d=>cR<|rT 4 (.slice j (T.length +1) g) d ?_
  rw[qw f,List.length_append];exact⟨_,_,rfl,o,(b.but _).trans B,p.imp id fun e=>⟨_,e,q⟩⟩
noncomputable def b58:Code:=Tryz.f58.body.getD .skip
set_option maxHeartbeats 1000000 in
theorem x4(h:Heap)(jb:Nat)(bs:List (Nat×Nat))(Ms:List Md)(o1 o2 o3 o4:Bool)(ca:Option Addr)(cc:Nat)(ja:JA h jb bs ⟨Ms,o1,o2,o3,o4⟩ ca cc)(kd n:Int)(s:ByteArray)(l:List UInt8)(oa:Option Addr)(oc:Nat)(ka:Option Addr)(kn kc:Nat)(hr:gB (JF jb bs) h (.slice oa l.length oc) l.length 1 (l.map bv))(hsz:s.size ≤9223372036854775807)(kt:bq h)(hE:∀M∈Ms,M.E.length ≤1099511627)(hn:bs.length ≤109951162):Sat Tryz.prog 58 #[.pointer (some ⟨jb,0,none⟩),.agg #[.int .i64 kd,.string s,.slice oa l.length oc,.int .i64 n,.slice ka kn kc]] h fun _ h'=>∃bs' ca cc,JA h' jb bs' ⟨eL kd n s l Ms,o1,o2,o3,decide (16<(eL kd n s l Ms).length)⟩ ca cc∧(∀z∈bs',z∈bs∨(h.size ≤z.1 ∧h.size ≤z.2))∧Gr (fun k=>k=jb) h h':=by
 obtain⟨hj,a4,a5⟩:=ja
 have hlm:bs.length =Ms.length :=a5.len
 have c0:=aj hj
 have j:=Ext.refl h
 have d:Sep h.size h.size []:=Sep.nil _ _
 refine ag Tryz.func58 41 fun a f=>qS f<|tN 0 (pV h.size) #[.int .i64 kd,.string s,.slice oa l.length oc,.int .i64 n,.slice ka kn kc] 35 fun h1 g2 t=> ?_
 replace d:=d.nw j.size t
 refine sT [(3,pV h.size)] fun a f=>qP [(4,.slice none 0 0)] f fun a f=>cS<|qS f ?_
 replace j:=j.ext g2
 refine tO 3 0 (j.blk hj)<|sT [(11,.slice ca bs.length cc),(12,nV bs.length),(13,.int .i64 0)] fun a f=>cB 0 ?_
 have b:Own h1 (.slice none 0 0) 55 0 1 (([]:List Cn).map mz):=Own.nil _ _ _
 have u:=j.size;replace d:=d.none u
 have o:CS h1 (([]++[]++(bs.zip Ms).drop 0:List Cn)):=by simpa using(CS.Ec a5).ext j
 refine cL (fun m a h'=>∃k:Nat,∃T:List Cn,∃U:List Cn,∃X:Option Addr,∃v:Nat,m=bs.length - k∧(Ext h h')∧(h'[h.size]? =some (.cells #[.int .i64 kd,.string s,.slice oa l.length oc,.int .i64 n,.slice ka kn kc] 35))∧(k≤bs.length)∧(CS h' (T++U++(bs.zip Ms).drop k))∧(T.map (fun z=>z.2)=eL kd n s l (Ms.take k))∧(∀z∈T,z.1 ∈bs∨(h.size ≤z.1.1 ∧h.size ≤z.1.2))∧(T.length ≤2*k)∧(Own h' (.slice X T.length v) 55 T.length 1 (T.map mz))∧(Sep h.size h'.size [X.map (·.block),some (h.size)])∧(Fr a 41 [(0,.pointer (some ⟨jb,0,none⟩)),(3,.pointer (some ⟨h.size,0,none⟩)),(4,.slice X T.length v),(11,.slice ca bs.length cc),(12,.int .i64 ((bs.length :Nat):Int)),(13,.int .i64 ((k:Nat):Int))])) (bs.length - 0) ⟨0,[],[],none,0,rfl,j,t,(Nat.zero_le _),o,rfl,(fun _ h=>by cases h),(Nat.le_refl _),b,d,f.to⟩ ?_
 clear f a
 clear j
 clear t
 clear o
 clear b
 clear d
 rintro m a h6 ⟨k,T,U,X,v,rfl,j,t,hk,o,hT,Ee,c1,b,d,f⟩
 refine qP [(14,.bool (decide (((k:Nat):Int)<((bs.length :Nat):Int))))] f fun a f=>cS<|cJ 14 f (fun b2=> ?_) fun b2=> ?_
 ·have hkn:k<bs.length :=by omega
  obtain⟨x,hx⟩:∃x,bs[k]? =some x:=⟨_,List.getElem?_eq_getElem hkn⟩
  obtain⟨M,hM⟩:∃M,Ms[k]? =some M:=⟨_,List.getElem?_eq_getElem (by rw[←hlm];exact hkn)⟩
  rw[x0 hx hM] at o
  have a1:=hE M (List.mem_of_getElem? hM)
  have mx:=o.at_ (x,M) (by simp)
  have a6:=f
  obtain⟨aa,rfl,a7⟩:=a4.1.bf (by omega)
  have f:=a6;clear a6
  refine cN<|tK<|cS<|cB 1<|qS f<|tI 0 aa bs.length 1 k k<|tC 1 (pV x.1) (Calm.load (T:=55) (p:=(Addr.add aa k)) (by kernel_rfl) (Loads.one (k:=1) (by kernel_rfl) ((a4.1.ext j).cells k (mh x) (by rw[List.getElem?_map,hx];rfl)))) ?_
  refine sT [(6,pV x.1)] fun a f=>qS f<|tG 2 (add_sat _ T X v b (fun z B=>o.at_ z (by simp[B])) x.1 x.2 M mx (by omega) (by omega)) ?_
  rintro _ c2 ⟨P,Y,rfl,r,D,Z⟩
  have u:=j.size
  replace o:=o.qg D b (ae ..) (by decide) (by decide)
  replace mx:=mx.eJ D b (ae ..) (by decide) (by decide)
  have a8:=d
  replace d:=d.set D.1 u 0 (y:=P.map (fun(x:Addr)=>x.block)) rfl (Z.imp id .inr) (fun k e=>r.lt (by rw[ae];exact e));clear Z u
  replace b:=r;clear r
  obtain⟨V1,F⟩:=o.take;replace o:=F;clear F
  have c3:=ux T (x,M)
  refine sT [(4,.slice P ((cW T (x,M)).length) Y)] fun a f=>qS f ?_
  replace t:=t.y D (a8.bp 1 0)
  have b7:=aj t
  have a9:=o.lt
  refine tG 1 (oU _ x.1 x.2 M mx a1) ?_
  rintro _ c4 ⟨c,q,rfl,O,Q,R,g⟩
  replace j:=j.grew D (a8.l 0)
  have b0:=j.size
  replace j:=j.ext g
  replace b:=b.ext g
  replace o:=o.ext g
  replace mx:=mx.ext g
  replace t:=t.x g
  replace d:=d.up g.size
  clear g
  replace o:=o.snoc O fun z B=>⟨Nat.lt_of_lt_of_le (a9 z B).1 Q,Nat.lt_of_lt_of_le (a9 z B).2 R⟩
  refine sT [(7,pV c)] fun a f=>cS ?_
  rcases Classical.em ((step M kd n s l).2.c =0) with G|G
  ·refine rS f<|tR 1 t ?_
   have ss:=O.zQ b (by decide)
   obtain⟨W,hW⟩:∃W,(step M kd n s l).2 =W:=⟨_,rfl⟩
   have b3:W.c =0:=hW▸G
   refine tG 2 (qv _ c q M O kd n s l oa oc ka kn kc (hr.1.ext j) hsz (kt.ext j) a1 W hW) ?_
   rintro _ b5 ⟨qa,qc,ia,ic,pa,pc,rfl,_,_,_,_,w,H⟩
   replace j:Ext h b5:=Gr.dD j H (by rintro k (e|e)<;>omega)
   replace o:=o.upd H w;clear mx O;have O:=w;clear w
   replace t:=H.blk t (by omega) (by omega)
   replace b:=Gr.own H b (by rw[ae];exact ss)
   replace d:=d.up H.1
   replace Q:=Nat.le_trans b0 Q;replace R:=Nat.le_trans b0 R
   refine eT 4 W.c 0<|sE [(26,.bool true)] fun a f=>tK<|cT 26 f<|rS f ?_
   have c5:=oP M kd n s l
   refine tG 2 (add_sat _ (cW T (x,M)) _ _ b (fun z B=>o.at_ z (by simp[B])) c q (step M kd n s l).1 O (by omega) (by omega)) ?_
   rintro _ c6 ⟨C,I,rfl,r,S,a0⟩
   have u:=j.size
   replace o:=o.qg S b (ae ..) (by decide) (by decide)
   have b1:=d
   replace d:=d.set S.1 u 0 (y:=C.map (fun(x:Addr)=>x.block)) rfl (a0.imp id .inr) (fun k e=>r.lt (by rw[ae];exact e));clear a0 u
   replace b:=r;clear r
   obtain⟨V2,F⟩:=o.takeN;replace o:=F;clear F
   have b8:=ux (cW T (x,M)) ((c,q),(step M kd n s l).1)
   have a2:(cW (cW T (x,M)) ((c,q),(step M kd n s l).1)).map (fun z=>z.2)=eL kd n s l (Ms.take (k+1)):=by rw[x3 (z:=(x,M)) G,hT,nW hM]
   have J:(cW (cW T (x,M)) ((c,q),(step M kd n s l).1)).length ≤2*(k+1):=by omega
   have K:∀z∈(cW T (x,M)),z.1 ∈bs∨(h.size ≤z.1.1 ∧h.size ≤z.1.2):=fun z B=>(mn B).elim (Ee z) fun e=> .inl (by rw[e];exact List.mem_of_getElem? hx)
   have L:∀z∈(cW (cW T (x,M)) ((c,q),(step M kd n s l).1)),z.1 ∈bs∨(h.size ≤z.1.1 ∧h.size ≤z.1.2):=fun z B=>(mn B).elim (K z) fun e=> .inr (by rw[e];exact⟨Q,R⟩)
   refine sE [(4,.slice C ((cW (cW T (x,M)) ((c,q),(step M kd n s l).1)).length) I)] fun a f=>bK<|tK<|rS f<|tA 0 k 1<|sE [(13,nV (k+1))] fun a f=> ?_
   replace j:=j.grew S (b1.l 0)
   replace t:=t.y S (b1.bp 1 0)
   replace d:=d.sub (l':=[C.map (·.block),some (h.size)]) (.cons_cons _ (.cons_cons _ (.slnil)))
   show ∃m',m'<_∧_
   refine⟨_,?_,(k+1),(cW (cW T (x,M)) ((c,q),(step M kd n s l).1)),V2,C,I,rfl,j,t,(by omega),o,a2,L,J,b,d,f.to⟩
   omega
  ·refine rS f<|tR 1 t ?_
   have ss:=O.zQ b (by decide)
   obtain⟨W,hW⟩:∃W,(step M kd n s l).2 =W:=⟨_,rfl⟩
   have b3:W.c ≠0:=hW▸G
   refine tG 2 (qv _ c q M O kd n s l oa oc ka kn kc (hr.1.ext j) hsz (kt.ext j) a1 W hW) ?_
   rintro _ b6 ⟨qa,qc,ia,ic,pa,pc,rfl,_,_,_,_,w,H⟩
   replace j:Ext h b6:=Gr.dD j H (by rintro k (e|e)<;>omega)
   replace o:=o.upd H w;clear mx O;have O:=w;clear w
   replace t:=H.blk t (by omega) (by omega)
   replace b:=Gr.own H b (by rw[ae];exact ss)
   replace d:=d.up H.1
   have a2:(cW T (x,M)).map (fun z=>z.2)=eL kd n s l (Ms.take (k+1)):=by rw[Af (z:=(x,M)) G,hT,nW hM]
   replace o:=o.sub (S':=(cW T (x,M))++V1++(bs.zip Ms).drop (k+1)) (List.sublist_append_left ..)
   have J:(cW T (x,M)).length ≤2*(k+1):=by omega
   have K:∀z∈(cW T (x,M)),z.1 ∈bs∨(h.size ≤z.1.1 ∧h.size ≤z.1.2):=fun z B=>(mn B).elim (Ee z) fun e=> .inl (by rw[e];exact List.mem_of_getElem? hx)
   have L:=K
   refine eF 4 W.c 0<|sE [(26,.bool false)] fun a f=>tK<|cF 26 f<|cN<|bK<|tK ?_
   refine rS f<|tA 0 k 1<|sE [(13,nV (k+1))] fun a f=> ?_
   replace d:=d.sub (l':=[P.map (·.block),some (h.size)]) (.cons_cons _ (.cons_cons _ (.slnil)))
   show ∃m',m'<_∧_
   refine⟨_,?_,(k+1),(cW T (x,M)),V1,P,Y,rfl,j,t,(by omega),o,a2,L,J,b,d,f.to⟩
   omega
 ·obtain rfl:k=bs.length :=by omega
  rw[hlm,List.take_length] at hT
  have N:CS h6 T:=o.first
  have gj:Gr (fun k=>k=jb) h h6:=Ext.gr j _
  have A:=j.blk hj
  refine cX 0 (xT (xT (xB ?_)))
  refine tK<|qS f<|tV 4 0 [.slice X T.length v] [.slice X T.length v,.bool o1,.bool o2,.bool o3,.bool o4] A fun c7 V zq=> ?_
  replace gj:=gj.bX V (fun i e=>by cases e;exact .inl rfl)
  replace N:=N.aM V A (by decide) (by decide)
  replace b:=b.kept V (by rw[ae];right;intro e;have:=(d.l 0) _ e;omega)
  replace d:=d.up V.size
  replace A:=zq
  refine sT [] fun a f=>rS f<|tV 6 4 [.bool (decide ((16:Int)<((T.length :Nat):Int)))] [.slice X T.length v,.bool o1,.bool o2,.bool o3,.bool (decide ((16:Int)<((T.length :Nat):Int)))] A fun c8 a3 zq=> ?_
  replace gj:=gj.bX a3 (fun i e=>by cases e;exact .inl rfl)
  replace N:=N.aM a3 A (by decide) (by decide)
  replace b:=b.kept a3 (by rw[ae];right;intro e;have:=(d.l 0) _ e;omega)
  replace A:=zq
  exact sE [] fun a f=>n0 f<|⟨_,_,_,JA.mkT A b N hT,fun y hy=>by obtain⟨z,B,rfl⟩:=List.mem_map.1 hy;exact Ee z B,gj⟩
noncomputable def b57:Code:=Tryz.f57.body.getD .skip
theorem su(h:Heap)(jb:Nat)(bs:List (Nat×Nat))(Ms:List Md)(ca:Option Addr)(cc:Nat)(o2:Bool)(o3:Bool)(o4:Bool)(ja:JA h jb bs ⟨Ms,false,o2,o3,o4⟩ ca cc)(kd n:Int)(s:ByteArray)(l:List UInt8)(oa:Option Addr)(oc:Nat)(ka:Option Addr)(kn kc:Nat)(X:An)(xb xi xp:Value)(hk:kd=12):Sat Tryz.prog 57 #[.pointer (some ⟨jb,0,none⟩),.agg #[.int .i64 kd,.string s,.slice oa l.length oc,.int .i64 n,.slice ka kn kc],.agg (bb X.c (xb) X.sx X.se X.sh X.sg (xi) X.n X.y X.k (xp)).toArray] h fun v h'=>v=pX dy (.slice none 0 0) (.slice none 0 0) (.slice none 0 0)∧JA h' jb bs ⟨Ms,false,decide (0≤n),o3,o4⟩ ca cc∧Gr (fun k=>k=jb) h h':=by
 have hj:=ja.hj
 have B:=aj hj
 have d:=Gr.start (fun k=>k=jb) h
 have o:=Ext.refl h
 have b:Sep h.size h.size []:=Sep.nil _ _
 refine ag Tryz.func57 79 fun a f=>qS f<|tN 0 (pV h.size) #[.int .i64 kd,.string s,.slice oa l.length oc,.int .i64 n,.slice ka kn kc] 35 fun w t p=> ?_
 replace b:=b.nw d.1 p
 refine tN 1 (pV w.size) ((bb X.c (xb) X.sx X.se X.sh X.sg (xi) X.n X.y X.k (xp)).toArray) 47 fun z r C=> ?_
 replace o:=o.ext t
 replace d:=d.ext t
 replace b:=b.nw d.1 C
 refine tN 2 (pV z.size) ((bY 0).toArray) 47 fun D j g=> ?_
 replace o:=o.ext r
 have A:=o.size
 replace d:=d.ext r
 replace b:=b.nw d.1 g
 refine sT [(4,pV h.size),(5,pV w.size),(6,pV z.size)] fun a f=>cS<|qS f ?_
 replace p:=(p.x r).x j
 refine tO 1 0 p<|sT [(10,.int .i64 kd)] fun a f=>cB 0<|qS f<|eT 0 kd 12<|sT [(12,.bool true)] fun a f=>cT 12 f ?_
 refine qS f ?_
 replace hj:=((hj.x t).x r).x j
 refine tO 3 1 hj<|sT [(18,.bool true)] fun a f=>cT 18 f<|rS f<|tO 2 3 p<|tV 6 2 [.bool (decide ((0:Int)≤n))] [.slice ca bs.length cc,.bool false,.bool (decide ((0:Int)≤n)),.bool o3,.bool o4] hj fun E m u=> ?_
 replace d:=d.ext j
 clear o
 replace d:=d.bX m (fun i e=>by cases e;exact .inl rfl)
 replace g:=g.y m
 replace b:=b.up m.size
 replace hj:=u
 refine sE [] fun a f=>bK<|tK<|qS f<|tR 0 g<|bt 1 (bY 0) g fun F q u=> ?_
 replace hj:=hj.y q
 replace g:=u
 refine sT [] fun a f=>cR<|rB g f ?_
 replace d:=d.bX q (fun i e=> .inr (b.low 0 rfl i e))
 exact⟨rfl,ja.turn d hj rfl,d⟩
theorem sw(h:Heap)(jb:Nat)(bs:List (Nat×Nat))(Ms:List Md)(ca:Option Addr)(cc:Nat)(o1:Bool)(o2:Bool)(o3:Bool)(o4:Bool)(ja:JA h jb bs ⟨Ms,o1,o2,o3,o4⟩ ca cc)(kd n:Int)(s:ByteArray)(l:List UInt8)(oa:Option Addr)(oc:Nat)(ka:Option Addr)(kn kc:Nat)(X:An)(xb xi xp:Value)(hk:kd=13):Sat Tryz.prog 57 #[.pointer (some ⟨jb,0,none⟩),.agg #[.int .i64 kd,.string s,.slice oa l.length oc,.int .i64 n,.slice ka kn kc],.agg (bb X.c (xb) X.sx X.se X.sh X.sg (xi) X.n X.y X.k (xp)).toArray] h fun v h'=>v=pX dy (.slice none 0 0) (.slice none 0 0) (.slice none 0 0)∧JA h' jb bs ⟨Ms,false,false,o3,o4⟩ ca cc∧Gr (fun k=>k=jb) h h':=by
 have hj:=ja.hj
 have C:=aj hj
 have g:=Gr.start (fun k=>k=jb) h
 have p:=Ext.refl h
 have b:Sep h.size h.size []:=Sep.nil _ _
 refine ag Tryz.func57 79 fun a d=>qS d<|tN 0 (pV h.size) #[.int .i64 kd,.string s,.slice oa l.length oc,.int .i64 n,.slice ka kn kc] 35 fun z w t=> ?_
 replace b:=b.nw g.1 t
 refine tN 1 (pV z.size) ((bb X.c (xb) X.sx X.se X.sh X.sg (xi) X.n X.y X.k (xp)).toArray) 47 fun A u D=> ?_
 replace p:=p.ext w
 replace g:=g.ext w
 replace b:=b.nw g.1 D
 refine tN 2 (pV A.size) ((bY 0).toArray) 47 fun E j f=> ?_
 replace p:=p.ext u
 have B:=p.size
 replace g:=g.ext u
 replace b:=b.nw g.1 f
 refine sT [(4,pV h.size),(5,pV z.size),(6,pV A.size)] fun a d=>cS<|qS d ?_
 replace t:=(t.x u).x j
 refine tO 1 0 t<|sT [(10,.int .i64 kd)] fun a d=>cB 0<|qS d<|eF 0 kd 12<|sT [(12,.bool false)] fun a d=>cF 12 d ?_
 refine qS d<|eF 0 kd 10<|sT [(25,.bool false)] fun a d=>cF 25 d<|qS d<|eF 0 kd 14<|sT [(40,.bool false)] fun a d=> ?_
 refine cF 40 d<|qS d<|eT 0 kd 13<|sT [(70,.bool true)] fun a d=>cT 70 d<|rS d ?_
 replace hj:=((hj.x w).x u).x j
 refine tV 4 1 [.bool false] [.slice ca bs.length cc,.bool false,.bool o2,.bool o3,.bool o4] hj fun F m q=> ?_
 replace g:=g.ext j
 clear p
 replace g:=g.bX m (fun i e=>by cases e;exact .inl rfl)
 replace f:=f.y m
 replace b:=b.up m.size
 replace hj:=q
 refine tV 7 2 [.bool false] [.slice ca bs.length cc,.bool false,.bool false,.bool o3,.bool o4] hj fun G o q=> ?_
 replace g:=g.bX o (fun i e=>by cases e;exact .inl rfl)
 replace f:=f.y o
 replace b:=b.up o.size
 replace hj:=q
 refine sE [] fun a d=>bK<|tK<|qS d<|tR 0 f<|bt 1 (bY 0) f fun H r q=> ?_
 replace hj:=hj.y r
 replace f:=q
 refine sT [] fun a d=>cR<|rB f d ?_
 replace g:=g.bX r (fun i e=> .inr (b.low 0 rfl i e))
 exact⟨rfl,ja.turn g hj rfl,g⟩
theorem qx(h:Heap)(jb:Nat)(bs:List (Nat×Nat))(Ms:List Md)(ca:Option Addr)(cc:Nat)(o2:Bool)(o3:Bool)(o4:Bool)(ja:JA h jb bs ⟨Ms,true,o2,o3,o4⟩ ca cc)(kd n:Int)(s:ByteArray)(l:List UInt8)(oa:Option Addr)(oc:Nat)(ka:Option Addr)(kn kc:Nat)(X:An)(xb xi xp:Value)(hk:kd=12):Sat Tryz.prog 57 #[.pointer (some ⟨jb,0,none⟩),.agg #[.int .i64 kd,.string s,.slice oa l.length oc,.int .i64 n,.slice ka kn kc],.agg (bb X.c (xb) X.sx X.se X.sh X.sg (xi) X.n X.y X.k (xp)).toArray] h fun v h'=>v=pX dy (.slice none 0 0) (.slice none 0 0) (.slice none 0 0)∧JA h' jb bs ⟨Ms,true,o2,o3,o4⟩ ca cc∧Gr (fun k=>k=jb) h h':=by
 have hj:=ja.hj
 have z:=aj hj
 have f:=Gr.start (fun k=>k=jb) h
 have m:=Ext.refl h
 have b:Sep h.size h.size []:=Sep.nil _ _
 refine ag Tryz.func57 79 fun a d=>qS d<|tN 0 (pV h.size) #[.int .i64 kd,.string s,.slice oa l.length oc,.int .i64 n,.slice ka kn kc] 35 fun t r p=> ?_
 replace b:=b.nw f.1 p
 refine tN 1 (pV t.size) ((bb X.c (xb) X.sx X.se X.sh X.sg (xi) X.n X.y X.k (xp)).toArray) 47 fun u q A=> ?_
 replace m:=m.ext r
 replace f:=f.ext r
 replace b:=b.nw f.1 A
 refine tN 2 (pV u.size) ((bY 0).toArray) 47 fun B j g=> ?_
 replace m:=m.ext q
 have w:=m.size
 replace f:=f.ext q
 replace b:=b.nw f.1 g
 refine sT [(4,pV h.size),(5,pV t.size),(6,pV u.size)] fun a d=>cS<|qS d ?_
 replace p:=(p.x q).x j
 refine tO 1 0 p<|sT [(10,.int .i64 kd)] fun a d=>cB 0<|qS d<|eT 0 kd 12<|sT [(12,.bool true)] fun a d=>cT 12 d ?_
 refine qS d ?_
 replace hj:=((hj.x r).x q).x j
 refine tO 3 1 hj<|sT [(18,.bool false)] fun a d=>cF 18 d<|cN<|bK<|tK<|qS d ?_
 refine tR 0 g<|bt 1 (bY 0) g fun C o D=> ?_
 replace hj:=hj.y o
 replace g:=D
 refine sT [] fun a d=>cR<|rB g d ?_
 replace f:=(f.ext j).bX o (fun i e=> .inr (b.low 0 rfl i e))
 exact⟨rfl,ja.turn f hj rfl,f⟩
set_option maxHeartbeats 1000000 in
theorem sy(h:Heap)(jb:Nat)(bs:List (Nat×Nat))(Ms:List Md)(ca:Option Addr)(cc:Nat)(o1 o2 o3 o4:Bool)(ja:JA h jb bs ⟨Ms,o1,o2,o3,o4⟩ ca cc)(kd n:Int)(s:ByteArray)(l:List UInt8)(oa:Option Addr)(oc:Nat)(ka:Option Addr)(kn kc:Nat)(hr:gB (JF jb bs) h (.slice oa l.length oc) l.length 1 (l.map bv))(hsz:s.size ≤9223372036854775807)(X:An)(xb xi xp:Value)(kt:bq h)(hE:∀M∈Ms,M.E.length ≤1099511627)(hn:bs.length ≤1099511627)(hk:kd=10):Sat Tryz.prog 57 #[.pointer (some ⟨jb,0,none⟩),.agg #[.int .i64 kd,.string s,.slice oa l.length oc,.int .i64 n,.slice ka kn kc],.agg (bb X.c (xb) X.sx X.se X.sh X.sg (xi) X.n X.y X.k (xp)).toArray] h fun v h'=>v=pX dy (.slice none 0 0) (.slice none 0 0) (.slice none 0 0)∧JA h' jb bs ⟨Ms.map (fun M=>(step M kd n s l).1),o1,o2,o3,o4⟩ ca cc∧Gr (JF jb bs) h h':=by
 obtain⟨g,A,t⟩:=ja
 have Q:=g
 have a0:=aj g
 have C:=t.oQ g (by decide) (by decide)
 have j:=Ext.refl h
 have d:Sep h.size h.size []:=Sep.nil _ _
 refine ag Tryz.func57 79 fun a b=>qS b<|tN 0 (pV h.size) #[.int .i64 kd,.string s,.slice oa l.length oc,.int .i64 n,.slice ka kn kc] 35 fun O R o=> ?_
 have a1:=aj o
 replace d:=d.nw j.size o
 refine tN 1 (pV O.size) ((bb X.c (xb) X.sx X.se X.sh X.sg (xi) X.n X.y X.k (xp)).toArray) 47 fun D P w=> ?_
 replace j:=j.ext R
 replace d:=d.nw j.size w
 refine tN 2 (pV D.size) ((bY 0).toArray) 47 fun F u f=> ?_
 replace j:=j.ext P
 have W:=j.size
 replace d:=d.nw j.size f
 refine sT [(4,pV h.size),(5,pV O.size),(6,pV D.size)] fun a b=>cS<|qS b ?_
 replace o:=(o.x P).x u
 refine tO 1 0 o<|sT [(10,.int .i64 kd)] fun a b=>cB 0<|qS b<|eF 0 kd 12<|sT [(12,.bool false)] fun a b=>cF 12 b ?_
 refine qS b<|eT 0 kd 10<|sT [(25,.bool true)] fun a b=>cT 25 b<|qS b ?_
 replace g:=((g.x R).x P).x u
 refine tO 3 0 g<|sT [(30,.slice ca bs.length cc),(31,nV bs.length),(32,.int .i64 0)] fun a b=>cB 1 ?_
 replace j:=j.ext u
 have q:Gr (JF jb bs) h F:=(Gr.start _ _).ext j
 have r:CA F bs Ms:=t.ext j
 replace kt:=((kt.ext R).ext P).ext u
 replace w:=w.x u
 refine cL (fun m a h'=>∃k:Nat,m=bs.length - k∧(bq h')∧(h'[jb]? =some (.cells #[.slice ca bs.length cc,.bool o1,.bool o2,.bool o3,.bool o4] 77))∧(h'[h.size]? =some (.cells #[.int .i64 kd,.string s,.slice oa l.length oc,.int .i64 n,.slice ka kn kc] 35))∧(h'[O.size]? =some (.cells (bb X.c (xb) X.sx X.se X.sh X.sg (xi) X.n X.y X.k (xp)).toArray 47))∧(h'[D.size]? =some (.cells (bY 0).toArray 47))∧(k≤bs.length)∧(Gr (JF jb bs) h h')∧(CA h' bs ((Ms.take k).map (fun M=>(step M kd n s l).1)++Ms.drop k))∧(Sep h.size h'.size [some (D.size),some (O.size),some (h.size)])∧(Fr a 79 [(4,.pointer (some ⟨h.size,0,none⟩)),(6,.pointer (some ⟨D.size,0,none⟩)),(30,.slice ca bs.length cc),(31,.int .i64 ((bs.length :Nat):Int)),(32,.int .i64 ((k:Nat):Int))])) (bs.length - 0) ⟨0,rfl,kt,g,o,w,f,(Nat.zero_le _),q,r,d,b.to⟩ ?_
 clear b a
 clear kt
 clear g
 clear o
 clear w
 clear f
 clear q
 clear r
 clear d
 rintro m a a2 ⟨k,rfl,kt,g,o,w,f,hk,q,r,d,b⟩
 refine qP [(33,.bool (decide (((k:Nat):Int)<((bs.length :Nat):Int))))] b fun a b=>cS<|cJ 33 b (fun G=> ?_) fun G=> ?_
 ·have hkn:k<bs.length :=by omega
  obtain⟨x,H⟩:∃x,bs[k]? =some x:=⟨_,List.getElem?_eq_getElem hkn⟩
  obtain⟨M,I⟩:∃M,Ms[k]? =some M:=⟨_,List.getElem?_eq_getElem (by rw[←t.len];exact hkn)⟩
  have J:=List.mem_of_getElem? H
  have S:=t.at_ k x M H I
  have mk:=r.at_ k x M H (kB (fun M=>(step M kd n s l).1) I)
  have a3:=S.kb;have Y:=S.k1
  obtain⟨a4,a5⟩:=S.zO Q (by decide)
  have U:=hE M (List.mem_of_getElem? I)
  have K:=b
  obtain⟨Z,rfl,L⟩:=A.1.bf (by omega)
  have b:=K;clear K
  refine cN<|tK<|cS<|cB 2<|qS b<|tI 0 Z bs.length 1 k k<|tC 1 (pV x.1) (Calm.load (T:=55) (p:=(Addr.add Z k)) (by kernel_rfl) (Loads.one (k:=1) (by kernel_rfl) ((A.fr q fun i e=>(C i e).2).1.cells k (mh x) (by rw[List.getElem?_map,H];rfl)))) ?_
  refine sT [(8,pV x.1)] fun a b=>rS b<|tR 1 o<|tG 2 (qv _ x.1 x.2 M mk kd n s l oa oc ka kn kc (hr.gr q) hsz kt U _ rfl) ?_
  rintro _ a6 ⟨_,_,_,_,_,_,rfl,_,_,_,_,N,z⟩
  replace r:=r.set H (kB (fun M=>(step M kd n s l).1) I) z N
  rw[oO (fun M=>(step M kd n s l).1) I] at r
  replace q:=q.xm z (by rintro i (e|e);exact .inl (.inr ⟨x,J,.inl e⟩);exact .inl (.inr ⟨x,J,.inr e⟩))
  replace kt:=kt.gr z (by rintro(e|e)<;>omega)
  replace g:=z.blk g (by omega) (by omega)
  replace o:=z.blk o (by omega) (by omega)
  replace w:=z.blk w (by omega) (by omega)
  replace f:=z.blk f (by omega) (by omega)
  replace d:=d.up z.1
  refine sE [] fun a b=>bK<|tK<|rS b<|tA 0 k 1<|sE [(32,nV (k+1))] fun a b=> ?_
  show ∃m',m'<_∧_
  refine⟨_,?_,(k+1),rfl,kt,g,o,w,f,(by omega),q,r,d,b.to⟩
  omega
 ·refine cX 1 (xT (xT (xB ?_)))
  refine bK<|tK<|qS b<|tR 0 f<|bt 1 (bY 0) f fun a7 B zq=> ?_
  replace r:=r.aM B f (by decide) (by decide)
  replace g:=g.y B
  replace f:=zq
  refine sT [] fun a b=>cR<|rB f b ?_
  have V:k=bs.length :=by omega
  rw[jI _ _ (V.trans t.len)] at r
  replace q:=q.bX B (fun i e=> .inr (by have:=d.low 0 rfl i e;omega))
  exact⟨rfl,⟨g,A.fr q fun i e=>(C i e).2,r⟩,q⟩
theorem vF(h:Heap)(jb:Nat)(bs:List (Nat×Nat))(Ms:List Md)(ca:Option Addr)(cc:Nat)(o1 o2 o3 o4:Bool)(ja:JA h jb bs ⟨Ms,o1,o2,o3,o4⟩ ca cc)(kd n:Int)(s:ByteArray)(l:List UInt8)(oa:Option Addr)(oc:Nat)(ka:Option Addr)(kn kc:Nat)(X:An)(xb xi xp:Value)(hk:kd=14)(hX:X.k ≠1):Sat Tryz.prog 57 #[.pointer (some ⟨jb,0,none⟩),.agg #[.int .i64 kd,.string s,.slice oa l.length oc,.int .i64 n,.slice ka kn kc],.agg (bb X.c (xb) X.sx X.se X.sh X.sg (xi) X.n X.y X.k (xp)).toArray] h fun v h'=>v=pX dy (.slice none 0 0) (.slice none 0 0) (.slice none 0 0)∧JA h' jb bs ⟨Ms,o1,o2,o3,o4⟩ ca cc∧Ext h h':=by
 have g:=Gr.start (fun k=>k=jb) h
 have f:=Ext.refl h
 have d:Sep h.size h.size []:=Sep.nil _ _
 refine ag Tryz.func57 79 fun a b=>qS b<|tN 0 (pV h.size) #[.int .i64 kd,.string s,.slice oa l.length oc,.int .i64 n,.slice ka kn kc] 35 fun q r j=> ?_
 replace d:=d.nw g.1 j
 refine tN 1 (pV q.size) ((bb X.c (xb) X.sx X.se X.sh X.sg (xi) X.n X.y X.k (xp)).toArray) 47 fun t o m=> ?_
 replace f:=f.ext r
 replace g:=g.ext r
 replace d:=d.nw g.1 m
 refine tN 2 (pV t.size) ((bY 0).toArray) 47 fun u i e=> ?_
 replace f:=f.ext o
 replace g:=g.ext o
 replace d:=d.nw g.1 e
 refine sT [(4,pV h.size),(5,pV q.size),(6,pV t.size)] fun a b=>cS<|qS b ?_
 replace j:=(j.x o).x i
 refine tO 1 0 j<|sT [(10,.int .i64 kd)] fun a b=>cB 0<|qS b<|eF 0 kd 12<|sT [(12,.bool false)] fun a b=>cF 12 b ?_
 refine qS b<|eF 0 kd 10<|sT [(25,.bool false)] fun a b=>cF 25 b<|qS b<|eT 0 kd 14<|sT [(40,.bool true)] fun a b=> ?_
 refine cT 40 b<|qS b ?_
 replace m:=m.x i
 refine tO 1 73 m<|eF 2 X.k 1<|sT [(44,.bool false)] fun a b=>cF 44 b<|cN<|bK<|tK ?_
 refine qS b<|tR 0 e<|bt 1 (bY 0) e fun w p z=> ?_
 replace e:=z
 refine sT [] fun a b=>cR<|rB e b ?_
 replace f:=(f.ext i).grew p (d.low 0 rfl)
 exact⟨rfl,ja.ext f,f⟩
theorem sD(h:Heap)(jb:Nat)(bs:List (Nat×Nat))(Ms:List Md)(ca:Option Addr)(cc:Nat)(o1 o2 o3 o4:Bool)(ja:JA h jb bs ⟨Ms,o1,o2,o3,o4⟩ ca cc)(kd n:Int)(s:ByteArray)(l:List UInt8)(oa:Option Addr)(oc:Nat)(ka:Option Addr)(kn kc:Nat)(X:An)(xb xi xp:Value)(hk:kd≠12∧kd≠10∧kd≠14∧kd≠13):Sat Tryz.prog 57 #[.pointer (some ⟨jb,0,none⟩),.agg #[.int .i64 kd,.string s,.slice oa l.length oc,.int .i64 n,.slice ka kn kc],.agg (bb X.c (xb) X.sx X.se X.sh X.sg (xi) X.n X.y X.k (xp)).toArray] h fun v h'=>v=pX (cm 1) (.slice none 0 0) (.slice none 0 0) (.slice none 0 0)∧JA h' jb bs ⟨Ms,o1,o2,o3,o4⟩ ca cc∧Ext h h':=by
 have g:=Gr.start (fun k=>k=jb) h
 have f:=Ext.refl h
 have d:Sep h.size h.size []:=Sep.nil _ _
 refine ag Tryz.func57 79 fun a b=>qS b<|tN 0 (pV h.size) #[.int .i64 kd,.string s,.slice oa l.length oc,.int .i64 n,.slice ka kn kc] 35 fun r t j=> ?_
 replace d:=d.nw g.1 j
 refine tN 1 (pV r.size) ((bb X.c (xb) X.sx X.se X.sh X.sg (xi) X.n X.y X.k (xp)).toArray) 47 fun u m w=> ?_
 replace f:=f.ext t
 replace g:=g.ext t
 replace d:=d.nw g.1 w
 refine tN 2 (pV u.size) ((bY 0).toArray) 47 fun z i e=> ?_
 replace f:=f.ext m
 replace g:=g.ext m
 replace d:=d.nw g.1 e
 refine sT [(4,pV h.size),(5,pV r.size),(6,pV u.size)] fun a b=>cS<|qS b ?_
 replace j:=(j.x m).x i
 refine tO 1 0 j<|sT [(10,.int .i64 kd)] fun a b=>cB 0<|qS b<|eF 0 kd 12<|sT [(12,.bool false)] fun a b=>cF 12 b ?_
 refine qS b<|eF 0 kd 10<|sT [(25,.bool false)] fun a b=>cF 25 b<|qS b<|eF 0 kd 14<|sT [(40,.bool false)] fun a b=> ?_
 refine cF 40 b<|qS b<|eF 0 kd 13<|sT [(70,.bool false)] fun a b=>cF 70 b<|rS b<|tV 1 0 [.int .i64 1] (bY 1) e fun A o p=> ?_
 replace e:=p
 refine sE [] fun a b=>bK<|tK<|qS b<|tR 0 e<|bt 1 (bY 1) e fun B q p=> ?_
 replace e:=p
 refine sT [] fun a b=>cR<|rB e b ?_
 replace f:=((f.ext i).grew o (d.low 0 rfl)).grew q (d.low 0 rfl)
 exact⟨rfl,ja.ext f,f⟩
noncomputable def b31:Code:=Tryz.f31.body.getD .skip
theorem dw(h:Heap)(kd n:Int)(s:ByteArray)(oa:Option Addr)(on oc:Nat)(ka:Option Addr)(kn kc:Nat)(a b:Bool)(hk:ak kd=(a,b)):Sat Tryz.prog 55 #[.agg #[.int .i64 kd,.string s,.slice oa on oc,.int .i64 n,.slice ka kn kc]] h fun v h'=>v= .tuple #[.bool a,.bool b]∧Ext h h':=by
 have:=xS h kd n s oa on oc ka kn kc
 rwa [hk] at this
set_option maxHeartbeats 1000000 in
theorem x5(h:Heap)(jb:Nat)(bs:List (Nat×Nat))(Ms:List Md)(ca:Option Addr)(cc:Nat)(o2:Bool)(o3:Bool)(ja:JA h jb bs ⟨Ms,false,o2,o3,false⟩ ca cc)(kd n:Int)(s:ByteArray)(l:List UInt8)(oa:Option Addr)(oc:Nat)(ka:Option Addr)(kn kc:Nat)(X:An)(cp:Option Addr)(cq:Nat)(cr:Option Addr)(ct:Nat)(cu:Option Addr)(cx:Nat)(xq:ay h (.slice cp X.b.length cq) X.b.length 1 (X.b.map bv))(xi:ay h (.slice cr X.i.length ct) X.i.length 1 (X.i.map Value.string))(xp:ay h (.slice cu X.p.length cx) X.p.length 32 (hcs X.p))(x32:aq X.p)(hkc:ak kd=(false,false))(hk:kd=12):Sat Tryz.prog 31 #[.pointer (some ⟨jb,0,none⟩),.agg #[.int .i64 kd,.string s,.slice oa l.length oc,.int .i64 n,.slice ka kn kc],.agg (bb X.c (.slice cp X.b.length cq) X.sx X.se X.sh X.sg (.slice cr X.i.length ct) X.n X.y X.k (.slice cu X.p.length cx)).toArray] h fun v h'=>v= .int .i64 (au dy X)∧∃bs' ca cc,JA h' jb bs' ⟨Ms,false,decide (0≤n),o3,false⟩ ca cc∧(∀z∈bs',z∈bs∨(h.size ≤z.1 ∧h.size ≤z.2))∧Gr (JF jb bs) h h':=by
 have hj:=ja.hj
 have A:=ja.hj
 have K:=aj hj
 have g:=Gr.start (fun k=>k=jb) h
 have t:=Ext.refl h
 have d:Sep h.size h.size []:=Sep.nil _ _
 refine ag Tryz.func31 77 fun a m=>qS m<|tN 0 (pV h.size) #[.int .i64 kd,.string s,.slice oa l.length oc,.int .i64 n,.slice ka kn kc] 35 fun G H u=> ?_
 have L:=aj u
 replace d:=d.nw g.1 u
 refine tN 1 (pV G.size) ((bb X.c (.slice cp X.b.length cq) X.sx X.se X.sh X.sg (.slice cr X.i.length ct) X.n X.y X.k (.slice cu X.p.length cx)).toArray) 47 fun R F w=> ?_
 replace t:=t.ext H
 replace g:=g.ext H
 replace d:=d.nw g.1 w
 refine sT [(4,pV h.size),(5,pV G.size)] fun a m=>qS m ?_
 replace u:=u.x F
 refine tR 0 u<|tG 1 (dw _ kd n s oa l.length oc ka kn kc false false hkc) ?_
 rintro _ C ⟨rfl,o⟩
 refine sT [(7,.bool false),(8,.bool false)] fun a m=>qS m<|tN 1 (pV C.size) ((bY 0).toArray) 47 fun M q D=> ?_
 replace t:=(t.ext F).ext o
 have I:=t.size
 replace g:=(g.ext F).ext o
 replace d:=(d.up o.size).nw g.1 D
 refine bt 2 (bY 2) D fun N r S=> ?_
 replace hj:=(((hj.x H).x F).x o).x q
 replace hj:=hj.y r
 refine sT [(9,pV C.size)] fun a m=>cS<|cB 0<|qS m<|tO 3 4 hj<|sT [(16,.bool false)] fun a m=>cF 16 m ?_
 refine qP [(21,.bool true)] m fun a m=>cT 21 m<|cS<|cD [0,0,0,7,0,31,63] 6 mixed m<|mP 1 [0] [pV jb] ?_
 replace u:=((u.x o).x q).y r (d.bp 2 0)
 refine mR 3 2 1 u ?_
 replace w:=((w.x o).x q).y r (d.bp 1 0)
 refine mR 7 6 2 w<|mR 23 22 4 w ?_
 replace t:=(t.ext q).grew r (d.low 0 rfl)
 refine gD 31 15 3 [4] (Does.call (f:=57) (args:= #[.pointer (some ⟨jb,0,none⟩),.agg #[.int .i64 kd,.string s,.slice oa l.length oc,.int .i64 n,.slice ka kn kc],.agg (bb X.c (.slice cp X.b.length cq) X.sx X.se X.sh X.sg (.slice cr X.i.length ct) X.n X.y X.k (.slice cu X.p.length cx)).toArray]) (by kernel_rfl) (su _ jb bs Ms ca cc o2 o3 false (ja.ext t) kd n s l oa oc ka kn kc X _ _ _ hk)) ?_
 rintro _ O ⟨rfl,B,J⟩
 clear hj
 replace g:=(g.ext q).bX r (fun i e=> .inr (d.low 0 rfl i e))
 replace g:=g.trans J
 replace w:=J.blk w (by omega)
 replace xq:=xq.jf g A (by decide)
 replace xi:=xi.jf g A (by decide)
 replace xp:=xp.jf g A (by decide)
 refine⟨?_,?_⟩
 ·intro j hj
  simp only[List.mem_cons,List.not_mem_nil,or_false] at hj
  subst hj
  exact aE (Calm.load (T:=47) (p:=⟨G.size,0,none⟩) (by kernel_rfl) (Loads.blk (vs:=bb X.c (.slice cp X.b.length cq) X.sx X.se X.sh X.sg (.slice cr X.i.length ct) X.n X.y X.k (.slice cu X.p.length cx)) (by kernel_rfl) w rfl))
 refine gC 63 63 5 (bQ _ dy X none 0 none 0 none 0 (ay.nil _ _) (ay.nil _ _) (ay.nil _ _) _ _ _ _ _ _ xq xi xp aq.nil x32 (by decide) (by decide)) ?_
 rintro _ P ⟨rfl,E⟩
 refine mP 127 [6] [.int .i64 (au dy X)]<|mE [(6,.int .i64 (au dy X))] fun a m=>tK<|cR (yB (yT ?_))
 refine rT 6 (.int .i64 (au dy X)) m ?_
 replace g:=g.ext E
 replace B:=B.ext E
 exact⟨rfl,bs,ca,cc,B,fun x Q=> .inl Q,g.vl bs⟩
set_option maxHeartbeats 1000000 in
theorem x6(h:Heap)(jb:Nat)(bs:List (Nat×Nat))(Ms:List Md)(ca:Option Addr)(cc:Nat)(o1:Bool)(o2:Bool)(o3:Bool)(ja:JA h jb bs ⟨Ms,o1,o2,o3,false⟩ ca cc)(kd n:Int)(s:ByteArray)(l:List UInt8)(oa:Option Addr)(oc:Nat)(ka:Option Addr)(kn kc:Nat)(X:An)(cp:Option Addr)(cq:Nat)(cr:Option Addr)(ct:Nat)(cu:Option Addr)(cx:Nat)(xq:ay h (.slice cp X.b.length cq) X.b.length 1 (X.b.map bv))(xi:ay h (.slice cr X.i.length ct) X.i.length 1 (X.i.map Value.string))(xp:ay h (.slice cu X.p.length cx) X.p.length 32 (hcs X.p))(x32:aq X.p)(hkc:ak kd=(false,false))(hk:kd=13):Sat Tryz.prog 31 #[.pointer (some ⟨jb,0,none⟩),.agg #[.int .i64 kd,.string s,.slice oa l.length oc,.int .i64 n,.slice ka kn kc],.agg (bb X.c (.slice cp X.b.length cq) X.sx X.se X.sh X.sg (.slice cr X.i.length ct) X.n X.y X.k (.slice cu X.p.length cx)).toArray] h fun v h'=>v= .int .i64 (au dy X)∧∃bs' ca cc,JA h' jb bs' ⟨Ms,false,false,o3,false⟩ ca cc∧(∀z∈bs',z∈bs∨(h.size ≤z.1 ∧h.size ≤z.2))∧Gr (JF jb bs) h h':=by
 have hj:=ja.hj
 have A:=ja.hj
 have K:=aj hj
 have g:=Gr.start (fun k=>k=jb) h
 have t:=Ext.refl h
 have d:Sep h.size h.size []:=Sep.nil _ _
 refine ag Tryz.func31 77 fun a m=>qS m<|tN 0 (pV h.size) #[.int .i64 kd,.string s,.slice oa l.length oc,.int .i64 n,.slice ka kn kc] 35 fun G H u=> ?_
 have L:=aj u
 replace d:=d.nw g.1 u
 refine tN 1 (pV G.size) ((bb X.c (.slice cp X.b.length cq) X.sx X.se X.sh X.sg (.slice cr X.i.length ct) X.n X.y X.k (.slice cu X.p.length cx)).toArray) 47 fun R F w=> ?_
 replace t:=t.ext H
 replace g:=g.ext H
 replace d:=d.nw g.1 w
 refine sT [(4,pV h.size),(5,pV G.size)] fun a m=>qS m ?_
 replace u:=u.x F
 refine tR 0 u<|tG 1 (dw _ kd n s oa l.length oc ka kn kc false false hkc) ?_
 rintro _ C ⟨rfl,o⟩
 refine sT [(7,.bool false),(8,.bool false)] fun a m=>qS m<|tN 1 (pV C.size) ((bY 0).toArray) 47 fun M q D=> ?_
 replace t:=(t.ext F).ext o
 have I:=t.size
 replace g:=(g.ext F).ext o
 replace d:=(d.up o.size).nw g.1 D
 refine bt 2 (bY 2) D fun N r S=> ?_
 replace hj:=(((hj.x H).x F).x o).x q
 replace hj:=hj.y r
 refine sT [(9,pV C.size)] fun a m=>cS<|cB 0<|qS m<|tO 3 4 hj<|sT [(16,.bool false)] fun a m=>cF 16 m ?_
 refine qP [(21,.bool true)] m fun a m=>cT 21 m<|cS<|cD [0,0,0,7,0,31,63] 6 mixed m<|mP 1 [0] [pV jb] ?_
 replace u:=((u.x o).x q).y r (d.bp 2 0)
 refine mR 3 2 1 u ?_
 replace w:=((w.x o).x q).y r (d.bp 1 0)
 refine mR 7 6 2 w<|mR 23 22 4 w ?_
 replace t:=(t.ext q).grew r (d.low 0 rfl)
 refine gD 31 15 3 [4] (Does.call (f:=57) (args:= #[.pointer (some ⟨jb,0,none⟩),.agg #[.int .i64 kd,.string s,.slice oa l.length oc,.int .i64 n,.slice ka kn kc],.agg (bb X.c (.slice cp X.b.length cq) X.sx X.se X.sh X.sg (.slice cr X.i.length ct) X.n X.y X.k (.slice cu X.p.length cx)).toArray]) (by kernel_rfl) (sw _ jb bs Ms ca cc o1 o2 o3 false (ja.ext t) kd n s l oa oc ka kn kc X _ _ _ hk)) ?_
 rintro _ O ⟨rfl,B,J⟩
 clear hj
 replace g:=(g.ext q).bX r (fun i e=> .inr (d.low 0 rfl i e))
 replace g:=g.trans J
 replace w:=J.blk w (by omega)
 replace xq:=xq.jf g A (by decide)
 replace xi:=xi.jf g A (by decide)
 replace xp:=xp.jf g A (by decide)
 refine⟨?_,?_⟩
 ·intro j hj
  simp only[List.mem_cons,List.not_mem_nil,or_false] at hj
  subst hj
  exact aE (Calm.load (T:=47) (p:=⟨G.size,0,none⟩) (by kernel_rfl) (Loads.blk (vs:=bb X.c (.slice cp X.b.length cq) X.sx X.se X.sh X.sg (.slice cr X.i.length ct) X.n X.y X.k (.slice cu X.p.length cx)) (by kernel_rfl) w rfl))
 refine gC 63 63 5 (bQ _ dy X none 0 none 0 none 0 (ay.nil _ _) (ay.nil _ _) (ay.nil _ _) _ _ _ _ _ _ xq xi xp aq.nil x32 (by decide) (by decide)) ?_
 rintro _ P ⟨rfl,E⟩
 refine mP 127 [6] [.int .i64 (au dy X)]<|mE [(6,.int .i64 (au dy X))] fun a m=>tK<|cR (yB (yT ?_))
 refine rT 6 (.int .i64 (au dy X)) m ?_
 replace g:=g.ext E
 replace B:=B.ext E
 exact⟨rfl,bs,ca,cc,B,fun x Q=> .inl Q,g.vl bs⟩
set_option maxHeartbeats 1000000 in
theorem vG(h:Heap)(jb:Nat)(bs:List (Nat×Nat))(Ms:List Md)(ca:Option Addr)(cc:Nat)(o2:Bool)(o3:Bool)(ja:JA h jb bs ⟨Ms,true,o2,o3,false⟩ ca cc)(kd n:Int)(s:ByteArray)(l:List UInt8)(oa:Option Addr)(oc:Nat)(ka:Option Addr)(kn kc:Nat)(X:An)(cp:Option Addr)(cq:Nat)(cr:Option Addr)(ct:Nat)(cu:Option Addr)(cx:Nat)(xq:ay h (.slice cp X.b.length cq) X.b.length 1 (X.b.map bv))(xi:ay h (.slice cr X.i.length ct) X.i.length 1 (X.i.map Value.string))(xp:ay h (.slice cu X.p.length cx) X.p.length 32 (hcs X.p))(x32:aq X.p)(hkc:ak kd=(false,false))(hk:kd=12):Sat Tryz.prog 31 #[.pointer (some ⟨jb,0,none⟩),.agg #[.int .i64 kd,.string s,.slice oa l.length oc,.int .i64 n,.slice ka kn kc],.agg (bb X.c (.slice cp X.b.length cq) X.sx X.se X.sh X.sg (.slice cr X.i.length ct) X.n X.y X.k (.slice cu X.p.length cx)).toArray] h fun v h'=>v= .int .i64 (au dy X)∧∃bs' ca cc,JA h' jb bs' ⟨Ms,true,o2,o3,false⟩ ca cc∧(∀z∈bs',z∈bs∨(h.size ≤z.1 ∧h.size ≤z.2))∧Gr (JF jb bs) h h':=by
 have hj:=ja.hj
 have A:=ja.hj
 have K:=aj hj
 have g:=Gr.start (fun k=>k=jb) h
 have t:=Ext.refl h
 have d:Sep h.size h.size []:=Sep.nil _ _
 refine ag Tryz.func31 77 fun a m=>qS m<|tN 0 (pV h.size) #[.int .i64 kd,.string s,.slice oa l.length oc,.int .i64 n,.slice ka kn kc] 35 fun G H u=> ?_
 have L:=aj u
 replace d:=d.nw g.1 u
 refine tN 1 (pV G.size) ((bb X.c (.slice cp X.b.length cq) X.sx X.se X.sh X.sg (.slice cr X.i.length ct) X.n X.y X.k (.slice cu X.p.length cx)).toArray) 47 fun R F w=> ?_
 replace t:=t.ext H
 replace g:=g.ext H
 replace d:=d.nw g.1 w
 refine sT [(4,pV h.size),(5,pV G.size)] fun a m=>qS m ?_
 replace u:=u.x F
 refine tR 0 u<|tG 1 (dw _ kd n s oa l.length oc ka kn kc false false hkc) ?_
 rintro _ C ⟨rfl,o⟩
 refine sT [(7,.bool false),(8,.bool false)] fun a m=>qS m<|tN 1 (pV C.size) ((bY 0).toArray) 47 fun M q D=> ?_
 replace t:=(t.ext F).ext o
 have I:=t.size
 replace g:=(g.ext F).ext o
 replace d:=(d.up o.size).nw g.1 D
 refine bt 2 (bY 2) D fun N r S=> ?_
 replace hj:=(((hj.x H).x F).x o).x q
 replace hj:=hj.y r
 refine sT [(9,pV C.size)] fun a m=>cS<|cB 0<|qS m<|tO 3 4 hj<|sT [(16,.bool false)] fun a m=>cF 16 m ?_
 refine qP [(21,.bool true)] m fun a m=>cT 21 m<|cS<|cD [0,0,0,7,0,31,63] 6 mixed m<|mP 1 [0] [pV jb] ?_
 replace u:=((u.x o).x q).y r (d.bp 2 0)
 refine mR 3 2 1 u ?_
 replace w:=((w.x o).x q).y r (d.bp 1 0)
 refine mR 7 6 2 w<|mR 23 22 4 w ?_
 replace t:=(t.ext q).grew r (d.low 0 rfl)
 refine gD 31 15 3 [4] (Does.call (f:=57) (args:= #[.pointer (some ⟨jb,0,none⟩),.agg #[.int .i64 kd,.string s,.slice oa l.length oc,.int .i64 n,.slice ka kn kc],.agg (bb X.c (.slice cp X.b.length cq) X.sx X.se X.sh X.sg (.slice cr X.i.length ct) X.n X.y X.k (.slice cu X.p.length cx)).toArray]) (by kernel_rfl) (qx _ jb bs Ms ca cc o2 o3 false (ja.ext t) kd n s l oa oc ka kn kc X _ _ _ hk)) ?_
 rintro _ O ⟨rfl,B,J⟩
 clear hj
 replace g:=(g.ext q).bX r (fun i e=> .inr (d.low 0 rfl i e))
 replace g:=g.trans J
 replace w:=J.blk w (by omega)
 replace xq:=xq.jf g A (by decide)
 replace xi:=xi.jf g A (by decide)
 replace xp:=xp.jf g A (by decide)
 refine⟨?_,?_⟩
 ·intro j hj
  simp only[List.mem_cons,List.not_mem_nil,or_false] at hj
  subst hj
  exact aE (Calm.load (T:=47) (p:=⟨G.size,0,none⟩) (by kernel_rfl) (Loads.blk (vs:=bb X.c (.slice cp X.b.length cq) X.sx X.se X.sh X.sg (.slice cr X.i.length ct) X.n X.y X.k (.slice cu X.p.length cx)) (by kernel_rfl) w rfl))
 refine gC 63 63 5 (bQ _ dy X none 0 none 0 none 0 (ay.nil _ _) (ay.nil _ _) (ay.nil _ _) _ _ _ _ _ _ xq xi xp aq.nil x32 (by decide) (by decide)) ?_
 rintro _ P ⟨rfl,E⟩
 refine mP 127 [6] [.int .i64 (au dy X)]<|mE [(6,.int .i64 (au dy X))] fun a m=>tK<|cR (yB (yT ?_))
 refine rT 6 (.int .i64 (au dy X)) m ?_
 replace g:=g.ext E
 replace B:=B.ext E
 exact⟨rfl,bs,ca,cc,B,fun x Q=> .inl Q,g.vl bs⟩
set_option maxHeartbeats 1000000 in
theorem Ag(h:Heap)(jb:Nat)(bs:List (Nat×Nat))(Ms:List Md)(ca:Option Addr)(cc:Nat)(o1:Bool)(o2:Bool)(o3:Bool)(ja:JA h jb bs ⟨Ms,o1,o2,o3,false⟩ ca cc)(kd n:Int)(s:ByteArray)(l:List UInt8)(oa:Option Addr)(oc:Nat)(ka:Option Addr)(kn kc:Nat)(X:An)(cp:Option Addr)(cq:Nat)(cr:Option Addr)(ct:Nat)(cu:Option Addr)(cx:Nat)(xq:ay h (.slice cp X.b.length cq) X.b.length 1 (X.b.map bv))(xi:ay h (.slice cr X.i.length ct) X.i.length 1 (X.i.map Value.string))(xp:ay h (.slice cu X.p.length cx) X.p.length 32 (hcs X.p))(x32:aq X.p)(hkc:ak kd=(false,false))(hk:kd=14)(hX:X.k ≠1):Sat Tryz.prog 31 #[.pointer (some ⟨jb,0,none⟩),.agg #[.int .i64 kd,.string s,.slice oa l.length oc,.int .i64 n,.slice ka kn kc],.agg (bb X.c (.slice cp X.b.length cq) X.sx X.se X.sh X.sg (.slice cr X.i.length ct) X.n X.y X.k (.slice cu X.p.length cx)).toArray] h fun v h'=>v= .int .i64 (au dy X)∧∃bs' ca cc,JA h' jb bs' ⟨Ms,o1,o2,o3,false⟩ ca cc∧(∀z∈bs',z∈bs∨(h.size ≤z.1 ∧h.size ≤z.2))∧Gr (JF jb bs) h h':=by
 have hj:=ja.hj
 have H:=aj hj
 have t:=Gr.start (fun k=>k=jb) h
 have e:=Ext.refl h
 have d:Sep h.size h.size []:=Sep.nil _ _
 refine ag Tryz.func31 77 fun a g=>qS g<|tN 0 (pV h.size) #[.int .i64 kd,.string s,.slice oa l.length oc,.int .i64 n,.slice ka kn kc] 35 fun D E u=> ?_
 replace d:=d.nw t.1 u
 refine tN 1 (pV D.size) ((bb X.c (.slice cp X.b.length cq) X.sx X.se X.sh X.sg (.slice cr X.i.length ct) X.n X.y X.k (.slice cu X.p.length cx)).toArray) 47 fun N C r=> ?_
 replace e:=e.ext E
 replace t:=t.ext E
 replace d:=d.nw t.1 r
 refine sT [(4,pV h.size),(5,pV D.size)] fun a g=>qS g ?_
 replace u:=u.x C
 refine tR 0 u<|tG 1 (dw _ kd n s oa l.length oc ka kn kc false false hkc) ?_
 rintro _ A ⟨rfl,m⟩
 refine sT [(7,.bool false),(8,.bool false)] fun a g=>qS g<|tN 1 (pV A.size) ((bY 0).toArray) 47 fun I o B=> ?_
 replace e:=(e.ext C).ext m
 have G:=e.size
 replace t:=(t.ext C).ext m
 replace d:=(d.up m.size).nw t.1 B
 refine bt 2 (bY 2) B fun J q O=> ?_
 replace hj:=(((hj.x E).x C).x m).x o
 replace hj:=hj.y q
 refine sT [(9,pV A.size)] fun a g=>cS<|cB 0<|qS g<|tO 3 4 hj<|sT [(16,.bool false)] fun a g=>cF 16 g ?_
 refine qP [(21,.bool true)] g fun a g=>cT 21 g<|cS<|cD [0,0,0,7,0,31,63] 6 mixed g<|mP 1 [0] [pV jb] ?_
 replace u:=((u.x m).x o).y q (d.bp 2 0)
 refine mR 3 2 1 u ?_
 replace r:=((r.x m).x o).y q (d.bp 1 0)
 refine mR 7 6 2 r<|mR 23 22 4 r ?_
 replace e:=(e.ext o).grew q (d.low 0 rfl)
 refine gD 31 15 3 [4] (Does.call (f:=57) (args:= #[.pointer (some ⟨jb,0,none⟩),.agg #[.int .i64 kd,.string s,.slice oa l.length oc,.int .i64 n,.slice ka kn kc],.agg (bb X.c (.slice cp X.b.length cq) X.sx X.se X.sh X.sg (.slice cr X.i.length ct) X.n X.y X.k (.slice cu X.p.length cx)).toArray]) (by kernel_rfl) (vF _ jb bs Ms ca cc o1 o2 o3 false (ja.ext e) kd n s l oa oc ka kn kc X _ _ _ hk hX)) ?_
 rintro _ K ⟨rfl,_,w⟩
 replace r:=r.x w
 refine⟨?_,?_⟩
 replace hj:=hj.x w
 ·intro j hj
  simp only[List.mem_cons,List.not_mem_nil,or_false] at hj
  subst hj
  exact aE (Calm.load (T:=47) (p:=⟨D.size,0,none⟩) (by kernel_rfl) (Loads.blk (vs:=bb X.c (.slice cp X.b.length cq) X.sx X.se X.sh X.sg (.slice cr X.i.length ct) X.n X.y X.k (.slice cu X.p.length cx)) (by kernel_rfl) r rfl))
 replace e:=e.ext w
 refine gC 63 63 5 (bQ _ dy X none 0 none 0 none 0 (ay.nil _ _) (ay.nil _ _) (ay.nil _ _) _ _ _ _ _ _ (xq.ext e) (xi.ext e) (xp.ext e) aq.nil x32 (by decide) (by decide)) ?_
 rintro _ L ⟨rfl,F⟩
 refine mP 127 [6] [.int .i64 (au dy X)]<|mE [(6,.int .i64 (au dy X))] fun a g=>tK<|cR (yB (yT ?_))
 refine rT 6 (.int .i64 (au dy X)) g ?_
 replace e:=e.ext F
 exact⟨rfl,bs,ca,cc,ja.ext e,fun x M=> .inl M,(Gr.start _ _).ext e⟩
set_option maxHeartbeats 1000000 in
theorem x8(h:Heap)(jb:Nat)(bs:List (Nat×Nat))(Ms:List Md)(ca:Option Addr)(cc:Nat)(o1:Bool)(o2:Bool)(o3:Bool)(ja:JA h jb bs ⟨Ms,o1,o2,o3,false⟩ ca cc)(kd n:Int)(s:ByteArray)(l:List UInt8)(oa:Option Addr)(oc:Nat)(ka:Option Addr)(kn kc:Nat)(X:An)(cp:Option Addr)(cq:Nat)(cr:Option Addr)(ct:Nat)(cu:Option Addr)(cx:Nat)(xq:ay h (.slice cp X.b.length cq) X.b.length 1 (X.b.map bv))(xi:ay h (.slice cr X.i.length ct) X.i.length 1 (X.i.map Value.string))(xp:ay h (.slice cu X.p.length cx) X.p.length 32 (hcs X.p))(x32:aq X.p)(hkc:ak kd=(false,false))(hk:kd≠12∧kd≠10∧kd≠14∧kd≠13):Sat Tryz.prog 31 #[.pointer (some ⟨jb,0,none⟩),.agg #[.int .i64 kd,.string s,.slice oa l.length oc,.int .i64 n,.slice ka kn kc],.agg (bb X.c (.slice cp X.b.length cq) X.sx X.se X.sh X.sg (.slice cr X.i.length ct) X.n X.y X.k (.slice cu X.p.length cx)).toArray] h fun v h'=>v= .int .i64 (au (cm 1) X)∧∃bs' ca cc,JA h' jb bs' ⟨Ms,o1,o2,o3,false⟩ ca cc∧(∀z∈bs',z∈bs∨(h.size ≤z.1 ∧h.size ≤z.2))∧Gr (JF jb bs) h h':=by
 have hj:=ja.hj
 have H:=aj hj
 have t:=Gr.start (fun k=>k=jb) h
 have e:=Ext.refl h
 have d:Sep h.size h.size []:=Sep.nil _ _
 refine ag Tryz.func31 77 fun a g=>qS g<|tN 0 (pV h.size) #[.int .i64 kd,.string s,.slice oa l.length oc,.int .i64 n,.slice ka kn kc] 35 fun D E u=> ?_
 replace d:=d.nw t.1 u
 refine tN 1 (pV D.size) ((bb X.c (.slice cp X.b.length cq) X.sx X.se X.sh X.sg (.slice cr X.i.length ct) X.n X.y X.k (.slice cu X.p.length cx)).toArray) 47 fun N C r=> ?_
 replace e:=e.ext E
 replace t:=t.ext E
 replace d:=d.nw t.1 r
 refine sT [(4,pV h.size),(5,pV D.size)] fun a g=>qS g ?_
 replace u:=u.x C
 refine tR 0 u<|tG 1 (dw _ kd n s oa l.length oc ka kn kc false false hkc) ?_
 rintro _ A ⟨rfl,m⟩
 refine sT [(7,.bool false),(8,.bool false)] fun a g=>qS g<|tN 1 (pV A.size) ((bY 0).toArray) 47 fun I o B=> ?_
 replace e:=(e.ext C).ext m
 have G:=e.size
 replace t:=(t.ext C).ext m
 replace d:=(d.up m.size).nw t.1 B
 refine bt 2 (bY 2) B fun J q O=> ?_
 replace hj:=(((hj.x E).x C).x m).x o
 replace hj:=hj.y q
 refine sT [(9,pV A.size)] fun a g=>cS<|cB 0<|qS g<|tO 3 4 hj<|sT [(16,.bool false)] fun a g=>cF 16 g ?_
 refine qP [(21,.bool true)] g fun a g=>cT 21 g<|cS<|cD [0,0,0,7,0,31,63] 6 mixed g<|mP 1 [0] [pV jb] ?_
 replace u:=((u.x m).x o).y q (d.bp 2 0)
 refine mR 3 2 1 u ?_
 replace r:=((r.x m).x o).y q (d.bp 1 0)
 refine mR 7 6 2 r<|mR 23 22 4 r ?_
 replace e:=(e.ext o).grew q (d.low 0 rfl)
 refine gD 31 15 3 [4] (Does.call (f:=57) (args:= #[.pointer (some ⟨jb,0,none⟩),.agg #[.int .i64 kd,.string s,.slice oa l.length oc,.int .i64 n,.slice ka kn kc],.agg (bb X.c (.slice cp X.b.length cq) X.sx X.se X.sh X.sg (.slice cr X.i.length ct) X.n X.y X.k (.slice cu X.p.length cx)).toArray]) (by kernel_rfl) (sD _ jb bs Ms ca cc o1 o2 o3 false (ja.ext e) kd n s l oa oc ka kn kc X _ _ _ hk)) ?_
 rintro _ K ⟨rfl,_,w⟩
 replace r:=r.x w
 refine⟨?_,?_⟩
 replace hj:=hj.x w
 ·intro j hj
  simp only[List.mem_cons,List.not_mem_nil,or_false] at hj
  subst hj
  exact aE (Calm.load (T:=47) (p:=⟨D.size,0,none⟩) (by kernel_rfl) (Loads.blk (vs:=bb X.c (.slice cp X.b.length cq) X.sx X.se X.sh X.sg (.slice cr X.i.length ct) X.n X.y X.k (.slice cu X.p.length cx)) (by kernel_rfl) r rfl))
 replace e:=e.ext w
 refine gC 63 63 5 (bQ _ (cm 1) X none 0 none 0 none 0 (ay.nil _ _) (ay.nil _ _) (ay.nil _ _) _ _ _ _ _ _ (xq.ext e) (xi.ext e) (xp.ext e) aq.nil x32 (by decide) (by decide)) ?_
 rintro _ L ⟨rfl,F⟩
 refine mP 127 [6] [.int .i64 (au (cm 1) X)]<|mE [(6,.int .i64 (au (cm 1) X))] fun a g=>tK<|cR (yB (yT ?_))
 refine rT 6 (.int .i64 (au (cm 1) X)) g ?_
 replace e:=e.ext F
 exact⟨rfl,bs,ca,cc,ja.ext e,fun x M=> .inl M,(Gr.start _ _).ext e⟩
set_option maxHeartbeats 1000000 in
theorem x9(h:Heap)(jb:Nat)(bs:List (Nat×Nat))(Ms:List Md)(ca:Option Addr)(cc:Nat)(o1:Bool)(o2:Bool)(o3:Bool)(ja:JA h jb bs ⟨Ms,o1,o2,o3,false⟩ ca cc)(kd n:Int)(s:ByteArray)(l:List UInt8)(oa:Option Addr)(oc:Nat)(ka:Option Addr)(kn kc:Nat)(hr:gB (JF jb bs) h (.slice oa l.length oc) l.length 1 (l.map bv))(hsz:s.size ≤9223372036854775807)(X:An)(cp:Option Addr)(cq:Nat)(cr:Option Addr)(ct:Nat)(cu:Option Addr)(cx:Nat)(xq:ay h (.slice cp X.b.length cq) X.b.length 1 (X.b.map bv))(xi:ay h (.slice cr X.i.length ct) X.i.length 1 (X.i.map Value.string))(xp:ay h (.slice cu X.p.length cx) X.p.length 32 (hcs X.p))(x32:aq X.p)(hkc:ak kd=(false,false))(kt:bq h)(hE:∀M∈Ms,M.E.length ≤1099511627)(hn:bs.length ≤1099511627)(hk:kd=10):Sat Tryz.prog 31 #[.pointer (some ⟨jb,0,none⟩),.agg #[.int .i64 kd,.string s,.slice oa l.length oc,.int .i64 n,.slice ka kn kc],.agg (bb X.c (.slice cp X.b.length cq) X.sx X.se X.sh X.sg (.slice cr X.i.length ct) X.n X.y X.k (.slice cu X.p.length cx)).toArray] h fun v h'=>v= .int .i64 (au dy X)∧∃bs' ca cc,JA h' jb bs' ⟨Ms.map (fun M=>(step M kd n s l).1),o1,o2,o3,false⟩ ca cc∧(∀z∈bs',z∈bs∨(h.size ≤z.1 ∧h.size ≤z.2))∧Gr (JF jb bs) h h':=by
 have hj:=ja.hj
 have O:=aj hj
 have A:=Gr.start (fun k=>k=jb) h
 have o:=Ext.refl h
 have d:Sep h.size h.size []:=Sep.nil _ _
 have B:=ja.cs.oQ hj (by decide) (by decide)
 refine ag Tryz.func31 77 fun a g=>qS g<|tN 0 (pV h.size) #[.int .i64 kd,.string s,.slice oa l.length oc,.int .i64 n,.slice ka kn kc] 35 fun K L r=> ?_
 have P:=aj r
 replace d:=d.nw A.1 r
 refine tN 1 (pV K.size) ((bb X.c (.slice cp X.b.length cq) X.sx X.se X.sh X.sg (.slice cr X.i.length ct) X.n X.y X.k (.slice cu X.p.length cx)).toArray) 47 fun W I w=> ?_
 replace o:=o.ext L
 replace A:=A.ext L
 replace d:=d.nw A.1 w
 refine sT [(4,pV h.size),(5,pV K.size)] fun a g=>qS g ?_
 replace r:=r.x I
 refine tR 0 r<|tG 1 (dw _ kd n s oa l.length oc ka kn kc false false hkc) ?_
 rintro _ G ⟨rfl,m⟩
 refine sT [(7,.bool false),(8,.bool false)] fun a g=>qS g<|tN 1 (pV G.size) ((bY 0).toArray) 47 fun Q t q=> ?_
 replace o:=(o.ext I).ext m
 have N:=o.size
 replace A:=(A.ext I).ext m
 replace d:=(d.up m.size).nw A.1 q
 refine bt 2 (bY 2) q fun R u S=> ?_
 replace hj:=(((hj.x L).x I).x m).x t
 replace hj:=hj.y u
 replace q:=S
 refine sT [(9,pV G.size)] fun a g=>cS<|cB 0<|qS g<|tO 3 4 hj<|sT [(16,.bool false)] fun a g=>cF 16 g ?_
 refine qP [(21,.bool true)] g fun a g=>cT 21 g<|cS<|cD [0,0,0,7,0,31,63] 6 mixed g<|mP 1 [0] [pV jb] ?_
 replace r:=((r.x m).x t).y u (d.bp 2 0)
 refine mR 3 2 1 r ?_
 replace w:=((w.x m).x t).y u (d.bp 1 0)
 refine mR 7 6 2 w<|mR 23 22 4 w ?_
 replace o:=(o.ext t).grew u (d.low 0 rfl)
 refine gD 31 15 3 [4] (Does.call (f:=57) (args:= #[.pointer (some ⟨jb,0,none⟩),.agg #[.int .i64 kd,.string s,.slice oa l.length oc,.int .i64 n,.slice ka kn kc],.agg (bb X.c (.slice cp X.b.length cq) X.sx X.se X.sh X.sg (.slice cr X.i.length ct) X.n X.y X.k (.slice cu X.p.length cx)).toArray]) (by kernel_rfl) (sy _ jb bs Ms ca cc o1 o2 o3 false (ja.ext o) kd n s l oa oc ka kn kc (hr.ext o) hsz X _ _ _ (kt.ext o) hE hn hk)) ?_
 rintro _ U ⟨rfl,C,J⟩
 have F:=(Gr.start (JF jb bs) h).ext o |>.trans J
 replace r:=J.blk r (by rintro(e|⟨x,D,e⟩);omega;have:=(ja.lt.2 x D);omega)
 replace w:=J.blk w (by rintro(e|⟨x,D,e⟩);omega;have:=(ja.lt.2 x D);omega)
 replace q:=J.blk q (by rintro(e|⟨x,D,e⟩);omega;have:=(ja.lt.2 x D);omega)
 replace xq:=xq.fr F fun i e=>(B i e).1
 replace xi:=xi.fr F fun i e=>(B i e).1
 replace xp:=xp.fr F fun i e=>(B i e).1
 refine⟨?_,?_⟩
 ·intro j hj
  simp only[List.mem_cons,List.not_mem_nil,or_false] at hj
  subst hj
  exact aE (Calm.load (T:=47) (p:=⟨K.size,0,none⟩) (by kernel_rfl) (Loads.blk (vs:=bb X.c (.slice cp X.b.length cq) X.sx X.se X.sh X.sg (.slice cr X.i.length ct) X.n X.y X.k (.slice cu X.p.length cx)) (by kernel_rfl) w rfl))
 refine gC 63 63 5 (bQ _ dy X none 0 none 0 none 0 (ay.nil _ _) (ay.nil _ _) (ay.nil _ _) _ _ _ _ _ _ xq xi xp aq.nil x32 (by decide) (by decide)) ?_
 rintro _ V ⟨rfl,H⟩
 refine mP 127 [6] [.int .i64 (au dy X)]<|mE [(6,.int .i64 (au dy X))] fun a g=>tK<|cR (yB (yT ?_))
 refine rT 6 (.int .i64 (au dy X)) g ?_
 replace C:=C.ext H
 replace F:=F.ext H
 exact⟨rfl,bs,ca,cc,C,fun x D=> .inl D,F⟩
theorem x_(h:Heap)(jb:Nat)(bs:List (Nat×Nat))(Ms:List Md)(ca:Option Addr)(cc:Nat)(o1:Bool)(o2:Bool)(o3:Bool)(ja:JA h jb bs ⟨Ms,o1,o2,o3,true⟩ ca cc)(kd n:Int)(s:ByteArray)(l:List UInt8)(oa:Option Addr)(oc:Nat)(ka:Option Addr)(kn kc:Nat)(X:An)(cp:Option Addr)(cq:Nat)(cr:Option Addr)(ct:Nat)(cu:Option Addr)(cx:Nat)(cl cg:Bool)(hkc:ak kd=(cl,cg)):Sat Tryz.prog 31 #[.pointer (some ⟨jb,0,none⟩),.agg #[.int .i64 kd,.string s,.slice oa l.length oc,.int .i64 n,.slice ka kn kc],.agg (bb X.c (.slice cp X.b.length cq) X.sx X.se X.sh X.sg (.slice cr X.i.length ct) X.n X.y X.k (.slice cu X.p.length cx)).toArray] h fun v h'=>v= .int .i64 0∧∃bs' ca cc,JA h' jb bs' ⟨Ms,o1,o2,o3,true⟩ ca cc∧(∀z∈bs',z∈bs∨(h.size ≤z.1 ∧h.size ≤z.2))∧Gr (JF jb bs) h h':=by
 have hj:=ja.hj
 have C:=aj hj
 have j:=Gr.start (fun k=>k=jb) h
 have f:=Ext.refl h
 have d:Sep h.size h.size []:=Sep.nil _ _
 refine ag Tryz.func31 77 fun a e=>qS e<|tN 0 (pV h.size) #[.int .i64 kd,.string s,.slice oa l.length oc,.int .i64 n,.slice ka kn kc] 35 fun A w t=> ?_
 replace d:=d.nw j.1 t
 refine tN 1 (pV A.size) ((bb X.c (.slice cp X.b.length cq) X.sx X.se X.sh X.sg (.slice cr X.i.length ct) X.n X.y X.k (.slice cu X.p.length cx)).toArray) 47 fun H u D=> ?_
 replace f:=f.ext w
 replace j:=j.ext w
 replace d:=d.nw j.1 D
 refine sT [(4,pV h.size),(5,pV A.size)] fun a e=>qS e ?_
 replace t:=t.x u
 refine tR 0 t<|tG 1 (dw _ kd n s oa l.length oc ka kn kc cl cg hkc) ?_
 rintro _ m ⟨rfl,g⟩
 refine sT [(7,.bool cl),(8,.bool cg)] fun a e=>qS e<|tN 1 (pV m.size) ((bY 0).toArray) 47 fun E o q=> ?_
 replace f:=(f.ext u).ext g
 have B:=f.size
 replace j:=(j.ext u).ext g
 replace d:=(d.up g.size).nw j.1 q
 refine bt 2 (bY 2) q fun F r I=> ?_
 replace hj:=(((hj.x w).x u).x g).x o
 replace hj:=hj.y r
 refine sT [(9,pV m.size)] fun a e=>cS<|cB 0<|qS e<|tO 3 4 hj<|sT [(16,.bool true)] fun a e=>cT 16 e ?_
 refine qP [(6,.int .i64 0)] e fun a e=>cR (yB (yT ?_))
 refine rT 6 (.int .i64 0) e ?_
 replace f:=(f.ext o).grew r (d.low 0 rfl)
 exact⟨rfl,bs,ca,cc,ja.ext f,fun x G=> .inl G,(Gr.start _ _).ext f⟩
set_option maxHeartbeats 1000000 in
theorem Ah(h:Heap)(jb:Nat)(bs:List (Nat×Nat))(Ms:List Md)(ca:Option Addr)(cc:Nat)(o2:Bool)(o3:Bool)(ja:JA h jb bs ⟨Ms,true,o2,o3,false⟩ ca cc)(kd n:Int)(s:ByteArray)(l:List UInt8)(oa:Option Addr)(oc:Nat)(ka:Option Addr)(kn kc:Nat)(X:An)(cp:Option Addr)(cq:Nat)(cr:Option Addr)(ct:Nat)(cu:Option Addr)(cx:Nat)(xq:ay h (.slice cp X.b.length cq) X.b.length 1 (X.b.map bv))(xi:ay h (.slice cr X.i.length ct) X.i.length 1 (X.i.map Value.string))(xp:ay h (.slice cu X.p.length cx) X.p.length 32 (hcs X.p))(x32:aq X.p)(cg:Bool)(hkc:ak kd=(true,cg)):Sat Tryz.prog 31 #[.pointer (some ⟨jb,0,none⟩),.agg #[.int .i64 kd,.string s,.slice oa l.length oc,.int .i64 n,.slice ka kn kc],.agg (bb X.c (.slice cp X.b.length cq) X.sx X.se X.sh X.sg (.slice cr X.i.length ct) X.n X.y X.k (.slice cu X.p.length cx)).toArray] h fun v h'=>v= .int .i64 (au (cm 2) X)∧∃bs' ca cc,JA h' jb bs' ⟨Ms,true,o2,o3,false⟩ ca cc∧(∀z∈bs',z∈bs∨(h.size ≤z.1 ∧h.size ≤z.2))∧Gr (JF jb bs) h h':=by
 have hj:=ja.hj
 have E:=aj hj
 have m:=Gr.start (fun k=>k=jb) h
 have f:=Ext.refl h
 have e:Sep h.size h.size []:=Sep.nil _ _
 refine ag Tryz.func31 77 fun a d=>qS d<|tN 0 (pV h.size) #[.int .i64 kd,.string s,.slice oa l.length oc,.int .i64 n,.slice ka kn kc] 35 fun C A t=> ?_
 replace e:=e.nw m.1 t
 refine tN 1 (pV C.size) ((bb X.c (.slice cp X.b.length cq) X.sx X.se X.sh X.sg (.slice cr X.i.length ct) X.n X.y X.k (.slice cu X.p.length cx)).toArray) 47 fun K u w=> ?_
 replace f:=f.ext A
 replace m:=m.ext A
 replace e:=e.nw m.1 w
 refine sT [(4,pV h.size),(5,pV C.size)] fun a d=>qS d ?_
 replace t:=t.x u
 refine tR 0 t<|tG 1 (dw _ kd n s oa l.length oc ka kn kc true cg hkc) ?_
 rintro _ r ⟨rfl,g⟩
 refine sT [(7,.bool true),(8,.bool cg)] fun a d=>qS d<|tN 1 (pV r.size) ((bY 0).toArray) 47 fun F o j=> ?_
 replace f:=(f.ext u).ext g
 have D:=f.size
 replace m:=(m.ext u).ext g
 replace e:=(e.up g.size).nw m.1 j
 refine bt 2 (bY 2) j fun G q H=> ?_
 replace hj:=(((hj.x A).x u).x g).x o
 replace hj:=hj.y q
 replace j:=H
 refine sT [(9,pV r.size)] fun a d=>cS<|cB 0<|qS d<|tO 3 4 hj<|sT [(16,.bool false)] fun a d=>cF 16 d ?_
 refine qP [(21,.bool false)] d fun a d=>cF 21 d<|qS d<|tO 3 1 hj<|sT [(30,.bool true)] fun a d=>cT 30 d<|qS d ?_
 refine tR 0 j ?_
 replace w:=((w.x g).x o).y q (e.bp 1 0)
 refine tR 1 w ?_
 replace f:=(f.ext o).grew q (e.low 0 rfl)
 refine tG 2 (bQ _ (cm 2) X none 0 none 0 none 0 (ay.nil _ _) (ay.nil _ _) (ay.nil _ _) _ _ _ _ _ _ (xq.ext f) (xi.ext f) (xp.ext f) aq.nil x32 (by decide) (by decide)) ?_
 rintro _ I ⟨rfl,B⟩
 refine sT [(6,.int .i64 (au (cm 2) X))] fun a d=>cR (yB (yT ?_))
 refine rT 6 (.int .i64 (au (cm 2) X)) d ?_
 replace f:=f.ext B
 exact⟨rfl,bs,ca,cc,ja.ext f,fun x J=> .inl J,(Gr.start _ _).ext f⟩
set_option maxHeartbeats 1000000 in
theorem yg(h:Heap)(jb:Nat)(bs:List (Nat×Nat))(Ms:List Md)(ca:Option Addr)(cc:Nat) (ja:JA h jb bs ⟨Ms,false,true,false,false⟩ ca cc)(kd n:Int)(s:ByteArray)(l:List UInt8)(oa:Option Addr)(oc:Nat)(ka:Option Addr)(kn kc:Nat)(X:An)(cp:Option Addr)(cq:Nat)(cr:Option Addr)(ct:Nat)(cu:Option Addr)(cx:Nat)(xq:ay h (.slice cp X.b.length cq) X.b.length 1 (X.b.map bv))(xi:ay h (.slice cr X.i.length ct) X.i.length 1 (X.i.map Value.string))(xp:ay h (.slice cu X.p.length cx) X.p.length 32 (hcs X.p))(x32:aq X.p)(hkc:ak kd=(true,false))(hX:X.c =2):Sat Tryz.prog 31 #[.pointer (some ⟨jb,0,none⟩),.agg #[.int .i64 kd,.string s,.slice oa l.length oc,.int .i64 n,.slice ka kn kc],.agg (bb X.c (.slice cp X.b.length cq) X.sx X.se X.sh X.sg (.slice cr X.i.length ct) X.n X.y X.k (.slice cu X.p.length cx)).toArray] h fun v h'=>v= .int .i64 (au (cm 2) X)∧∃bs' ca cc,JA h' jb bs' ⟨Ms,true,true,false,false⟩ ca cc∧(∀z∈bs',z∈bs∨(h.size ≤z.1 ∧h.size ≤z.2))∧Gr (JF jb bs) h h':=by
 have hj:=ja.hj
 have o:=ja.hj
 have I:=aj hj
 have f:=Gr.start (fun k=>k=jb) h
 have w:=Ext.refl h
 have g:Sep h.size h.size []:=Sep.nil _ _
 refine ag Tryz.func31 77 fun a d=>qS d<|tN 0 (pV h.size) #[.int .i64 kd,.string s,.slice oa l.length oc,.int .i64 n,.slice ka kn kc] 35 fun G E A=> ?_
 have J:=aj A
 replace g:=g.nw f.1 A
 refine tN 1 (pV G.size) ((bb X.c (.slice cp X.b.length cq) X.sx X.se X.sh X.sg (.slice cr X.i.length ct) X.n X.y X.k (.slice cu X.p.length cx)).toArray) 47 fun P D q=> ?_
 replace w:=w.ext E
 replace f:=f.ext E
 replace g:=g.nw f.1 q
 refine sT [(4,pV h.size),(5,pV G.size)] fun a d=>qS d ?_
 replace A:=A.x D
 refine tR 0 A<|tG 1 (dw _ kd n s oa l.length oc ka kn kc true false hkc) ?_
 rintro _ B ⟨rfl,m⟩
 refine sT [(7,.bool true),(8,.bool false)] fun a d=>qS d<|tN 1 (pV B.size) ((bY 0).toArray) 47 fun K r j=> ?_
 replace w:=(w.ext D).ext m
 have H:=w.size
 replace f:=(f.ext D).ext m
 replace g:=(g.up m.size).nw f.1 j
 refine bt 2 (bY 2) j fun L t F=> ?_
 replace hj:=(((hj.x E).x D).x m).x r
 replace hj:=hj.y t
 replace j:=F
 refine sT [(9,pV B.size)] fun a d=>cS<|cB 0<|qS d<|tO 3 4 hj<|sT [(16,.bool false)] fun a d=>cF 16 d ?_
 refine qP [(21,.bool false)] d fun a d=>cF 21 d<|qS d<|tO 3 1 hj<|sT [(30,.bool false)] fun a d=>cF 30 d<|qS d ?_
 replace q:=((q.x m).x r).y t (g.bp 1 0)
 refine tO 1 0 q<|eT 2 X.c 2<|tO 7 2 hj<|sT [(38,.bool true)] fun a d=>cT 38 d<|qS d<|tV 3 1 [.bool true] [.slice ca bs.length cc,.bool true,.bool true,.bool false,.bool false] hj fun M u F=> ?_
 replace f:=(f.ext r).bX t (fun i e=> .inr (g.low 0 rfl i e))
 clear w
 replace f:=f.bX u (fun i e=>by cases e;exact .inl rfl)
 replace q:=q.y u
 replace j:=j.y u
 replace hj:=F
 refine sT [] fun a d=>cS<|qP [(51,.bool false)] d fun a d=>cF 51 d<|cN<|tK<|qS d ?_
 refine tR 0 j<|tR 1 q<|tG 2 (bQ _ (cm 2) X none 0 none 0 none 0 (ay.nil _ _) (ay.nil _ _) (ay.nil _ _) _ _ _ _ _ _ (xq.jf f o (by decide)) (xi.jf f o (by decide)) (xp.jf f o (by decide)) aq.nil x32 (by decide) (by decide)) ?_
 rintro _ N ⟨rfl,C⟩
 refine sT [(6,.int .i64 (au (cm 2) X))] fun a d=>cR (yB (yT ?_))
 refine rT 6 (.int .i64 (au (cm 2) X)) d ?_
 replace f:=f.ext C
 replace hj:=hj.x C
 exact⟨rfl,bs,ca,cc,ja.turn f hj rfl,fun x O=> .inl O,f.vl bs⟩
set_option maxHeartbeats 1000000 in
theorem vH(h:Heap)(jb:Nat)(bs:List (Nat×Nat))(Ms:List Md)(ca:Option Addr)(cc:Nat) (ja:JA h jb bs ⟨Ms,false,true,false,false⟩ ca cc)(kd n:Int)(s:ByteArray)(l:List UInt8)(oa:Option Addr)(oc:Nat)(ka:Option Addr)(kn kc:Nat)(hr:gB (JF jb bs) h (.slice oa l.length oc) l.length 1 (l.map bv))(hsz:s.size ≤9223372036854775807)(X:An)(cp:Option Addr)(cq:Nat)(cr:Option Addr)(ct:Nat)(cu:Option Addr)(cx:Nat)(xq:ay h (.slice cp X.b.length cq) X.b.length 1 (X.b.map bv))(xi:ay h (.slice cr X.i.length ct) X.i.length 1 (X.i.map Value.string))(xp:ay h (.slice cu X.p.length cx) X.p.length 32 (hcs X.p))(x32:aq X.p)(hkc:ak kd=(true,true))(hX:X.c =2)(kt:bq h)(hk1:0<jb)(hE:∀M∈Ms,M.E.length ≤1099511627)(hn:bs.length ≤109951162):Sat Tryz.prog 31 #[.pointer (some ⟨jb,0,none⟩),.agg #[.int .i64 kd,.string s,.slice oa l.length oc,.int .i64 n,.slice ka kn kc],.agg (bb X.c (.slice cp X.b.length cq) X.sx X.se X.sh X.sg (.slice cr X.i.length ct) X.n X.y X.k (.slice cu X.p.length cx)).toArray] h fun v h'=>v= .int .i64 (au (cm 2) X)∧∃bs' ca cc,JA h' jb bs' ⟨eL kd n s l Ms,true,true,false,decide (16<(eL kd n s l Ms).length)⟩ ca cc∧(∀z∈bs',z∈bs∨(h.size ≤z.1 ∧h.size ≤z.2))∧Gr (JF jb bs) h h':=by
 have hj:=ja.hj
 have w:=ja.hj
 have U:=aj hj
 have f:=Gr.start (fun k=>k=jb) h
 have B:=Ext.refl h
 have g:Sep h.size h.size []:=Sep.nil _ _
 refine ag Tryz.func31 77 fun a d=>qS d<|tN 0 (pV h.size) #[.int .i64 kd,.string s,.slice oa l.length oc,.int .i64 n,.slice ka kn kc] 35 fun S I o=> ?_
 have V:=aj o
 replace g:=g.nw f.1 o
 refine tN 1 (pV S.size) ((bb X.c (.slice cp X.b.length cq) X.sx X.se X.sh X.sg (.slice cr X.i.length ct) X.n X.y X.k (.slice cu X.p.length cx)).toArray) 47 fun h7 H q=> ?_
 replace B:=B.ext I
 replace f:=f.ext I
 replace g:=g.nw f.1 q
 refine sT [(4,pV h.size),(5,pV S.size)] fun a d=>qS d ?_
 replace o:=o.x H
 refine tR 0 o<|tG 1 (dw _ kd n s oa l.length oc ka kn kc true true hkc) ?_
 rintro _ C ⟨rfl,m⟩
 refine sT [(7,.bool true),(8,.bool true)] fun a d=>qS d<|tN 1 (pV C.size) ((bY 0).toArray) 47 fun W r j=> ?_
 replace B:=(B.ext H).ext m
 have T:=B.size
 replace f:=(f.ext H).ext m
 replace g:=(g.up m.size).nw f.1 j
 refine bt 2 (bY 2) j fun Y t J=> ?_
 replace hj:=(((hj.x I).x H).x m).x r
 replace hj:=hj.y t
 replace j:=J
 refine sT [(9,pV C.size)] fun a d=>cS<|cB 0<|qS d<|tO 3 4 hj<|sT [(16,.bool false)] fun a d=>cF 16 d ?_
 refine qP [(21,.bool false)] d fun a d=>cF 21 d<|qS d<|tO 3 1 hj<|sT [(30,.bool false)] fun a d=>cF 30 d<|qS d ?_
 replace q:=((q.x m).x r).y t (g.bp 1 0)
 refine tO 1 0 q<|eT 2 X.c 2<|tO 7 2 hj<|sT [(38,.bool true)] fun a d=>cT 38 d<|qS d<|tV 3 1 [.bool true] [.slice ca bs.length cc,.bool true,.bool true,.bool false,.bool false] hj fun K u J=> ?_
 replace o:=((o.x m).x r).y t (g.bp 2 0)
 replace f:=(f.ext r).bX t (fun i e=> .inr (g.low 0 rfl i e))
 clear B
 replace f:=f.bX u (fun i e=>by cases e;exact .inl rfl)
 replace o:=o.y u
 replace q:=q.y u
 replace j:=j.y u
 replace hj:=J
 refine sT [] fun a d=>cS<|qP [(51,.bool true)] d fun a d=>cT 51 d<|rS d<|tR 1 o ?_
 have Z:JA K jb bs ⟨Ms,true,true,false,false⟩ ca cc:=ja.turn f hj rfl
 have L:=hr.jf f
 have N:=kt.gr f (by omega)
 refine tG 2 (x4 _ jb bs Ms true true false false ca cc Z kd n s l oa oc ka kn kc L hsz N hE hn) ?_
 rintro _ a0 ⟨O,P,Q,A,D,R⟩
 have F:=f.1
 clear hj
 replace f:=f.trans R
 replace q:=R.blk q (by omega)
 replace j:=R.blk j (by omega)
 replace xq:=xq.jf f w (by decide)
 replace xi:=xi.jf f w (by decide)
 replace xp:=xp.jf f w (by decide)
 refine sE [] fun a d=>tK<|qS d<|tR 0 j<|tR 1 q<|tG 2 (bQ _ (cm 2) X none 0 none 0 none 0 (ay.nil _ _) (ay.nil _ _) (ay.nil _ _) _ _ _ _ _ _ xq xi xp aq.nil x32 (by decide) (by decide)) ?_
 rintro _ a1 ⟨rfl,G⟩
 refine sT [(6,.int .i64 (au (cm 2) X))] fun a d=>cR (yB (yT ?_))
 refine rT 6 (.int .i64 (au (cm 2) X)) d ?_
 replace f:=f.ext G
 replace A:=A.ext G
 exact⟨rfl,O,P,Q,A,fun z hz=>(D z hz).imp id fun e=>⟨Nat.le_trans F e.1,Nat.le_trans F e.2⟩,f.vl bs⟩
set_option maxHeartbeats 1000000 in
theorem vI(h:Heap)(jb:Nat)(bs:List (Nat×Nat))(Ms:List Md)(ca:Option Addr)(cc:Nat)(o2:Bool)(ja:JA h jb bs ⟨Ms,false,o2,false,false⟩ ca cc)(kd n:Int)(s:ByteArray)(l:List UInt8)(oa:Option Addr)(oc:Nat)(ka:Option Addr)(kn kc:Nat)(hr:gB (JF jb bs) h (.slice oa l.length oc) l.length 1 (l.map bv))(hsz:s.size ≤9223372036854775807)(X:An)(cp:Option Addr)(cq:Nat)(cr:Option Addr)(ct:Nat)(cu:Option Addr)(cx:Nat)(xq:ay h (.slice cp X.b.length cq) X.b.length 1 (X.b.map bv))(xi:ay h (.slice cr X.i.length ct) X.i.length 1 (X.i.map Value.string))(xp:ay h (.slice cu X.p.length cx) X.p.length 32 (hcs X.p))(x32:aq X.p)(hkc:ak kd=(true,true))(hb:X.c =2→o2=false)(FR:X.c ≠3)(kt:bq h)(hE:∀M∈Ms,M.E.length ≤1099511627)(hn:bs.length ≤1099511627):Sat Tryz.prog 31 #[.pointer (some ⟨jb,0,none⟩),.agg #[.int .i64 kd,.string s,.slice oa l.length oc,.int .i64 n,.slice ka kn kc],.agg (bb X.c (.slice cp X.b.length cq) X.sx X.se X.sh X.sg (.slice cr X.i.length ct) X.n X.y X.k (.slice cu X.p.length cx)).toArray] h fun v h'=>v= .int .i64 (bz ⟨Ms,false,o2,false,false⟩ (bA kd n s l X)).2 ∧∃bs' ca cc,JA h' jb bs' (bz ⟨Ms,false,o2,false,false⟩ (bA kd n s l X)).1 ca cc∧(∀z∈bs',z∈bs∨(h.size ≤z.1 ∧h.size ≤z.2))∧Gr (JF jb bs) h h':=by
 have hj:=ja.hj
 have O:=ja.hj
 have P:=aj hj
 have t:=Gr.start (fun k=>k=jb) h
 have f:=Ext.refl h
 have e:Sep h.size h.size []:=Sep.nil _ _
 refine ag Tryz.func31 77 fun a d=>qS d<|tN 0 (pV h.size) #[.int .i64 kd,.string s,.slice oa l.length oc,.int .i64 n,.slice ka kn kc] 35 fun L H r=> ?_
 replace e:=e.nw t.1 r
 refine tN 1 (pV L.size) ((bb X.c (.slice cp X.b.length cq) X.sx X.se X.sh X.sg (.slice cr X.i.length ct) X.n X.y X.k (.slice cu X.p.length cx)).toArray) 47 fun U G o=> ?_
 replace f:=f.ext H
 replace t:=t.ext H
 replace e:=e.nw t.1 o
 refine sT [(4,pV h.size),(5,pV L.size)] fun a d=>qS d ?_
 replace r:=r.x G
 refine tR 0 r<|tG 1 (dw _ kd n s oa l.length oc ka kn kc true true hkc) ?_
 rintro _ C ⟨rfl,g⟩
 refine sT [(7,.bool true),(8,.bool true)] fun a d=>qS d<|tN 1 (pV C.size) ((bY 0).toArray) 47 fun Q j D=> ?_
 replace f:=(f.ext G).ext g
 have N:=f.size
 replace t:=(t.ext G).ext g
 replace e:=(e.up g.size).nw t.1 D
 refine bt 2 (bY 2) D fun R m V=> ?_
 replace hj:=(((hj.x H).x G).x g).x j
 replace hj:=hj.y m
 refine sT [(9,pV C.size)] fun a d=>cS<|cB 0<|qS d<|tO 3 4 hj<|sT [(16,.bool false)] fun a d=>cF 16 d ?_
 refine qP [(21,.bool false)] d fun a d=>cF 21 d<|qS d<|tO 3 1 hj<|sT [(30,.bool false)] fun a d=>cF 30 d<|cS ?_
 rcases Int.decEq X.c 2 with F|F
 ·refine rS d ?_
  replace o:=((o.x g).x j).y m (e.bp 1 0)
  refine tO 1 0 o<|eF 2 X.c 2<|sE [(38,.bool false)] fun a d=>tK<|cF 38 d<|qS d<|tO 3 0 o ?_
  refine eF 4 X.c 3<|sT [(58,.bool false)] fun a d=>cF 58 d<|cN<|bK<|tK<|qS d ?_
  replace r:=((r.x g).x j).y m (e.bp 2 0)
  refine tR 1 r<|tR 2 o ?_
  replace f:=(f.ext j).grew m (e.low 0 rfl)
  refine tG 5 (jR _ jb bs Ms false o2 false ca cc (ja.ext f) kd n s l oa oc ka kn kc (hr.ext f) hsz X cp cq cr ct cu cx (xq.ext f) (xi.ext f) (xp.ext f) x32 (kt.ext f) hE hn) ?_
  rintro _ S ⟨rfl,u,w,A,B,q,I⟩
  have J:=(Gr.start (JF jb bs) h).ext f |>.trans I
  exact sT [(6,.int .i64 ((bz ⟨Ms,false,o2,false,false⟩ (bA kd n s l X)).2))] fun a d=>cR<|rT 6 (.int .i64 ((bz ⟨Ms,false,o2,false,false⟩ (bA kd n s l X)).2)) d<|⟨rfl,u,w,A,B,fun x K=> .inl (q x K),J⟩
 ·obtain rfl:o2=false:=hb F
  refine rS d ?_
  replace o:=((o.x g).x j).y m (e.bp 1 0)
  refine tO 1 0 o<|eT 2 X.c 2<|tO 7 2 hj<|sE [(38,.bool false)] fun a d=>tK<|cF 38 d<|qS d ?_
  refine tO 3 0 o<|eF 4 X.c 3<|sT [(58,.bool false)] fun a d=>cF 58 d<|cN<|bK<|tK ?_
  refine qS d ?_
  replace r:=((r.x g).x j).y m (e.bp 2 0)
  refine tR 1 r<|tR 2 o ?_
  replace f:=(f.ext j).grew m (e.low 0 rfl)
  refine tG 5 (jR _ jb bs Ms false false false ca cc (ja.ext f) kd n s l oa oc ka kn kc (hr.ext f) hsz X cp cq cr ct cu cx (xq.ext f) (xi.ext f) (xp.ext f) x32 (kt.ext f) hE hn) ?_
  rintro _ T ⟨rfl,u,w,A,B,q,I⟩
  have J:=(Gr.start (JF jb bs) h).ext f |>.trans I
  exact sT [(6,.int .i64 ((bz ⟨Ms,false,false,false,false⟩ (bA kd n s l X)).2))] fun a d=>cR<|rT 6 (.int .i64 ((bz ⟨Ms,false,false,false,false⟩ (bA kd n s l X)).2)) d<|⟨rfl,u,w,A,B,fun x K=> .inl (q x K),J⟩
set_option maxHeartbeats 1000000 in
theorem vJ(h:Heap)(jb:Nat)(bs:List (Nat×Nat))(Ms:List Md)(ca:Option Addr)(cc:Nat)(o2:Bool)(ja:JA h jb bs ⟨Ms,false,o2,false,false⟩ ca cc)(kd n:Int)(s:ByteArray)(l:List UInt8)(oa:Option Addr)(oc:Nat)(ka:Option Addr)(kn kc:Nat)(hr:gB (JF jb bs) h (.slice oa l.length oc) l.length 1 (l.map bv))(hsz:s.size ≤9223372036854775807)(X:An)(cp:Option Addr)(cq:Nat)(cr:Option Addr)(ct:Nat)(cu:Option Addr)(cx:Nat)(xq:ay h (.slice cp X.b.length cq) X.b.length 1 (X.b.map bv))(xi:ay h (.slice cr X.i.length ct) X.i.length 1 (X.i.map Value.string))(xp:ay h (.slice cu X.p.length cx) X.p.length 32 (hcs X.p))(x32:aq X.p)(hkc:ak kd=(true,false))(hb:X.c =2→o2=false)(kt:bq h)(hE:∀M∈Ms,M.E.length ≤1099511627)(hn:bs.length ≤1099511627):Sat Tryz.prog 31 #[.pointer (some ⟨jb,0,none⟩),.agg #[.int .i64 kd,.string s,.slice oa l.length oc,.int .i64 n,.slice ka kn kc],.agg (bb X.c (.slice cp X.b.length cq) X.sx X.se X.sh X.sg (.slice cr X.i.length ct) X.n X.y X.k (.slice cu X.p.length cx)).toArray] h fun v h'=>v= .int .i64 (bz ⟨Ms,false,o2,false,false⟩ (bA kd n s l X)).2 ∧∃bs' ca cc,JA h' jb bs' (bz ⟨Ms,false,o2,false,false⟩ (bA kd n s l X)).1 ca cc∧(∀z∈bs',z∈bs∨(h.size ≤z.1 ∧h.size ≤z.2))∧Gr (JF jb bs) h h':=by
 have hj:=ja.hj
 have O:=ja.hj
 have P:=aj hj
 have t:=Gr.start (fun k=>k=jb) h
 have f:=Ext.refl h
 have e:Sep h.size h.size []:=Sep.nil _ _
 refine ag Tryz.func31 77 fun a d=>qS d<|tN 0 (pV h.size) #[.int .i64 kd,.string s,.slice oa l.length oc,.int .i64 n,.slice ka kn kc] 35 fun L H q=> ?_
 replace e:=e.nw t.1 q
 refine tN 1 (pV L.size) ((bb X.c (.slice cp X.b.length cq) X.sx X.se X.sh X.sg (.slice cr X.i.length ct) X.n X.y X.k (.slice cu X.p.length cx)).toArray) 47 fun U G r=> ?_
 replace f:=f.ext H
 replace t:=t.ext H
 replace e:=e.nw t.1 r
 refine sT [(4,pV h.size),(5,pV L.size)] fun a d=>qS d ?_
 replace q:=q.x G
 refine tR 0 q<|tG 1 (dw _ kd n s oa l.length oc ka kn kc true false hkc) ?_
 rintro _ C ⟨rfl,g⟩
 refine sT [(7,.bool true),(8,.bool false)] fun a d=>qS d<|tN 1 (pV C.size) ((bY 0).toArray) 47 fun Q j D=> ?_
 replace f:=(f.ext G).ext g
 have N:=f.size
 replace t:=(t.ext G).ext g
 replace e:=(e.up g.size).nw t.1 D
 refine bt 2 (bY 2) D fun R m V=> ?_
 replace hj:=(((hj.x H).x G).x g).x j
 replace hj:=hj.y m
 refine sT [(9,pV C.size)] fun a d=>cS<|cB 0<|qS d<|tO 3 4 hj<|sT [(16,.bool false)] fun a d=>cF 16 d ?_
 refine qP [(21,.bool false)] d fun a d=>cF 21 d<|qS d<|tO 3 1 hj<|sT [(30,.bool false)] fun a d=>cF 30 d<|cS ?_
 rcases Int.decEq X.c 2 with F|F
 ·refine rS d ?_
  replace r:=((r.x g).x j).y m (e.bp 1 0)
  refine tO 1 0 r<|eF 2 X.c 2<|sE [(38,.bool false)] fun a d=>tK<|cF 38 d<|qP [(58,.bool false)] d fun a d=>cF 58 d ?_
  refine cN<|bK<|tK<|qS d ?_
  replace q:=((q.x g).x j).y m (e.bp 2 0)
  refine tR 1 q<|tR 2 r ?_
  replace f:=(f.ext j).grew m (e.low 0 rfl)
  refine tG 5 (jR _ jb bs Ms false o2 false ca cc (ja.ext f) kd n s l oa oc ka kn kc (hr.ext f) hsz X cp cq cr ct cu cx (xq.ext f) (xi.ext f) (xp.ext f) x32 (kt.ext f) hE hn) ?_
  rintro _ S ⟨rfl,u,w,A,B,o,I⟩
  have J:=(Gr.start (JF jb bs) h).ext f |>.trans I
  exact sT [(6,.int .i64 ((bz ⟨Ms,false,o2,false,false⟩ (bA kd n s l X)).2))] fun a d=>cR<|rT 6 (.int .i64 ((bz ⟨Ms,false,o2,false,false⟩ (bA kd n s l X)).2)) d<|⟨rfl,u,w,A,B,fun x K=> .inl (o x K),J⟩
 ·obtain rfl:o2=false:=hb F
  refine rS d ?_
  replace r:=((r.x g).x j).y m (e.bp 1 0)
  refine tO 1 0 r<|eT 2 X.c 2<|tO 7 2 hj<|sE [(38,.bool false)] fun a d=>tK<|cF 38 d<|qP [(58,.bool false)] d fun a d=> ?_
  refine cF 58 d<|cN<|bK<|tK<|qS d ?_
  replace q:=((q.x g).x j).y m (e.bp 2 0)
  refine tR 1 q<|tR 2 r ?_
  replace f:=(f.ext j).grew m (e.low 0 rfl)
  refine tG 5 (jR _ jb bs Ms false false false ca cc (ja.ext f) kd n s l oa oc ka kn kc (hr.ext f) hsz X cp cq cr ct cu cx (xq.ext f) (xi.ext f) (xp.ext f) x32 (kt.ext f) hE hn) ?_
  rintro _ T ⟨rfl,u,w,A,B,o,I⟩
  have J:=(Gr.start (JF jb bs) h).ext f |>.trans I
  exact sT [(6,.int .i64 ((bz ⟨Ms,false,false,false,false⟩ (bA kd n s l X)).2))] fun a d=>cR<|rT 6 (.int .i64 ((bz ⟨Ms,false,false,false,false⟩ (bA kd n s l X)).2)) d<|⟨rfl,u,w,A,B,fun x K=> .inl (o x K),J⟩
set_option maxHeartbeats 1000000 in
theorem vK(h:Heap)(jb:Nat)(bs:List (Nat×Nat))(Ms:List Md)(ca:Option Addr)(cc:Nat)(o2:Bool)(ja:JA h jb bs ⟨Ms,false,o2,false,false⟩ ca cc)(kd n:Int)(s:ByteArray)(l:List UInt8)(oa:Option Addr)(oc:Nat)(ka:Option Addr)(kn kc:Nat)(hr:gB (JF jb bs) h (.slice oa l.length oc) l.length 1 (l.map bv))(hsz:s.size ≤9223372036854775807)(X:An)(cp:Option Addr)(cq:Nat)(cr:Option Addr)(ct:Nat)(cu:Option Addr)(cx:Nat)(xq:ay h (.slice cp X.b.length cq) X.b.length 1 (X.b.map bv))(xi:ay h (.slice cr X.i.length ct) X.i.length 1 (X.i.map Value.string))(xp:ay h (.slice cu X.p.length cx) X.p.length 32 (hcs X.p))(x32:aq X.p)(hkc:ak kd=(true,true))(hb:X.c =2→o2=false)(FR:X.c =3)(kt:bq h)(hE:∀M∈Ms,M.E.length ≤1099511627)(hn:bs.length ≤1099511627):Sat Tryz.prog 31 #[.pointer (some ⟨jb,0,none⟩),.agg #[.int .i64 kd,.string s,.slice oa l.length oc,.int .i64 n,.slice ka kn kc],.agg (bb X.c (.slice cp X.b.length cq) X.sx X.se X.sh X.sg (.slice cr X.i.length ct) X.n X.y X.k (.slice cu X.p.length cx)).toArray] h fun v h'=>v= .int .i64 (bz ⟨Ms,false,o2,false,false⟩ (bh kd n s l X)).2 ∧∃bs' ca cc,JA h' jb bs' (bz ⟨Ms,false,o2,false,false⟩ (bh kd n s l X)).1 ca cc∧(∀z∈bs',z∈bs∨(h.size ≤z.1 ∧h.size ≤z.2))∧Gr (JF jb bs) h h':=by
 have hj:=ja.hj
 have O:=ja.hj
 have P:=aj hj
 have t:=Gr.start (fun k=>k=jb) h
 have f:=Ext.refl h
 have e:Sep h.size h.size []:=Sep.nil _ _
 refine ag Tryz.func31 77 fun a d=>qS d<|tN 0 (pV h.size) #[.int .i64 kd,.string s,.slice oa l.length oc,.int .i64 n,.slice ka kn kc] 35 fun L H r=> ?_
 replace e:=e.nw t.1 r
 refine tN 1 (pV L.size) ((bb X.c (.slice cp X.b.length cq) X.sx X.se X.sh X.sg (.slice cr X.i.length ct) X.n X.y X.k (.slice cu X.p.length cx)).toArray) 47 fun U G o=> ?_
 replace f:=f.ext H
 replace t:=t.ext H
 replace e:=e.nw t.1 o
 refine sT [(4,pV h.size),(5,pV L.size)] fun a d=>qS d ?_
 replace r:=r.x G
 refine tR 0 r<|tG 1 (dw _ kd n s oa l.length oc ka kn kc true true hkc) ?_
 rintro _ C ⟨rfl,g⟩
 refine sT [(7,.bool true),(8,.bool true)] fun a d=>qS d<|tN 1 (pV C.size) ((bY 0).toArray) 47 fun Q j D=> ?_
 replace f:=(f.ext G).ext g
 have N:=f.size
 replace t:=(t.ext G).ext g
 replace e:=(e.up g.size).nw t.1 D
 refine bt 2 (bY 2) D fun R m V=> ?_
 replace hj:=(((hj.x H).x G).x g).x j
 replace hj:=hj.y m
 refine sT [(9,pV C.size)] fun a d=>cS<|cB 0<|qS d<|tO 3 4 hj<|sT [(16,.bool false)] fun a d=>cF 16 d ?_
 refine qP [(21,.bool false)] d fun a d=>cF 21 d<|qS d<|tO 3 1 hj<|sT [(30,.bool false)] fun a d=>cF 30 d<|cS ?_
 rcases Int.decEq X.c 2 with F|F
 ·refine rS d ?_
  replace o:=((o.x g).x j).y m (e.bp 1 0)
  refine tO 1 0 o<|eF 2 X.c 2<|sE [(38,.bool false)] fun a d=>tK<|cF 38 d<|qS d<|tO 3 0 o ?_
  refine eT 4 X.c 3<|sT [(58,.bool true)] fun a d=>cT 58 d<|qS d ?_
  replace r:=((r.x g).x j).y m (e.bp 2 0)
  refine tR 1 r<|tR 2 o ?_
  replace f:=(f.ext j).grew m (e.low 0 rfl)
  refine tG 5 (nU _ jb bs Ms false o2 false ca cc (ja.ext f) kd n s l oa oc ka kn kc (hr.ext f) hsz X cp cq cr ct cu cx (xq.ext f) (xi.ext f) (xp.ext f) x32 (kt.ext f) hE hn) ?_
  rintro _ S ⟨rfl,u,w,A,B,q,I⟩
  have J:=(Gr.start (JF jb bs) h).ext f |>.trans I
  refine sT [(6,.int .i64 ((bz ⟨Ms,false,o2,false,false⟩ (bh kd n s l X)).2))] fun a d=>cR (yB (yT ?_))
  exact rT 6 (.int .i64 ((bz ⟨Ms,false,o2,false,false⟩ (bh kd n s l X)).2)) d<|⟨rfl,u,w,A,B,fun x K=> .inl (q x K),J⟩
 ·obtain rfl:o2=false:=hb F
  refine rS d ?_
  replace o:=((o.x g).x j).y m (e.bp 1 0)
  refine tO 1 0 o<|eT 2 X.c 2<|tO 7 2 hj<|sE [(38,.bool false)] fun a d=>tK<|cF 38 d<|qS d ?_
  refine tO 3 0 o<|eT 4 X.c 3<|sT [(58,.bool true)] fun a d=>cT 58 d<|qS d ?_
  replace r:=((r.x g).x j).y m (e.bp 2 0)
  refine tR 1 r<|tR 2 o ?_
  replace f:=(f.ext j).grew m (e.low 0 rfl)
  refine tG 5 (nU _ jb bs Ms false false false ca cc (ja.ext f) kd n s l oa oc ka kn kc (hr.ext f) hsz X cp cq cr ct cu cx (xq.ext f) (xi.ext f) (xp.ext f) x32 (kt.ext f) hE hn) ?_
  rintro _ T ⟨rfl,u,w,A,B,q,I⟩
  have J:=(Gr.start (JF jb bs) h).ext f |>.trans I
  refine sT [(6,.int .i64 ((bz ⟨Ms,false,false,false,false⟩ (bh kd n s l X)).2))] fun a d=>cR (yB (yT ?_))
  exact rT 6 (.int .i64 ((bz ⟨Ms,false,false,false,false⟩ (bh kd n s l X)).2)) d<|⟨rfl,u,w,A,B,fun x K=> .inl (q x K),J⟩
end Go.Proofs.YtegkejcglfgpmaaGreatDoor
end
section
namespace Go.aL
open Go Go.ai
theorem JA.qg{h h':Heap}{jb:Nat}{bs:List (Nat×Nat)}{J:Jd}{ca:Option Addr}{cc:Nat}{o:Option Nat}{v:Value}{E:TypeId}{n sz:Nat}{xs:List Value}(a:JA h jb bs J ca cc)(g:Grew o h h')(w:Own h v E n sz xs)(ho:aZ v=o)(hE:lj E=false)(hM:E≠83)(hP:E≠55)(hJ:E≠77):JA h' jb bs J ca cc:=by
  subst ho
  rcases w.2 with⟨rfl,_⟩|⟨k,off,cap,l,rfl,m,_⟩
  · exact a.ext g
  · have gr : Gr (fun i => i = k) h h' := ⟨g.1, fun i hi hn => g.2 i hi (fun e => hn (Option.some.inj e))⟩
    have hjk:jb≠k:=by rintro rfl;rw[a.hj] at m;cases m;exact hJ rfl
    exact⟨gr.blk a.hj hjk,a.row.fr gr (fun i e cs fr e2=>by rw[e,m] at e2;cases e2;exact hP rfl),a.cs.qg g w rfl hE hM⟩
theorem JA.zQ{h:Heap}{jb:Nat}{bs:List (Nat×Nat)}{J:Jd}{ca:Option Addr}{cc:Nat}{ad:Option Addr}{n cap:Nat}{E:TypeId}{m sz:Nat}{xs:List Value}(a:JA h jb bs J ca cc)(w:Own h (.slice ad n cap) E m sz xs)(hM:E≠83)(hJ:E≠77):∀k,ad.map (fun(x:Addr)=>x.block)=some k→¬JF jb bs k:=fun k e=>by
  rcases w.2 with⟨e2,_⟩|⟨g,off,cap',l,e2,q,_⟩
  · cases e2;cases e
  · cases e2
    simp only[Option.map_some,Option.some.injEq] at e
    subst e
    rintro(rfl|⟨x,hx,e⟩)
    · rw[a.hj] at q;cases q;exact hJ rfl
    · have := a.cs.CN q hM x hx
      rcases e with e|e
      · exact this.1 e
      · exact this.2 e
/-! ### faults -/
@[reducible] def Ef(p:Int×Int):List Value:=[.int .i64 p.1, .int .i64 p.2]
@[reducible] def dA(L:List (Int×Int)):List Value:=L.flatMap Ef
theorem uz(p:Int×Int):(Ef p).length =2:=rfl
theorem nX(L:List (Int×Int)):∀u∈dA L,u.oneCell' =true:=im (fun p u hu=>by simp only[Ef,List.mem_cons,List.not_mem_nil,or_false] at hu;rcases hu with rfl|rfl<;>rfl) L
def fC(r:Nat→Int)(k:Nat):List (Int×Int):=(List.range k).filterMap fun i=>if r i=0 then none else some (((i:Nat):Int),r i)
theorem mo{r:Nat→Int}{k:Nat}(h:r k=0):fC r (k+1)=fC r k:=by unfold fC;rw[List.range_succ,List.filterMap_append];simp[h]
theorem oW{r:Nat→Int}{k:Nat}(h:r k≠0):fC r (k+1)=fC r k++[(((k:Nat):Int),r k)]:=by unfold fC;rw[List.range_succ,List.filterMap_append];simp[h]
theorem sF(r:Nat→Int):∀k,(fC r k).length ≤k
  |0=>by simp[fC]
  | k + 1 => by
    have:=sF r k
    by_cases h:r k=0
    · rw[mo h];omega
    · rw[oW h];simp;omega
end Go.aL
end
section
namespace Go.Proofs.YtegkejcglfgpmaaGreatDoor
open Go Go.ai Go.aL
/-! ### answers with their slices; what the judge does by one operation -/
structure dM where
  X:An
  qa:Option Addr
  qc:Nat
  ia:Option Addr
  ic:Nat
  pa:Option Addr
  pc:Nat
@[reducible] def mq(r:dM):List Value:=bb r.X.c (.slice r.qa r.X.b.length r.qc) r.X.sx r.X.se r.X.sh r.X.sg (.slice r.ia r.X.i.length r.ic) r.X.n r.X.y r.X.k (.slice r.pa r.X.p.length r.pc)
def eB:dM:=⟨dy,none,0,none,0,none,0⟩
@[reducible] def bI(A:List dM):List Value:=A.flatMap mq
theorem jU(r:dM):(mq r).length =75:=rfl
def mr(h:Heap)(o:dJ):Prop:=(Row h (.slice o.oa o.l.length o.oc) o.l.length 1 (o.l.map bv)∧(o.l.length =0∨∀k,aZ (.slice o.oa o.l.length o.oc)=some k→k<h.size))∧o.s.size ≤9223372036854775807
theorem mr.ext{h h':Heap}{o:dJ}(a:mr h o)(g:Ext h h'):mr h' o:=⟨⟨a.1.1.ext g,a.1.2.imp id fun q k e=>Nat.lt_of_lt_of_le (q k e) g.1⟩,a.2⟩
theorem mr.row{h h':Heap}{o:dJ}(a:mr h o)(g:Ext h h'){F:Nat→Prop}(hF:∀k,F k→h.size ≤k):gB F h' (.slice o.oa o.l.length o.oc) o.l.length 1 (o.l.map bv):=⟨a.1.1.ext g,a.1.2.imp id fun q k e=>⟨Nat.lt_of_lt_of_le (q k e) g.1,fun f=>Nat.not_le_of_lt (q k e) (hF k f)⟩⟩
def je(h:Heap)(x:dM):Prop:=ay h (.slice x.qa x.X.b.length x.qc) x.X.b.length 1 (x.X.b.map bv)∧ay h (.slice x.ia x.X.i.length x.ic) x.X.i.length 1 (x.X.i.map Value.string)∧ay h (.slice x.pa x.X.p.length x.pc) x.X.p.length 32 (hcs x.X.p)∧aq x.X.p
def aU(h:Heap)(o:dJ)(x:dM)(J J':Jd)(r:Int):Prop:=∀(h1:Heap) (jb:Nat) (bs:List (Nat×Nat)) (ca:Option Addr) (cc:Nat),Ext h h1→(∀k,JF jb bs k→h.size ≤k)→0<jb→bq h1→JA h1 jb bs J ca cc→
  Sat Tryz.prog 31 #[.pointer (some ⟨jb,0,none⟩), .agg (Ce o).toArray, .agg (mq x).toArray] h1 fun v h'=>v= .int .i64 r∧∃bs' ca cc,JA h' jb bs' J' ca cc∧(∀z∈bs',z∈bs∨(h1.size ≤z.1 ∧h1.size ≤z.2))∧Gr (JF jb bs) h1 h'
section
variable {h:Heap} {o:dJ} {x:dM} {Ms:List Md} {M:Md}
theorem aU.fuse{o2 o3:Bool}(hx:je h x)(hk:o.kd =12):aU h o x ⟨Ms,false,o2,o3,false⟩ ⟨Ms,false,decide (0≤o.n),o3,false⟩ (au dy x.X):=fun h1 jb bs ca cc g _ _ _ ja=>
  x5 h1 jb bs Ms ca cc o2 o3 ja o.kd o.n o.s o.l o.oa o.oc o.ka o.kn o.kc x.X x.qa x.qc x.ia x.ic x.pa x.pc (hx.1.ext g) (hx.2.1.ext g) (hx.2.2.1.ext g) hx.2.2.2 (dY (by omega) (by omega)) hk
theorem aU.C3{o2 o3:Bool}(hx:je h x)(hk:o.kd =12):aU h o x ⟨Ms,true,o2,o3,false⟩ ⟨Ms,true,o2,o3,false⟩ (au dy x.X):=fun h1 jb bs ca cc g _ _ _ ja=>
  vG h1 jb bs Ms ca cc o2 o3 ja o.kd o.n o.s o.l o.oa o.oc o.ka o.kn o.kc x.X x.qa x.qc x.ia x.ic x.pa x.pc (hx.1.ext g) (hx.2.1.ext g) (hx.2.2.1.ext g) hx.2.2.2 (dY (by omega) (by omega)) hk
theorem aU.C4{o1 o2 o3:Bool}(hx:je h x)(hk:o.kd =13):aU h o x ⟨Ms,o1,o2,o3,false⟩ ⟨Ms,false,false,o3,false⟩ (au dy x.X):=fun h1 jb bs ca cc g _ _ _ ja=>
  x6 h1 jb bs Ms ca cc o1 o2 o3 ja o.kd o.n o.s o.l o.oa o.oc o.ka o.kn o.kc x.X x.qa x.qc x.ia x.ic x.pa x.pc (hx.1.ext g) (hx.2.1.ext g) (hx.2.2.1.ext g) hx.2.2.2 (dY (by omega) (by omega)) hk
theorem aU.tick{o1 o2 o3:Bool}(ho:mr h o)(hx:je h x)(hk:o.kd =10)(hE:∀M∈Ms,M.E.length ≤1099511627)(hn:Ms.length ≤1099511627):aU h o x ⟨Ms,o1,o2,o3,false⟩ ⟨Ms.map fun M=>(aG M o).1,o1,o2,o3,false⟩ (au dy x.X):=fun h1 jb bs ca cc g hF _ kt ja=>by
  have hl:=ja.cs.len
  exact x9 h1 jb bs Ms ca cc o1 o2 o3 ja o.kd o.n o.s o.l o.oa o.oc o.ka o.kn o.kc (ho.row g hF) ho.2 x.X x.qa x.qc x.ia x.ic x.pa x.pc (hx.1.ext g) (hx.2.1.ext g) (hx.2.2.1.ext g) hx.2.2.2 (dY (by omega) (by omega)) kt hE (by rw[hl];exact hn) hk
theorem aU.qd{o1 o2 o3:Bool}(hx:je h x)(hk:o.kd =14)(hX:x.X.k ≠1):aU h o x ⟨Ms,o1,o2,o3,false⟩ ⟨Ms,o1,o2,o3,false⟩ (au dy x.X):=fun h1 jb bs ca cc g _ _ _ ja=>
  Ag h1 jb bs Ms ca cc o1 o2 o3 ja o.kd o.n o.s o.l o.oa o.oc o.ka o.kn o.kc x.X x.qa x.qc x.ia x.ic x.pa x.pc (hx.1.ext g) (hx.2.1.ext g) (hx.2.2.1.ext g) hx.2.2.2 (dY (by omega) (by omega)) hk hX
theorem aU.none{o1 o2 o3:Bool}(hx:je h x)(hkc:ak o.kd =(false,false))(hk:o.kd ≠12∧o.kd ≠10∧o.kd ≠14∧o.kd ≠13):aU h o x ⟨Ms,o1,o2,o3,false⟩ ⟨Ms,o1,o2,o3,false⟩ (au (cm 1) x.X):=fun h1 jb bs ca cc g _ _ _ ja=>
  x8 h1 jb bs Ms ca cc o1 o2 o3 ja o.kd o.n o.s o.l o.oa o.oc o.ka o.kn o.kc x.X x.qa x.qc x.ia x.ic x.pa x.pc (hx.1.ext g) (hx.2.1.ext g) (hx.2.2.1.ext g) hx.2.2.2 hkc hk
theorem aU.gave{o1 o2 o3:Bool}:aU h o x ⟨Ms,o1,o2,o3,true⟩ ⟨Ms,o1,o2,o3,true⟩ 0:=fun h1 jb bs ca cc _ _ _ _ ja=>
  x_ h1 jb bs Ms ca cc o1 o2 o3 ja o.kd o.n o.s o.l o.oa o.oc o.ka o.kn o.kc x.X x.qa x.qc x.ia x.ic x.pa x.pc _ _ rfl
theorem aU.off{o2 o3 cg:Bool}(hx:je h x)(hkc:ak o.kd =(true,cg)):aU h o x ⟨Ms,true,o2,o3,false⟩ ⟨Ms,true,o2,o3,false⟩ (au (cm 2) x.X):=fun h1 jb bs ca cc g _ _ _ ja=>
  Ah h1 jb bs Ms ca cc o2 o3 ja o.kd o.n o.s o.l o.oa o.oc o.ka o.kn o.kc x.X x.qa x.qc x.ia x.ic x.pa x.pc (hx.1.ext g) (hx.2.1.ext g) (hx.2.2.1.ext g) hx.2.2.2 cg hkc
theorem aU.dark(hx:je h x)(hkc:ak o.kd =(true,false))(hX:x.X.c =2):aU h o x ⟨Ms,false,true,false,false⟩ ⟨Ms,true,true,false,false⟩ (au (cm 2) x.X):=fun h1 jb bs ca cc g _ _ _ ja=>
  yg h1 jb bs Ms ca cc ja o.kd o.n o.s o.l o.oa o.oc o.ka o.kn o.kc x.X x.qa x.qc x.ia x.ic x.pa x.pc (hx.1.ext g) (hx.2.1.ext g) (hx.2.2.1.ext g) hx.2.2.2 hkc hX
theorem aU.yh(ho:mr h o)(hx:je h x)(hkc:ak o.kd =(true,true))(hX:x.X.c =2)(hE:∀M∈Ms,M.E.length ≤1099511627)(hn:Ms.length ≤109951162):aU h o x ⟨Ms,false,true,false,false⟩ ⟨eL o.kd o.n o.s o.l Ms,true,true,false,decide (16<(eL o.kd o.n o.s o.l Ms).length)⟩ (au (cm 2) x.X):=fun h1 jb bs ca cc g hF hk kt ja=>by
  have hl:=ja.cs.len
  exact vH h1 jb bs Ms ca cc ja o.kd o.n o.s o.l o.oa o.oc o.ka o.kn o.kc (ho.row g hF) ho.2 x.X x.qa x.qc x.ia x.ic x.pa x.pc (hx.1.ext g) (hx.2.1.ext g) (hx.2.2.1.ext g) hx.2.2.2 hkc hX kt hk hE (by rw[hl];exact hn)
theorem aU.power(ho:mr h o)(hx:je h x)(hkc:ak o.kd =(true,true))(hX:x.X.c =2)(hE:M.E.length ≤1099511627)(hc:(aG M o).2.c =0)(hne:(aG M o).1.E.length ≠M.E.length):aU h o x ⟨[M],false,true,false,false⟩ ⟨[M,(aG M o).1],true,true,false,false⟩ (au (cm 2) x.X):=by
  have:=aU.yh (Ms:=[M]) ho hx hkc hX (fun N hN=>by rw[List.mem_singleton.1 hN];exact hE) (by simp)
  rwa [dE hc rfl hne] at this
theorem aU.yi{b:Bool}(ho:mr h o)(hx:je h x)(hkc:ak o.kd =(true,true))(hb:x.X.c =2→b=false)(hX:x.X.c ≠3)(hE:∀M∈Ms,M.E.length ≤1099511627)(hn:Ms.length ≤1099511627){J:Jd}{r:Int}(e:bz ⟨Ms,false,b,false,false⟩ (bA o.kd o.n o.s o.l x.X)=(J,r)):aU h o x ⟨Ms,false,b,false,false⟩ J r:=fun h1 jb bs ca cc g hF _ kt ja=>by
  have hl:=ja.cs.len
  have:=vI h1 jb bs Ms ca cc b ja o.kd o.n o.s o.l o.oa o.oc o.ka o.kn o.kc (ho.row g hF) ho.2 x.X x.qa x.qc x.ia x.ic x.pa x.pc (hx.1.ext g) (hx.2.1.ext g) (hx.2.2.1.ext g) hx.2.2.2 hkc hb hX kt hE (by rw[hl];exact hn)
  rwa [e] at this
theorem aU.C5{b:Bool}(ho:mr h o)(hx:je h x)(hkc:ak o.kd =(true,true))(hb:x.X.c =2→b=false)(hX:x.X.c =3)(hE:∀M∈Ms,M.E.length ≤1099511627)(hn:Ms.length ≤1099511627){J:Jd}{r:Int}(e:bz ⟨Ms,false,b,false,false⟩ (bh o.kd o.n o.s o.l x.X)=(J,r)):aU h o x ⟨Ms,false,b,false,false⟩ J r:=fun h1 jb bs ca cc g hF _ kt ja=>by
  have hl:=ja.cs.len
  have:=vK h1 jb bs Ms ca cc b ja o.kd o.n o.s o.l o.oa o.oc o.ka o.kn o.kc (ho.row g hF) ho.2 x.X x.qa x.qc x.ia x.ic x.pa x.pc (hx.1.ext g) (hx.2.1.ext g) (hx.2.2.1.ext g) hx.2.2.2 hkc hb hX kt hE (by rw[hl];exact hn)
  rwa [e] at this
theorem aU.yj{b:Bool}(ho:mr h o)(hx:je h x)(hkc:ak o.kd =(true,false))(hb:x.X.c =2→b=false)(hE:∀M∈Ms,M.E.length ≤1099511627)(hn:Ms.length ≤1099511627){J:Jd}{r:Int}(e:bz ⟨Ms,false,b,false,false⟩ (bA o.kd o.n o.s o.l x.X)=(J,r)):aU h o x ⟨Ms,false,b,false,false⟩ J r:=fun h1 jb bs ca cc g hF _ kt ja=>by
  have hl:=ja.cs.len
  have:=vJ h1 jb bs Ms ca cc b ja o.kd o.n o.s o.l o.oa o.oc o.ka o.kn o.kc (ho.row g hF) ho.2 x.X x.qa x.qc x.ia x.ic x.pa x.pc (hx.1.ext g) (hx.2.1.ext g) (hx.2.2.1.ext g) hx.2.2.2 hkc hb kt hE (by rw[hl];exact hn)
  rwa [e] at this
theorem aU.C6(ho:mr h o)(hx:je h x)(hkc:ak o.kd =(true,true))(hX:x.X.c ≠3)(hE:∀M∈Ms,M.E.length ≤1099511627)(hn:Ms.length ≤1099511627){J:Jd}{r:Int}(e:bz ⟨Ms,false,false,false,false⟩ (bA o.kd o.n o.s o.l x.X)=(J,r)):aU h o x ⟨Ms,false,false,false,false⟩ J r:=aU.yi ho hx hkc (fun _=>rfl) hX hE hn e
theorem aU.holdA(ho:mr h o)(hx:je h x)(hkc:ak o.kd =(true,false))(hE:∀M∈Ms,M.E.length ≤1099511627)(hn:Ms.length ≤1099511627){J:Jd}{r:Int}(e:bz ⟨Ms,false,false,false,false⟩ (bA o.kd o.n o.s o.l x.X)=(J,r)):aU h o x ⟨Ms,false,false,false,false⟩ J r:=aU.yj ho hx hkc (fun _=>rfl) hE hn e
end
/-! ### the document's examples -/
@[reducible] def sA:ByteArray:=ByteArray.mk #[97]
noncomputable def M1:Md:=(du M0 sA [97]).1
def BQ(l:List UInt8):An:={dy with b:=l}
theorem nY:aK sA=true:=by decide
theorem C7:du M0 sA [97]=(M1,0):=by unfold M1;rw[jz nY (by decide) rfl]
theorem C8:M1.f sA=some (pP sA [97] 0):=by
  have:M1=⟨upd M0.f sA (pP sA [97] M0.E.length),M0.E ++[dH sA 1 (bF [97])],M0.t⟩:=by unfold M1;rw[jz nY (by decide) rfl];rfl
  rw[this];show upd M0.f sA (pP sA [97] 0) sA=_;exact gU _ _ _
theorem Ai:M1.E.length =1:=by unfold M1;rw[jz nY (by decide) rfl];rfl
theorem BS(n:Int):step M0 1 n sA [97]=(M1,dy):=by rw[gW rfl,C7];rfl
theorem aM(n:Int):step M1 1 n sA [97]=(M1,cm 212):=by rw[gW rfl,iV nY (by decide) C8]
theorem BT(n:Int)(l:List UInt8):step M0 2 n sA l=(M0,cm 211):=by rw[dI (.inl rfl),kA nY rfl]
theorem yk(n:Int)(l:List UInt8):step M1 2 n sA l=(M1,BQ [97]):=by rw[dI (.inl rfl),me nY C8 rfl rfl];rfl
theorem Eg:au dy dy=0:=p_ rfl rfl (dR ..) rfl (ff ..) rfl rfl
theorem BU:au (BQ [97]) (BQ [98])=2:=rule2 rfl (by decide)
theorem FT:au (BQ [97]) (BQ [97])=0:=p_ rfl rfl (dR ..) rfl (ff ..) rfl rfl
theorem EW(c:Int):au (cm c) (cm c)=0:=p_ rfl rfl (dR ..) rfl (ff ..) rfl rfl
theorem rC{A B:An}(h:A.c ≠B.c):au A B=1:=xh h
theorem A7{M N:Md}{f:Md→Md×Int}(h:f M=(N,0)){a b c d:Bool}:bz ⟨[M],a,b,c,d⟩ f=(⟨[N],a,b,c,d⟩,0):=by simp[bz,h]
theorem uA{M N:Md}{r:Int}{f:Md→Md×Int}(h:f M=(N,r))(hr:r≠0){a b c d:Bool}:bz ⟨[M],a,b,c,d⟩ f=(⟨[N],a,b,c,d⟩,r):=by simp[bz,h,hr,hdF]
theorem BV{M N K L:Md}{r:Int}{f:Md→Md×Int}(h:f M=(K,r))(k:f N=(L,0))(hr:r≠0){a b c d:Bool}:bz ⟨[M,N],a,b,c,d⟩ f=(⟨[L],a,b,c,d⟩,0):=by simp[bz,h,k,hr]
theorem BW{M N K L:Md}{r:Int}{f:Md→Md×Int}(h:f M=(K,0))(k:f N=(L,r))(hr:r≠0){a b c d:Bool}:bz ⟨[M,N],a,b,c,d⟩ f=(⟨[K],a,b,c,d⟩,0):=by simp[bz,h,k,hr]
theorem g'{M N:Md}{A X:An}{kd n r:Int}{s:ByteArray}{l:List UInt8}(h:step M kd n s l=(N,A))(k:au A X=r)(hk:kd≠11∧kd≠15:=by decide):bA kd n s l X M=(N,r):=by unfold bA;rw[h,e_ (by rintro(q|q);exact hk.1 q.1;exact hk.2 q.1)];exact congrArg _ k
def whZ(c:Int):Nat:=(if c<0 then -(c+1) else c).toNat %3
noncomputable def b10:Code:=Tryz.f10.body.getD .skip
set_option maxHeartbeats 1000000 in
theorem vL(h:Heap)(L:List dJ)(A:List dM)(nl na n:Nat)(la:Option Addr)(lc:Nat)(xa:Option Addr)(xc:Nat)(Jf:Nat→Jd)(r:Nat→Int)(hl:Row h (.slice la nl lc) nl 5 (dZ L))(hL:L.length =nl)(ha:Row h (.slice xa na xc) na 75 (bI A))(hA:A.length =na)(kt:bq h)(hnl:nl≤1099511627)(hna:na≤1099511627)(hnn:n≤nl∧n≤na∧(n=nl∨n=na))(hJ0:Jf 0=⟨[M0],false,false,false,false⟩)(see:∀k,k<n→aU h (L.getD k dX) (A.getD k eB) (Jf k) (Jf (k+1)) (r k)):Sat Tryz.prog 10 #[.slice la nl lc,.slice xa na xc] h fun v h'=>∃ad cap,v= .slice ad (fC r n++if nl=na then [] else [(((n:Nat):Int),(7:Int))]).length cap∧Own h' (.slice ad (fC r n++if nl=na then [] else [(((n:Nat):Int),(7:Int))]).length cap) 52 (fC r n++if nl=na then [] else [(((n:Nat):Int),(7:Int))]).length 2 (dA (fC r n++if nl=na then [] else [(((n:Nat):Int),(7:Int))]))∧Ext h h':=by
 have f:=Ext.refl h
 have a7:=kt.lt
 have b:Sep h.size h.size []:=Sep.nil _ _
 refine ag Tryz.func10 53 fun a c=>qP [] c fun a c=>qS c<|tG 0 (A6 _ (by have:=f.size;omega)) ?_
 rintro _ h1 ⟨R,mp,rfl,hM,I,J,g⟩
 have t:=f.size;replace I:=Nat.le_trans t I;replace J:=Nat.le_trans t J;clear t
 replace f:=f.ext g
 replace kt:=kt.ext g
 replace b:=b.up g.size
 clear g
 refine tN 1 (.slice (some ⟨h1.size,0,none⟩) 1 1) #[pV R] 55 fun D g3 K=> ?_
 have b7:=aj K
 replace b:=b.nw f.size K
 refine tN 3 (pV D.size) #[.slice (some ⟨h1.size,0,none⟩) 1 1,.bool false,.bool false,.bool false,.bool false] 77 fun h7 g8 m9=> ?_
 replace f:=f.ext g3
 have b5:=f.size
 replace b:=b.nw f.size m9
 refine sT [(5,pV D.size)] fun a c=>qP [(6,.slice none 0 0)] c fun a c=>qS c<|t1 4 (.int .i64 ((n:Nat):Int)) (.int .i64 (if ((na:Nat):Int)<((nl:Nat):Int) then ((na:Nat):Int) else ((nl:Nat):Int))) (congrArg (Value.int .i64) (by obtain⟨_,_,b8⟩:=hnn;split<;>omega))<|sT [(7,nV n)] fun a c=>cS<|qP [(19,nV n),(20,.int .i64 0)] c fun a c=> ?_
 refine cB 0 ?_
 replace hM:=(hM.ext g3).ext g8
 replace K:=K.x g8
 have ja:JA h7 D.size [(R,mp)] (Jf 0) (some ⟨h1.size,0,none⟩) 1:=hJ0▸⟨m9,⟨Row.blk (n:=1) (sz:=1) (l:=[mh (R,mp)]) K rfl,.inr ⟨_,_,_,rfl,K⟩⟩,CA.one hM⟩
 have hlow:∀z∈[(R,mp)],h.size ≤z.1 ∧h.size ≤z.2 :=fun z hz=>by rw[List.mem_singleton.1 hz];exact⟨I,J⟩
 clear hM K m9
 have dB:Own h7 (.slice none 0 0) 52 0 2 (dA (fC r 0)):=Own.nil _ _ _
 replace f:=f.ext g8
 have S:=f.size
 replace b:=(b.sub (l':=[]) (List.nil_sublist _)).none S;clear S
 replace kt:=(kt.ext g3).ext g8
 refine cL (fun m a h'=>∃k:Nat,∃ad:Option Addr,∃cap:Nat,∃Q:List (Nat×Nat),∃ca:Option Addr,∃cc:Nat,m=n - k∧(Ext h h')∧(bq h')∧(k≤n)∧(∀z∈Q,h.size ≤z.1 ∧h.size ≤z.2)∧(JA h' D.size Q (Jf k) ca cc)∧(Own h' (.slice ad ((fC r k).length) cap) 52 ((fC r k).length) 2 (dA (fC r k)))∧(Sep h.size h'.size [ad.map (·.block)])∧(Fr a 53 [(0,.slice la nl lc),(1,.slice xa na xc),(5,.pointer (some ⟨D.size,0,none⟩)),(6,.slice ad ((fC r k).length) cap),(7,.int .i64 ((n:Nat):Int)),(19,.int .i64 ((n:Nat):Int)),(20,.int .i64 ((k:Nat):Int))])) (n - 0) ⟨0,none,0,[(R,mp)],(some ⟨h1.size,0,none⟩),1,rfl,f,kt,(by omega),hlow,ja,dB,b,c.to⟩ ?_
 clear c a
 clear f
 clear kt
 clear hlow
 clear ja
 clear dB
 clear b
 rintro m a a8 ⟨k,ad,cap,Q,ca,cc,rfl,f,kt,hk,hlow,ja,dB,b,c⟩
 refine qP [(21,.bool (decide (((k:Nat):Int)<((n:Nat):Int))))] c fun a c=>cS<|cJ 21 c (fun U=> ?_) fun U=> ?_
 ·have a9:k<n:=by omega
  have c0:k<nl:=by omega
  have c1:k<na:=by omega
  have u:=c
  obtain⟨al,rfl,V⟩:=hl.bf (by omega)
  have c:=u;clear u
  have u:=c
  obtain⟨ax,rfl,W⟩:=ha.bf (by omega)
  have c:=u;clear u
  refine cN<|tK<|cS<|cB 1<|qP [(8,nV k)] c fun a c=>cS<|cD [0,0,0,6,14,0,0,96,224,511,1023] 7 mixed c ?_
  refine mP 7 [0,1,2] [pV D.size,.slice (some al) nl lc,nV k]<|mI 15 3 al nl 5 k (k*5)<|mL 31 16 4 (.agg ((Ce (L.getD k dX)).toArray)) (Calm.load (T:=35) (p:=(Addr.add al (k*5))) (by kernel_rfl) (Row.fm (d:=dX) lr (hl.ext f) (by kernel_rfl) (by omega) rfl))<|mP 127 [5,6] [.slice (some ax) na xc,nV k]<|mI 255 7 ax na 75 k (k*75)<|mL 511 272 8 (.agg ((mq (A.getD k eB)).toArray)) (Calm.load (T:=47) (p:=(Addr.add ax (k*75))) (by kernel_rfl) (Row.fm (d:=eB) jU (ha.ext f) (by kernel_rfl) (by omega) rfl)) ?_
  have X:∀i,JF D.size Q i→h.size ≤i:=by rintro i (e|⟨x,Y,e|e⟩);omega;have:=hlow x Y;omega;have:=hlow x Y;omega
  refine gC 1023 1023 9 (see k a9 _ D.size Q ca cc f X (by omega) kt ja) ?_
  rintro _ b0 ⟨rfl,M,Z,a0,a1,a2,gz⟩
  have t:=f.size
  have w:∀z∈M,h.size ≤z.1 ∧h.size ≤z.2 :=fun z hz=>by rcases a2 z hz with h9|h9;exact hlow z h9;exact⟨by omega,by omega⟩
  have N:∀i,JF D.size Q i→h.size ≤i:=by rintro i (e|⟨x,Y,e|e⟩);omega;have:=hlow x Y;omega;have:=hlow x Y;omega
  replace dB:=Gr.own gz dB (by rw[ae];exact ja.zQ dB (by decide) (by decide))
  replace f:=Gr.dD f gz N
  replace kt:=kt.gr gz (fun e=>by have:=N _ e;omega)
  replace b:=b.up gz.1
  clear ja;have ja:=a1;clear a1 N t a2
  refine mP 2047 [10] [.int .i64 (r k)]<|mE [(9,.int .i64 (r k))] fun a c=>tK<|qP [(34,.bool (!decide ((r k)=(0:Int))))] c fun a c=>cI 34 c (fun y=> ?_) fun y=> ?_
  ·have E:=oW y
   have b1:=sF r k
   refine rS c<|tN 4 (.slice (some ⟨b0.size,0,none⟩) 1 1) #[nV k,.int .i64 (r k)] 52 fun c2 F O=> ?_
   replace b:=b.nw f.size O
   replace dB:=dB.ext F
   refine tP 5 ((fC r k).length +1) 16 (dA (fC r k++[(((k:Nat):Int),r k)])) dB (Row.blk (n:=1) (sz:=2) (l:=dA [(((k:Nat):Int),r k)]) O rfl) (nX _) (fun B C c3 j G H=> ?_) (ys:=(dA ([(((k:Nat):Int),r k)]))) (hZ:=by first|rfl|exact List.flatMap_append.symm |simp[dA])
   replace f:=f.ext F
   replace ja:=ja.ext F
   replace ja:=ja.qg G dB (ae ..) (by decide) (by decide) (by decide) (by decide)
   have a3:=b
   replace b:=b.sa G 1 H j f.size;clear H
   replace dB:=j;clear j
   have jS:(fC r k).length +1=(fC r (k+1)).length :=by rw[E,List.length_append];rfl
   rw[jS,←E] at dB
   refine sE [(6,.slice B ((fC r k).length +1) C)] fun a c=> ?_
   have q:((fC r k).length +1:Nat)=(fC r (k+1)).length :=by first|exact jS| (simp;done)| (simp;omega)
   rw[q] at c;clear q
   refine bK<|tK<|rS c<|tA 0 k 1<|sE [(20,nV (k+1))] fun a c=> ?_
   clear O
   replace kt:=(kt.ext F).grew G (a3.zero 1 rfl a7)
   replace f:=f.grew G (a3.l 1)
   replace b:=b.sub (l':=[B.map (·.block)]) (.cons _ (.cons_cons _ (.slnil)))
   show ∃m',m'<_∧_
   refine⟨_,?_,(k+1),B,C,M,Z,a0,rfl,f,kt,(by omega),w,ja,dB,b,c.to⟩
   omega
  ·have E:=mo y
   rw[←E] at dB c
   refine cN<|bK<|tK<|rS c<|tA 0 k 1<|sE [(20,nV (k+1))] fun a c=> ?_
   replace b:=b.sub (l':=[ad.map (·.block)]) (.cons_cons _ (.slnil))
   show ∃m',m'<_∧_
   refine⟨_,?_,(k+1),ad,cap,M,Z,a0,rfl,f,kt,(by omega),w,ja,dB,b,c.to⟩
   omega
 ·refine cX 0 (xT (xT (xB ?_)))
  refine tK<|cS<|qP [(46,.bool (!decide (((nl:Nat):Int)=((na:Nat):Int))))] c fun a c=>cI 46 c (fun a4=> ?_) fun a4=> ?_
  ·refine rS c<|tN 3 (.slice (some ⟨a8.size,0,none⟩) 1 1) #[nV n,.int .i64 7] 52 fun c4 a5 a6=> ?_
   replace b:=b.nw f.size a6
   have b1:=sF r k
   replace dB:=dB.ext a5
   refine tP 4 ((fC r k).length +1) 16 (dA (fC r k++[(((n:Nat):Int),(7:Int))])) dB (Row.blk (n:=1) (sz:=2) (l:=dA [(((n:Nat):Int),(7:Int))]) a6 rfl) (nX _) (fun s o c5 j b2 b6=> ?_) (ys:=(dA ([(((n:Nat):Int),(7:Int))]))) (hZ:=by first|rfl|exact List.flatMap_append.symm |simp[dA])
   replace f:=f.ext a5
   have b3:=b
   replace dB:=j;clear j
   have jS:(fC r k).length +1=(fC r k++[(((n:Nat):Int),(7:Int))]).length :=by rw[List.length_append];rfl
   rw[jS] at dB
   refine sE [(6,.slice s ((fC r k).length +1) o)] fun a c=> ?_
   have q:((fC r k).length +1:Nat)=(fC r k++[(((n:Nat):Int),(7:Int))]).length :=by first|exact jS| (simp;done)| (simp;omega)
   rw[q] at c;clear q
   refine tK<|qP [(4,.slice s ((fC r k++[(((n:Nat):Int),(7:Int))]).length) o)] c fun a c=>cR<|rT 4 (.slice s ((fC r k++[(((n:Nat):Int),(7:Int))]).length) o) c ?_
   have P:k=n:=by omega
   subst P
   replace f:=f.grew b2 (b3.l 1)
   refine⟨s,o,?_,?_,f⟩<;>rw[if_neg (show ¬nl=na by omega)]
   exact dB
  ·refine cN<|tK<|qP [(4,.slice ad ((fC r k).length) cap)] c fun a c=>cR<|rT 4 (.slice ad ((fC r k).length) cap) c ?_
   have P:k=n:=by omega
   subst P
   refine⟨ad,cap,?_,?_,f⟩<;>rw[if_pos (show nl=na by omega)]<;>rw[List.append_nil]
   exact dB
noncomputable def b14:Code:=Tryz.f14.body.getD .skip
theorem Aj(h:Heap)(p:Int×Int)(aa:Addr)(vc:Nat)(ab:Addr)(vd:Nat)(ra:Row h (.slice (some aa) 1 vc) 1 2 (dA [p]))(rb:Row h (.slice (some ab) 1 vd) 1 2 (dA [p])):Sat Tryz.prog 14 #[.slice (some aa) 1 vc,.slice (some ab) 1 vd] h fun v h'=>v= .bool true∧h'=h:=by
 refine ag Tryz.func14 26 fun a b=>qP [] b fun a b=>cS<|qP [(10,.bool false)] b fun a b=>cF 10 b<|cN<|tK ?_
 refine cS<|qP [(5,.int .i64 0)] b fun a b=>cB 0<|cU 2<|ar.step <|cS<|qP [(14,.bool true)] b fun a b=> ?_
 refine cT 14 b<|cN<|tK<|cS<|cB 1<|cS<|cD [0,0,3,7,0,0,48,112,255] 6 mixed b ?_
 refine mP 3 [0,1] [.slice (some aa) 1 vc,.int .i64 0]<|mI 7 2 aa 1 2 0 0<|mL 15 8 3 (.agg #[.int .i64 p.1,.int .i64 p.2]) (Calm.load (T:=52) (p:=aa) (by kernel_rfl) (Row.fm (a:=aa) (q:=0) (L:=[p]) (i:=0) (d:=p) uz ra (by kernel_rfl) (by simp) rfl))<|mP 63 [4,5] [.slice (some ab) 1 vd,.int .i64 0]<|mI 127 6 ab 1 2 0 0<|mL 255 136 7 (.agg #[.int .i64 p.1,.int .i64 p.2]) (Calm.load (T:=52) (p:=ab) (by kernel_rfl) (Row.fm (a:=ab) (q:=0) (L:=[p]) (i:=0) (d:=p) uz rb (by kernel_rfl) (by simp) rfl))<|mF 511 8 (.bool false) (Calm.eqS (q:=false) (xs:= #[.int .i64 p.1,.int .i64 p.2]) (by kernel_rfl)) ?_
 refine mE [(25,.bool false)] fun a b=>tK<|cF 25 b<|cN<|bK<|tK<|rP [(5,.int .i64 1)] b fun a b=> ?_
 refine tK (ar.step ?_)
 refine cS<|qP [(14,.bool false)] b fun a b=>cF 14 b<|cX 0 (xT (xT (xB ?_)))
 exact tK<|qP [(4,.bool true)] b fun a b=>cR<|rT 4 (.bool true) b<|⟨rfl,rfl⟩
theorem fV(h:Heap)(p:Int×Int)(va:Option Addr)(vc:Nat)(vb:Option Addr)(vd:Nat)(ra:Row h (.slice va 1 vc) 1 2 (dA [p]))(rb:Row h (.slice vb 1 vd) 1 2 (dA [p])):Sat Tryz.prog 14 #[.slice va 1 vc,.slice vb 1 vd] h fun v h'=>v= .bool true∧h'=h:=by
 obtain⟨aa,rfl,_⟩:=ra.bf (by decide)
 obtain⟨ab,rfl,_⟩:=rb.bf (by decide)
 exact Aj h p aa vc ab vd ra rb
noncomputable def b12:Code:=Tryz.f12.body.getD .skip
end Go.Proofs.YtegkejcglfgpmaaGreatDoor
end
