/- The walks and the plain laws, part 4: RetM, RetN, RetG, MdlE, MdlF, MdlG, MdlH, MdlSame, MdlI, MdlJ, MdlK, MdlL, MdlM, MdlFr, MdlSee, MdlN, MdlShow. Conditions: those that each theorem names. -/
import Derived.Test.YtegkejcglfgpmaaGreatDoorPl3
section
namespace Go.Proofs.YtegkejcglfgpmaaGreatDoor
open Go Go.an Go.aT
noncomputable def PV:Code:=Tryz.f140.body.getD .skip
set_option maxHeartbeats 4000000 in
theorem zM(h:Heap)(ad:Option Addr)(cap n la lm lb:Nat)(L:List Rec)(ae:Own h (.slice ad n cap) 95 n 39 (a_ L))(hLn:L.length =n)(ham:la<lm)(hmb:lm<lb)(hbn:lb≤n)(hn:n≤1099511627776)(hs1:bA L la lm)(hs2:bA L lm lb)(ih:∀(h:Heap) (a m b:Nat) (L:List Rec),b - a<lb - la→Own h (.slice ad n cap) 95 n 39 (a_ L)→L.length =n→a<m→m<b→b≤n→bA L a m→bA L m b→Sat Tryz.prog 140 #[.slice ad n cap,.int .i64 ((a:Nat):Int),.int .i64 ((m:Nat):Int),.int .i64 ((b:Nat):Int),.func (.func 107) #[] #[]] h fun _ h'=>∃M,qL n a b L M∧Own h' (.slice ad n cap) 95 n 39 (a_ M)∧Grew (ad.map (fun(x:Addr)=>x.block)) h h'):Sat Tryz.prog 140 #[.slice ad n cap,.int .i64 ((la:Nat):Int),.int .i64 ((lm:Nat):Int),.int .i64 ((lb:Nat):Int),.func (.func 107) #[] #[]] h fun _ h'=>∃M,qL n la lb L M∧Own h' (.slice ad n cap) 95 n 39 (a_ M)∧Grew (ad.map (fun(x:Addr)=>x.block)) h h':=by
 have g0:=Grew.refl (ad.map (fun(x:Addr)=>x.block)) h
 refine ak Tryz.func140 220 fun a hF=>cS<|qS hF<|tU 2 lm la<|sT [(28,.bool (decide (((lm - la:Nat):Int)=(1:Int))))] fun a hF=>cJ 28 hF (fun hc1=> ?_) fun hc1=> ?_
 ·have hm1:lm=la+1:=by omega
  refine qP [(10,nV lm)] hF fun a hF=>qP [(11,nV lb)] hF fun a hF=>cS<|cB 0<|cL (fun m a h'=>∃i:Nat,∃j:Nat,m=j - i∧(Grew (ad.map (fun(x:Addr)=>x.block)) h h')∧(lm≤i∧i≤j∧j≤lb)∧(i=lm∨eS (L.getD (i - 1) ai) (L.getD (la) ai)<0)∧(j=lb∨¬eS (L.getD (j) ai) (L.getD (la) ai)<0)∧(Own h' (.slice ad n cap) 95 n 39 (a_ L))∧(Fr a 220 [(0,.slice ad n cap),(1,.int .i64 ((la:Nat):Int)),(4,.func (.func 107) #[] #[]),(10,.int .i64 ((i:Nat):Int)),(11,.int .i64 ((j:Nat):Int))])) (lb - lm) ⟨lm,lb,rfl,g0,(by omega),(.inl (by omega)),(.inl (by omega)),ae,hF.to⟩ ?_
  clear hF a
  clear g0
  clear ae
  rintro m a h2 ⟨i,j,rfl,g0,hij,hlo,hhi,ae,hF⟩
  refine cS<|qP [(33,.bool (decide (((i:Nat):Int)<((j:Nat):Int))))] hF fun a hF=>cJ 33 hF (fun hc3=> ?_) fun hc3=> ?_
  ·have E8:i<j:=by omega
   obtain⟨aa,rfl,b3⟩:=ae.a6 (by omega)
   refine cN<|tK<|cB 1<|qS hF<|tA 2 i j<|t1 3 (.int .u64 ((i+j:Nat):Int)) (.int .u64 (IntKind.u64.wrap ((i+j:Nat):Int))) (congrArg (Value.int .u64) (nY (by omega)))<|t1 4 (.int .u64 (((i+j)/2^1:Nat):Int)) (.int .u64 (Int.fdiv ((i+j:Nat):Int) (2^1))) (congrArg (Value.int .u64) (bV (i+j) 1)) ?_
   refine t1 5 (.int .i64 (((i+j)/2^1:Nat):Int)) (.int .i64 (IntKind.i64.wrap (((i+j)/2^1:Nat):Int))) (congrArg (Value.int .i64) (qn (by omega) (by omega)))<|sT [(12,nV ((i+j)/2^1))] fun a hF=> ?_
   obtain⟨c,hc⟩:∃x,(i+j)/2^1=x:=⟨_,rfl⟩;rw[hc] at hF
   have hcb:i≤c∧c<j:=by omega
   refine cS<|cD [0,0,0,6,14,0,0,96,224,511,1023] 5 mixed hF<|mP 7 [0,1,2] [.func (.func 107) #[] #[],.slice (some aa) n cap,nV c]<|mI 15 3 aa n 39 c (c*39)<|mY 31 16 4 c ai bg (ae.row)<|mP 127 [5,6] [.slice (some aa) n cap,nV la]<|mI 255 7 aa n 39 la (la*39) ?_
   refine mY 511 272 8 la ai bg (ae.row)<|jv 1023 1023 9 (Does.call (f:=107) (args:= #[.agg (rcs (L.getD c ai)).toArray,.agg (rcs (L.getD la ai)).toArray]) (by kernel_rfl) (ib _ (L.getD c ai) (L.getD la ai))) ?_
   rintro _ h4 ⟨rfl,g⟩
   replace g0:=g0.trans (g.but _)
   replace ae:=ae.ext g
   clear g
   refine mP 2047 [10] [.bool (decide ((eS (L.getD c ai) (L.getD la ai))<(0:Int)))]<|mE [(50,.bool (decide ((eS (L.getD c ai) (L.getD la ai))<(0:Int))))] fun a hF=>tK<|cJ 50 hF (fun hc5=> ?_) fun hc5=> ?_
   ·have hlo2:c+1=lm∨eS (L.getD (c+1 - 1) ai) (L.getD (la) ai)<0:= .inr hc5
    have hhi2:=hhi
    refine rS hF<|tA 1 c 1<|sE [(10,nV (c+1))] fun a hF=>bK ?_
    show ∃m',m'<_∧_
    refine⟨_,?_,c+1,j,rfl,g0,(by omega),hlo2,hhi2,ae,hF.to⟩
    omega
   ·have hhi2:c=lb∨¬eS (L.getD (c) ai) (L.getD (la) ai)<0:= .inr hc5
    have hlo2:=hlo
    refine rP [(11,nV c)] hF fun a hF=>bK ?_
    show ∃m',m'<_∧_
    refine⟨_,?_,i,c,rfl,g0,(by omega),hlo2,hhi2,ae,hF.to⟩
    omega
  ·obtain rfl:i=j:=by omega
   refine cX 0 (xT (xT (xB ?_)))
   refine tK<|cS<|qP [(13,nV la)] hF fun a hF=>cB 2<|cL (fun m a h'=>∃k:Nat,∃M:List Rec,m=i - k∧(Grew (ad.map (fun(x:Addr)=>x.block)) h h')∧(la≤k∧k+1≤i)∧(M.length =n)∧(M.Perm L)∧(Idx M L (lx la k))∧(Own h' (.slice ad n cap) 95 n 39 (a_ M))∧(Fr a 220 [(0,.slice ad n cap),(10,.int .i64 ((i:Nat):Int)),(13,.int .i64 ((k:Nat):Int))])) (i - la) ⟨la,L,rfl,g0,(by omega),hLn,(List.Perm.refl _),(Idx.refl _ (KL la)),ae,hF.to⟩ ?_
   clear hF a
   clear g0
   clear hLn
   clear ae
   rintro m a h6 ⟨k,M,rfl,g0,hk,hM,hP,hx,ae,hF⟩
   refine cS<|qS hF<|tU 2 i 1<|sT [(58,.bool (decide (((k:Nat):Int)<((i - 1:Nat):Int))))] fun a hF=>cJ 58 hF (fun B5=> ?_) fun B5=> ?_
   ·have hkc:k+1<i:=by omega
    obtain⟨aa,rfl,b3⟩:=ae.a6 (by omega)
    refine cN<|tK<|cS<|cB 3<|cD [0,0,0,0,8,0,0,64,224,480,0,0,3072,7168,16355,32739,65535,131071] 11 mixed hF<|mP 15 [0,1,2,3] [.slice (some aa) n cap,nV k,.slice (some aa) n cap,nV k]<|mA 31 4 k 1 ?_
    refine mP 127 [5,6] [.slice (some aa) n cap,nV k]<|mA 255 7 k 1<|mI 511 8 aa n 39 (k+1) ((k+1)*39)<|mY 1023 512 9 (k+1) ai bg (ae.row)<|mP 4095 [10,11] [.slice (some aa) n cap,nV k]<|mI 8191 12 aa n 39 k (k*39)<|mY 16383 8704 13 k ai bg (ae.row) ?_
    refine mI 32767 14 aa n 39 k (k*39)<|jv 65535 65507 15 (Does.c5 (a:=aa) (q:=k*39) (vs:=rcs (M.getD (k+1) ai)) (by kernel_rfl) ae (by show _+39≤_;omega) (dC _)) ?_
    rintro _ h8 ⟨rfl,aq,g⟩
    replace g0:=g0.trans g
    rw[gS bg (by first|omega| (rw[List.length_set];omega))] at aq
    clear ae;have ae:=aq;clear aq g
    refine mI 131071 16 aa n 39 (k+1) ((k+1)*39)<|jv 262143 262143 17 (Does.c5 (a:=aa) (q:=(k+1)*39) (vs:=rcs (M.getD k ai)) (by kernel_rfl) ae (by show _+39≤_;omega) (dC _)) ?_
    rintro _ h9 ⟨rfl,aq,g⟩
    replace g0:=g0.trans g
    rw[gS bg (by first|omega| (rw[List.length_set];omega))] at aq
    clear ae;have ae:=aq;clear aq g
    refine mE [] fun a hF=>bK<|tK<|rS hF<|tA 1 k 1<|sE [(13,nV (k+1))] fun a hF=> ?_
    show ∃m',m'<_∧_
    refine⟨_,?_,k+1,(om M k (k+1)),rfl,g0,(by omega),((gU M _ _).trans hM),((kJ (by omega) (by omega)).trans hP),(hx.swp (by omega) (by omega) (Bx (by omega))),ae,hF.to⟩
    omega
   ·refine cX 2 (xT (xT (xB ?_)))
    refine tK<|cR (yT ?_)
    exact r0 hF<|⟨M,KM hM hP hx (by omega) (hm1▸hs2) (by omega) (by omega) (hlo.imp (fun z=>by omega) id) hhi,ae,g0⟩
 ·refine cN<|tK<|cS<|qS hF<|tU 2 lb lm<|sT [(80,.bool (decide (((lb - lm:Nat):Int)=(1:Int))))] fun a hF=>cJ 80 hF (fun nv=> ?_) fun nv=> ?_
  ·have hm1:lb=lm+1:=by omega
   refine qP [(14,nV la)] hF fun a hF=>qP [(15,nV lm)] hF fun a hF=>cS<|cB 4<|cL (fun m a h'=>∃i:Nat,∃j:Nat,m=j - i∧(Grew (ad.map (fun(x:Addr)=>x.block)) h h')∧(la≤i∧i≤j∧j≤lm)∧(i=la∨¬eS (L.getD (lm) ai) (L.getD (i - 1) ai)<0)∧(j=lm∨eS (L.getD (lm) ai) (L.getD (j) ai)<0)∧(Own h' (.slice ad n cap) 95 n 39 (a_ L))∧(Fr a 220 [(0,.slice ad n cap),(2,.int .i64 ((lm:Nat):Int)),(4,.func (.func 107) #[] #[]),(14,.int .i64 ((i:Nat):Int)),(15,.int .i64 ((j:Nat):Int))])) (lm - la) ⟨la,lm,rfl,g0,(by omega),(.inl (by omega)),(.inl (by omega)),ae,hF.to⟩ ?_
   clear hF a
   clear g0
   clear ae
   rintro m a h11 ⟨i,j,rfl,g0,hij,hlo,hhi,ae,hF⟩
   refine cS<|qP [(85,.bool (decide (((i:Nat):Int)<((j:Nat):Int))))] hF fun a hF=>cJ 85 hF (fun hc12=> ?_) fun hc12=> ?_
   ·have E8:i<j:=by omega
    obtain⟨aa,rfl,b3⟩:=ae.a6 (by omega)
    refine cN<|tK<|cB 5<|qS hF<|tA 2 i j<|t1 3 (.int .u64 ((i+j:Nat):Int)) (.int .u64 (IntKind.u64.wrap ((i+j:Nat):Int))) (congrArg (Value.int .u64) (nY (by omega)))<|t1 4 (.int .u64 (((i+j)/2^1:Nat):Int)) (.int .u64 (Int.fdiv ((i+j:Nat):Int) (2^1))) (congrArg (Value.int .u64) (bV (i+j) 1)) ?_
    refine t1 5 (.int .i64 (((i+j)/2^1:Nat):Int)) (.int .i64 (IntKind.i64.wrap (((i+j)/2^1:Nat):Int))) (congrArg (Value.int .i64) (qn (by omega) (by omega)))<|sT [(16,nV ((i+j)/2^1))] fun a hF=> ?_
    obtain⟨c,hc⟩:∃x,(i+j)/2^1=x:=⟨_,rfl⟩;rw[hc] at hF
    have hcb:i≤c∧c<j:=by omega
    refine cS<|cD [0,0,0,6,14,0,0,96,224,511,1023,2047] 17 mixed hF<|mP 7 [0,1,2] [.func (.func 107) #[] #[],.slice (some aa) n cap,nV lm]<|mI 15 3 aa n 39 lm (lm*39)<|mY 31 16 4 lm ai bg (ae.row)<|mP 127 [5,6] [.slice (some aa) n cap,nV c]<|mI 255 7 aa n 39 c (c*39) ?_
    refine mY 511 272 8 c ai bg (ae.row)<|jv 1023 1023 9 (Does.call (f:=107) (args:= #[.agg (rcs (L.getD lm ai)).toArray,.agg (rcs (L.getD c ai)).toArray]) (by kernel_rfl) (ib _ (L.getD lm ai) (L.getD c ai))) ?_
    rintro _ h13 ⟨rfl,g⟩
    replace g0:=g0.trans (g.but _)
    replace ae:=ae.ext g
    clear g
    refine mP 4095 [10,11] [.bool (decide ((eS (L.getD lm ai) (L.getD c ai))<(0:Int))),.bool (!(decide ((eS (L.getD lm ai) (L.getD c ai))<(0:Int))))]<|mE [(103,.bool (!(decide ((eS (L.getD lm ai) (L.getD c ai))<(0:Int)))))] fun a hF=>tK<|cC 103 (!(decide ((eS (L.getD lm ai) (L.getD c ai))<(0:Int)))) hF (fun tu=> ?_) (fun tu=> ?_)
    ·have hlo2:c+1=la∨¬eS (L.getD (lm) ai) (L.getD (c+1 - 1) ai)<0:= .inr (by simpa using tu)
     have hhi2:=hhi
     refine rS hF<|tA 1 c 1<|sE [(14,nV (c+1))] fun a hF=>bK ?_
     show ∃m',m'<_∧_
     refine⟨_,?_,c+1,j,rfl,g0,(by omega),hlo2,hhi2,ae,hF.to⟩
     omega
    ·have hhi2:c=lm∨eS (L.getD (lm) ai) (L.getD (c) ai)<0:= .inr (by simpa using tu)
     have hlo2:=hlo
     refine rP [(15,nV c)] hF fun a hF=>bK ?_
     show ∃m',m'<_∧_
     refine⟨_,?_,i,c,rfl,g0,(by omega),hlo2,hhi2,ae,hF.to⟩
     omega
   ·obtain rfl:i=j:=by omega
    refine cX 4 (xT (xT (xB ?_)))
    refine tK<|cS<|qP [(17,nV lm)] hF fun a hF=>cB 6<|cL (fun m a h'=>∃k:Nat,∃M:List Rec,m=k+1∧(Grew (ad.map (fun(x:Addr)=>x.block)) h h')∧(i≤k∧k≤lm)∧(M.length =n)∧(M.Perm L)∧(Idx M L (rx lm k))∧(Own h' (.slice ad n cap) 95 n 39 (a_ M))∧(Fr a 220 [(0,.slice ad n cap),(14,.int .i64 ((i:Nat):Int)),(17,.int .i64 ((k:Nat):Int))])) (lm+1) ⟨lm,L,rfl,g0,(by omega),hLn,(List.Perm.refl _),(Idx.refl _ (KN lm)),ae,hF.to⟩ ?_
    clear hF a
    clear g0
    clear hLn
    clear ae
    rintro m a h15 ⟨k,M,rfl,g0,hk,hM,hP,hx,ae,hF⟩
    refine cS<|qP [(110,.bool (decide (((i:Nat):Int)<((k:Nat):Int))))] hF fun a hF=>cJ 110 hF (fun hc16=> ?_) fun hc16=> ?_
    ·have hkc:i<k:=by omega
     obtain⟨aa,rfl,b3⟩:=ae.a6 (by omega)
     refine cN<|tK<|cS<|cB 7<|cD [0,0,0,0,8,0,0,64,224,480,0,0,3072,7168,16355,32739,65535,131071] 23 mixed hF<|mP 15 [0,1,2,3] [.slice (some aa) n cap,nV k,.slice (some aa) n cap,nV k]<|mU 31 4 k 1 ?_
     refine mP 127 [5,6] [.slice (some aa) n cap,nV k]<|mU 255 7 k 1<|mI 511 8 aa n 39 (k - 1) ((k - 1)*39)<|mY 1023 512 9 (k - 1) ai bg (ae.row)<|mP 4095 [10,11] [.slice (some aa) n cap,nV k]<|mI 8191 12 aa n 39 k (k*39)<|mY 16383 8704 13 k ai bg (ae.row) ?_
     refine mI 32767 14 aa n 39 k (k*39)<|jv 65535 65507 15 (Does.c5 (a:=aa) (q:=k*39) (vs:=rcs (M.getD (k - 1) ai)) (by kernel_rfl) ae (by show _+39≤_;omega) (dC _)) ?_
     rintro _ h17 ⟨rfl,aq,g⟩
     replace g0:=g0.trans g
     rw[gS bg (by first|omega| (rw[List.length_set];omega))] at aq
     clear ae;have ae:=aq;clear aq g
     refine mI 131071 16 aa n 39 (k - 1) ((k - 1)*39)<|jv 262143 262143 17 (Does.c5 (a:=aa) (q:=(k - 1)*39) (vs:=rcs (M.getD k ai)) (by kernel_rfl) ae (by show _+39≤_;omega) (dC _)) ?_
     rintro _ h18 ⟨rfl,aq,g⟩
     replace g0:=g0.trans g
     rw[gS bg (by first|omega| (rw[List.length_set];omega))] at aq
     clear ae;have ae:=aq;clear aq g
     refine mE [] fun a hF=>bK<|tK<|rS hF<|tU 1 k 1<|sE [(17,nV (k - 1))] fun a hF=> ?_
     show ∃m',m'<_∧_
     refine⟨_,?_,k - 1,(om M k (k - 1)),rfl,g0,(by omega),((gU M _ _).trans hM),((kJ (by omega) (by omega)).trans hP),(hx.swp (by omega) (by omega) (By (by omega) (by omega))),ae,hF.to⟩
     omega
    ·refine cX 6 (xT (xT (xB ?_)))
     refine tK<|cR (yT ?_)
     exact r0 hF<|⟨M,by have z:=KO hM hP hx (by omega) hs1 (by omega) (by omega) hlo hhi;rwa [←hm1] at z,ae,g0⟩
  ·refine cN<|tK<|qS hF<|tA 2 la lb<|t1 3 (.int .u64 ((la+lb:Nat):Int)) (.int .u64 (IntKind.u64.wrap ((la+lb:Nat):Int))) (congrArg (Value.int .u64) (nY (by omega)))<|t1 4 (.int .u64 (((la+lb)/2^1:Nat):Int)) (.int .u64 (Int.fdiv ((la+lb:Nat):Int) (2^1))) (congrArg (Value.int .u64) (bV (la+lb) 1))<|t1 5 (.int .i64 (((la+lb)/2^1:Nat):Int)) (.int .i64 (IntKind.i64.wrap (((la+lb)/2^1:Nat):Int))) (congrArg (Value.int .i64) (qn (by omega) (by omega))) ?_
   refine sT [(18,nV ((la+lb)/2^1))] fun a hF=> ?_
   obtain⟨mid,hmid⟩:∃x,(la+lb)/2^1=x:=⟨_,rfl⟩;rw[hmid] at hF
   have hmb:la<mid∧mid<lb:=by omega
   refine qS hF<|tA 2 mid lm<|sT [(19,nV (mid+lm))] fun a hF=>qP [] hF fun a hF=>cS<|qP [(140,.bool (decide (((mid:Nat):Int)<((lm:Nat):Int))))] hF fun a hF=>cJ 140 hF (fun hc19=> ?_) fun hc19=> ?_
   ·refine qS hF<|tU 2 (mid+lm) lb<|sT [(20,nV ((mid+lm) - lb))] fun a hF=>rP [(21,nV mid)] hF fun a hF=>tK<|qS hF<|tU 1 (mid+lm) 1 ?_
    refine sT [(22,nV ((mid+lm) - 1))] fun a hF=> ?_
    obtain⟨s0,hs0⟩:∃x,(mid+lm) - lb=x:=⟨_,rfl⟩;obtain⟨r0,hr0⟩:∃x,mid=x:=⟨_,rfl⟩
    have hsr:(mid<lm∧s0+lb=mid+lm∧r0=mid)∨(lm≤mid∧s0=la∧r0=lm):=by omega
    have Ln:s0≤r0:=by omega
    refine cS<|cB 8<|cL (fun m a h'=>∃i:Nat,∃j:Nat,m=j - i∧(Grew (ad.map (fun(x:Addr)=>x.block)) h h')∧(s0≤i∧i≤j∧j≤r0)∧(i=s0∨¬eS (L.getD (mid+lm - 1 - (i - 1)) ai) (L.getD (i - 1) ai)<0)∧(j=r0∨eS (L.getD (mid+lm - 1 - (j)) ai) (L.getD (j) ai)<0)∧(Own h' (.slice ad n cap) 95 n 39 (a_ L))∧(Fr a 220 [(0,.slice ad n cap),(1,.int .i64 ((la:Nat):Int)),(2,.int .i64 ((lm:Nat):Int)),(3,.int .i64 ((lb:Nat):Int)),(4,.func (.func 107) #[] #[]),(18,.int .i64 ((mid:Nat):Int)),(19,.int .i64 ((mid+lm:Nat):Int)),(20,.int .i64 ((i:Nat):Int)),(21,.int .i64 ((j:Nat):Int)),(22,.int .i64 (((mid+lm) - 1:Nat):Int))])) (mid - ((mid+lm) - lb)) ⟨(mid+lm) - lb,mid,rfl,g0,(by omega),(.inl (by omega)),(.inl (by omega)),ae,hF.to⟩ ?_
    clear hF a
    clear g0
    clear ae
    rintro m a h20 ⟨i,j,rfl,g0,hij,hlo,hhi,ae,hF⟩
    refine cS<|qP [(151,.bool (decide (((i:Nat):Int)<((j:Nat):Int))))] hF fun a hF=>cJ 151 hF (fun hc21=> ?_) fun hc21=> ?_
    ·have E8:i<j:=by omega
     obtain⟨aa,rfl,b3⟩:=ae.a6 (by omega)
     refine cN<|tK<|cB 9<|qS hF<|tA 2 i j<|t1 3 (.int .u64 ((i+j:Nat):Int)) (.int .u64 (IntKind.u64.wrap ((i+j:Nat):Int))) (congrArg (Value.int .u64) (nY (by omega)))<|t1 4 (.int .u64 (((i+j)/2^1:Nat):Int)) (.int .u64 (Int.fdiv ((i+j:Nat):Int) (2^1))) (congrArg (Value.int .u64) (bV (i+j) 1)) ?_
     refine t1 5 (.int .i64 (((i+j)/2^1:Nat):Int)) (.int .i64 (IntKind.i64.wrap (((i+j)/2^1:Nat):Int))) (congrArg (Value.int .i64) (qn (by omega) (by omega)))<|sT [(23,nV ((i+j)/2^1))] fun a hF=> ?_
     obtain⟨c,hc⟩:∃x,(i+j)/2^1=x:=⟨_,rfl⟩;rw[hc] at hF
     have hcb:i≤c∧c<j:=by omega
     refine cS<|cD [0,0,0,0,12,30,62,0,0,384,896,2047,4095,8191] 35 mixed hF<|mP 15 [0,1,2,3] [.func (.func 107) #[] #[],.slice (some aa) n cap,nV ((mid+lm) - 1),nV c]<|mU 31 4 ((mid+lm) - 1) c<|mI 63 5 aa n 39 (((mid+lm) - 1) - c) ((((mid+lm) - 1) - c)*39)<|mY 127 64 6 (((mid+lm) - 1) - c) ai bg (ae.row)<|mP 511 [7,8] [.slice (some aa) n cap,nV c] ?_
     refine mI 1023 9 aa n 39 c (c*39)<|mY 2047 1088 10 c ai bg (ae.row)<|jv 4095 4095 11 (Does.call (f:=107) (args:= #[.agg (rcs (L.getD (((mid+lm) - 1) - c) ai)).toArray,.agg (rcs (L.getD c ai)).toArray]) (by kernel_rfl) (ib _ (L.getD (((mid+lm) - 1) - c) ai) (L.getD c ai))) ?_
     rintro _ h22 ⟨rfl,g⟩
     replace g0:=g0.trans (g.but _)
     replace ae:=ae.ext g
     clear g
     refine mP 16383 [12,13] [.bool (decide ((eS (L.getD (((mid+lm) - 1) - c) ai) (L.getD c ai))<(0:Int))),.bool (!(decide ((eS (L.getD (((mid+lm) - 1) - c) ai) (L.getD c ai))<(0:Int))))]<|mE [(171,.bool (!(decide ((eS (L.getD (((mid+lm) - 1) - c) ai) (L.getD c ai))<(0:Int)))))] fun a hF=>tK<|cC 171 (!(decide ((eS (L.getD (((mid+lm) - 1) - c) ai) (L.getD c ai))<(0:Int)))) hF (fun qU=> ?_) (fun qU=> ?_)
     ·have hlo2:c+1=s0∨¬eS (L.getD (mid+lm - 1 - (c+1 - 1)) ai) (L.getD (c+1 - 1) ai)<0:= .inr (by rw[show mid+lm - 1 - (c+1 - 1)=mid+lm - 1 - c by omega];simpa using qU)
      have hhi2:=hhi
      refine rS hF<|tA 1 c 1<|sE [(20,nV (c+1))] fun a hF=>bK ?_
      show ∃m',m'<_∧_
      refine⟨_,?_,c+1,j,rfl,g0,(by omega),hlo2,hhi2,ae,hF.to⟩
      omega
     ·have hhi2:c=r0∨eS (L.getD (mid+lm - 1 - (c)) ai) (L.getD (c) ai)<0:= .inr (by simpa using qU)
      have hlo2:=hlo
      refine rP [(21,nV c)] hF fun a hF=>bK ?_
      show ∃m',m'<_∧_
      refine⟨_,?_,i,c,rfl,g0,(by omega),hlo2,hhi2,ae,hF.to⟩
      omega
    ·obtain rfl:i=j:=by omega
     refine cX 8 (xT (xT (xB ?_)))
     refine tK<|qS hF<|tU 2 (mid+lm) i<|sT [(24,nV ((mid+lm) - i))] fun a hF=> ?_
     obtain⟨e,he⟩:∃x,(mid+lm) - i=x:=⟨_,rfl⟩;rw[he] at hF
     have ham:la≤i∧i≤lm∧lm≤e∧e≤lb∧i≤mid∧mid≤e∧i+e=mid+lm:=by omega
     have hlo3:i=la∨e=lb∨fZ (L.getD (i - 1) ai) (L.getD e ai):=by
      rcases hlo with z|z
      ·omega
      ·by_cases hi0:i=la
       ·exact .inl hi0
       ·rw[show mid+lm - 1 - (i - 1)=e by omega] at z;exact .inr (.inr (dM z))
     have hhi3:i=lm∨i=mid∨fZ (L.getD (e - 1) ai) (L.getD i ai):=by
      rcases hhi with z|z
      ·omega
      ·rw[show mid+lm - 1 - i=e - 1 by omega] at z;exact .inr (.inr (fA z))
     refine cS<|cS ?_
     rcases Nat.lt_or_ge i lm with hc1|hc1
     rcases Nat.lt_or_ge lm e with hc2|hc2
     ·refine rS hF<|tT 2 (((i:Nat):Int)<((lm:Nat):Int))<|tT 6 (((lm:Nat):Int)<((e:Nat):Int))<|sE [(185,.bool true)] fun a hF=>tK<|cT 185 hF<|rS hF ?_
      refine tG 5 (vi _ ad cap n i lm e L ae hLn (by omega) (by omega) (by omega) (by omega)) ?_
      rintro _ lD ⟨Dw,hM,hP,hx,aq,g⟩
      replace g0:=g0.trans g
      clear ae;have ae:=aq;clear aq g
      have hcut:Cut n la lm lb mid i e L Dw:=⟨hM,hP,hx,hs1,hs2,ham,hlo3,hhi3⟩
      refine sE [] fun a hF=>tK<|cS<|cS ?_
      rcases Nat.lt_or_ge la i with hc1|hc1
      rcases Nat.lt_or_ge i mid with hc2|hc2
      ·refine rS hF<|tT 2 (((la:Nat):Int)<((i:Nat):Int))<|tT 6 (((i:Nat):Int)<((mid:Nat):Int))<|sE [(199,.bool true)] fun a hF=>tK<|cT 199 hF<|rS hF ?_
       refine tG 5 (ih _ la i mid Dw (by omega) ae hcut.len (by omega) (by omega) (by omega) hcut.r1 hcut.r2) ?_
       rintro _ h27 ⟨Lo,hk,aq,g⟩
       replace g0:=g0.trans g
       clear ae;have ae:=aq;clear aq g
       refine sE [] fun a hF=>tK<|cS ?_
       rcases Nat.lt_or_ge mid e with hc1|hc1
       rcases Nat.lt_or_ge e lb with hc2|hc2
       ·refine rS hF<|tT 2 (((mid:Nat):Int)<((e:Nat):Int))<|tT 6 (((e:Nat):Int)<((lb:Nat):Int))<|sE [(213,.bool true)] fun a hF=>tK<|cT 213 hF<|rS hF ?_
        refine tG 5 (ih _ mid e lb Lo (by omega) ae hk.len (by omega) (by omega) (by omega) (hcut.sort hk).1 (hcut.sort hk).2) ?_
        rintro _ GU ⟨PW,hj,aq,g⟩
        replace g0:=g0.trans g
        clear ae;have ae:=aq;clear aq g
        exact sE [] fun a hF=>n0 hF<|⟨PW,hcut.done hk hj,ae,g0⟩
       ·have hj:=hcut.right hk (by omega)
        refine rS hF<|tT 2 (((mid:Nat):Int)<((e:Nat):Int))<|tX 6 (((e:Nat):Int)<((lb:Nat):Int))<|sE [(213,.bool false)] fun a hF=>tK<|cF 213 hF<|cN ?_
        exact n0 hF<|⟨Lo,hcut.done hk hj,ae,g0⟩
       ·have hj:=hcut.right hk (by omega)
        refine rS hF<|tX 2 (((mid:Nat):Int)<((e:Nat):Int))<|sE [(213,.bool false)] fun a hF=>tK<|cF 213 hF<|cN<|n0 hF ?_
        exact⟨Lo,hcut.done hk hj,ae,g0⟩
      ·have hk:=hcut.left (by omega)
       refine rS hF<|tT 2 (((la:Nat):Int)<((i:Nat):Int))<|tX 6 (((i:Nat):Int)<((mid:Nat):Int))<|sE [(199,.bool false)] fun a hF=>tK<|cF 199 hF<|cN ?_
       refine tK<|cS ?_
       rcases Nat.lt_or_ge mid e with hc1|hc1
       rcases Nat.lt_or_ge e lb with hc2|hc2
       ·refine rS hF<|tT 2 (((mid:Nat):Int)<((e:Nat):Int))<|tT 6 (((e:Nat):Int)<((lb:Nat):Int))<|sE [(213,.bool true)] fun a hF=>tK<|cT 213 hF<|rS hF ?_
        refine tG 5 (ih _ mid e lb Dw (by omega) ae hk.len (by omega) (by omega) (by omega) (hcut.sort hk).1 (hcut.sort hk).2) ?_
        rintro _ h31 ⟨PX,hj,aq,g⟩
        replace g0:=g0.trans g
        clear ae;have ae:=aq;clear aq g
        exact sE [] fun a hF=>n0 hF<|⟨PX,hcut.done hk hj,ae,g0⟩
       ·have hj:=hcut.right hk (by omega)
        refine rS hF<|tT 2 (((mid:Nat):Int)<((e:Nat):Int))<|tX 6 (((e:Nat):Int)<((lb:Nat):Int))<|sE [(213,.bool false)] fun a hF=>tK<|cF 213 hF<|cN ?_
        exact n0 hF<|⟨Dw,hcut.done hk hj,ae,g0⟩
       ·have hj:=hcut.right hk (by omega)
        refine rS hF<|tX 2 (((mid:Nat):Int)<((e:Nat):Int))<|sE [(213,.bool false)] fun a hF=>tK<|cF 213 hF<|cN<|n0 hF ?_
        exact⟨Dw,hcut.done hk hj,ae,g0⟩
      ·have hk:=hcut.left (by omega)
       refine rS hF<|tX 2 (((la:Nat):Int)<((i:Nat):Int))<|sE [(199,.bool false)] fun a hF=>tK<|cF 199 hF<|cN<|tK ?_
       refine cS ?_
       rcases Nat.lt_or_ge mid e with hc1|hc1
       rcases Nat.lt_or_ge e lb with hc2|hc2
       ·refine rS hF<|tT 2 (((mid:Nat):Int)<((e:Nat):Int))<|tT 6 (((e:Nat):Int)<((lb:Nat):Int))<|sE [(213,.bool true)] fun a hF=>tK<|cT 213 hF<|rS hF ?_
        refine tG 5 (ih _ mid e lb Dw (by omega) ae hk.len (by omega) (by omega) (by omega) (hcut.sort hk).1 (hcut.sort hk).2) ?_
        rintro _ zc ⟨PY,hj,aq,g⟩
        replace g0:=g0.trans g
        clear ae;have ae:=aq;clear aq g
        exact sE [] fun a hF=>n0 hF<|⟨PY,hcut.done hk hj,ae,g0⟩
       ·have hj:=hcut.right hk (by omega)
        refine rS hF<|tT 2 (((mid:Nat):Int)<((e:Nat):Int))<|tX 6 (((e:Nat):Int)<((lb:Nat):Int))<|sE [(213,.bool false)] fun a hF=>tK<|cF 213 hF<|cN ?_
        exact n0 hF<|⟨Dw,hcut.done hk hj,ae,g0⟩
       ·have hj:=hcut.right hk (by omega)
        refine rS hF<|tX 2 (((mid:Nat):Int)<((e:Nat):Int))<|sE [(213,.bool false)] fun a hF=>tK<|cF 213 hF<|cN<|n0 hF ?_
        exact⟨Dw,hcut.done hk hj,ae,g0⟩
     ·have hcut:Cut n la lm lb mid i e L L:=⟨hLn,List.Perm.refl _,Idx.refl _ (jT (by omega)),hs1,hs2,ham,hlo3,hhi3⟩
      refine rS hF<|tT 2 (((i:Nat):Int)<((lm:Nat):Int))<|tX 6 (((lm:Nat):Int)<((e:Nat):Int))<|sE [(185,.bool false)] fun a hF=>tK<|cF 185 hF<|cN ?_
      refine tK<|cS<|cS ?_
      rcases Nat.lt_or_ge la i with hc1|hc1
      rcases Nat.lt_or_ge i mid with hc2|hc2
      ·refine rS hF<|tT 2 (((la:Nat):Int)<((i:Nat):Int))<|tT 6 (((i:Nat):Int)<((mid:Nat):Int))<|sE [(199,.bool true)] fun a hF=>tK<|cT 199 hF<|rS hF ?_
       refine tG 5 (ih _ la i mid L (by omega) ae hcut.len (by omega) (by omega) (by omega) hcut.r1 hcut.r2) ?_
       rintro _ h35 ⟨Lp,hk,aq,g⟩
       replace g0:=g0.trans g
       clear ae;have ae:=aq;clear aq g
       refine sE [] fun a hF=>tK<|cS ?_
       rcases Nat.lt_or_ge mid e with hc1|hc1
       rcases Nat.lt_or_ge e lb with hc2|hc2
       ·refine rS hF<|tT 2 (((mid:Nat):Int)<((e:Nat):Int))<|tT 6 (((e:Nat):Int)<((lb:Nat):Int))<|sE [(213,.bool true)] fun a hF=>tK<|cT 213 hF<|rS hF ?_
        refine tG 5 (ih _ mid e lb Lp (by omega) ae hk.len (by omega) (by omega) (by omega) (hcut.sort hk).1 (hcut.sort hk).2) ?_
        rintro _ h37 ⟨PZ,hj,aq,g⟩
        replace g0:=g0.trans g
        clear ae;have ae:=aq;clear aq g
        exact sE [] fun a hF=>n0 hF<|⟨PZ,hcut.done hk hj,ae,g0⟩
       ·have hj:=hcut.right hk (by omega)
        refine rS hF<|tT 2 (((mid:Nat):Int)<((e:Nat):Int))<|tX 6 (((e:Nat):Int)<((lb:Nat):Int))<|sE [(213,.bool false)] fun a hF=>tK<|cF 213 hF<|cN ?_
        exact n0 hF<|⟨Lp,hcut.done hk hj,ae,g0⟩
       ·have hj:=hcut.right hk (by omega)
        refine rS hF<|tX 2 (((mid:Nat):Int)<((e:Nat):Int))<|sE [(213,.bool false)] fun a hF=>tK<|cF 213 hF<|cN<|n0 hF ?_
        exact⟨Lp,hcut.done hk hj,ae,g0⟩
      ·have hk:=hcut.left (by omega)
       refine rS hF<|tT 2 (((la:Nat):Int)<((i:Nat):Int))<|tX 6 (((i:Nat):Int)<((mid:Nat):Int))<|sE [(199,.bool false)] fun a hF=>tK<|cF 199 hF<|cN ?_
       refine tK<|cS ?_
       rcases Nat.lt_or_ge mid e with hc1|hc1
       rcases Nat.lt_or_ge e lb with hc2|hc2
       ·refine rS hF<|tT 2 (((mid:Nat):Int)<((e:Nat):Int))<|tT 6 (((e:Nat):Int)<((lb:Nat):Int))<|sE [(213,.bool true)] fun a hF=>tK<|cT 213 hF<|rS hF ?_
        refine tG 5 (ih _ mid e lb L (by omega) ae hk.len (by omega) (by omega) (by omega) (hcut.sort hk).1 (hcut.sort hk).2) ?_
        rintro _ Hv ⟨P0,hj,aq,g⟩
        replace g0:=g0.trans g
        clear ae;have ae:=aq;clear aq g
        exact sE [] fun a hF=>n0 hF<|⟨P0,hcut.done hk hj,ae,g0⟩
       ·have hj:=hcut.right hk (by omega)
        refine rS hF<|tT 2 (((mid:Nat):Int)<((e:Nat):Int))<|tX 6 (((e:Nat):Int)<((lb:Nat):Int))<|sE [(213,.bool false)] fun a hF=>tK<|cF 213 hF<|cN ?_
        exact n0 hF<|⟨L,hcut.done hk hj,ae,g0⟩
       ·have hj:=hcut.right hk (by omega)
        refine rS hF<|tX 2 (((mid:Nat):Int)<((e:Nat):Int))<|sE [(213,.bool false)] fun a hF=>tK<|cF 213 hF<|cN<|n0 hF ?_
        exact⟨L,hcut.done hk hj,ae,g0⟩
      ·have hk:=hcut.left (by omega)
       refine rS hF<|tX 2 (((la:Nat):Int)<((i:Nat):Int))<|sE [(199,.bool false)] fun a hF=>tK<|cF 199 hF<|cN<|tK ?_
       refine cS ?_
       rcases Nat.lt_or_ge mid e with hc1|hc1
       rcases Nat.lt_or_ge e lb with hc2|hc2
       ·refine rS hF<|tT 2 (((mid:Nat):Int)<((e:Nat):Int))<|tT 6 (((e:Nat):Int)<((lb:Nat):Int))<|sE [(213,.bool true)] fun a hF=>tK<|cT 213 hF<|rS hF ?_
        refine tG 5 (ih _ mid e lb L (by omega) ae hk.len (by omega) (by omega) (by omega) (hcut.sort hk).1 (hcut.sort hk).2) ?_
        rintro _ uE ⟨P1,hj,aq,g⟩
        replace g0:=g0.trans g
        clear ae;have ae:=aq;clear aq g
        exact sE [] fun a hF=>n0 hF<|⟨P1,hcut.done hk hj,ae,g0⟩
       ·have hj:=hcut.right hk (by omega)
        refine rS hF<|tT 2 (((mid:Nat):Int)<((e:Nat):Int))<|tX 6 (((e:Nat):Int)<((lb:Nat):Int))<|sE [(213,.bool false)] fun a hF=>tK<|cF 213 hF<|cN ?_
        exact n0 hF<|⟨L,hcut.done hk hj,ae,g0⟩
       ·have hj:=hcut.right hk (by omega)
        refine rS hF<|tX 2 (((mid:Nat):Int)<((e:Nat):Int))<|sE [(213,.bool false)] fun a hF=>tK<|cF 213 hF<|cN<|n0 hF ?_
        exact⟨L,hcut.done hk hj,ae,g0⟩
     ·have hcut:Cut n la lm lb mid i e L L:=⟨hLn,List.Perm.refl _,Idx.refl _ (jT (by omega)),hs1,hs2,ham,hlo3,hhi3⟩
      refine rS hF<|tX 2 (((i:Nat):Int)<((lm:Nat):Int))<|sE [(185,.bool false)] fun a hF=>tK<|cF 185 hF<|cN<|tK ?_
      refine cS<|cS ?_
      rcases Nat.lt_or_ge la i with hc1|hc1
      rcases Nat.lt_or_ge i mid with hc2|hc2
      ·refine rS hF<|tT 2 (((la:Nat):Int)<((i:Nat):Int))<|tT 6 (((i:Nat):Int)<((mid:Nat):Int))<|sE [(199,.bool true)] fun a hF=>tK<|cT 199 hF<|rS hF ?_
       refine tG 5 (ih _ la i mid L (by omega) ae hcut.len (by omega) (by omega) (by omega) hcut.r1 hcut.r2) ?_
       rintro _ h43 ⟨Lq,hk,aq,g⟩
       replace g0:=g0.trans g
       clear ae;have ae:=aq;clear aq g
       refine sE [] fun a hF=>tK<|cS ?_
       rcases Nat.lt_or_ge mid e with hc1|hc1
       rcases Nat.lt_or_ge e lb with hc2|hc2
       ·refine rS hF<|tT 2 (((mid:Nat):Int)<((e:Nat):Int))<|tT 6 (((e:Nat):Int)<((lb:Nat):Int))<|sE [(213,.bool true)] fun a hF=>tK<|cT 213 hF<|rS hF ?_
        refine tG 5 (ih _ mid e lb Lq (by omega) ae hk.len (by omega) (by omega) (by omega) (hcut.sort hk).1 (hcut.sort hk).2) ?_
        rintro _ h45 ⟨P2,hj,aq,g⟩
        replace g0:=g0.trans g
        clear ae;have ae:=aq;clear aq g
        exact sE [] fun a hF=>n0 hF<|⟨P2,hcut.done hk hj,ae,g0⟩
       ·have hj:=hcut.right hk (by omega)
        refine rS hF<|tT 2 (((mid:Nat):Int)<((e:Nat):Int))<|tX 6 (((e:Nat):Int)<((lb:Nat):Int))<|sE [(213,.bool false)] fun a hF=>tK<|cF 213 hF<|cN ?_
        exact n0 hF<|⟨Lq,hcut.done hk hj,ae,g0⟩
       ·have hj:=hcut.right hk (by omega)
        refine rS hF<|tX 2 (((mid:Nat):Int)<((e:Nat):Int))<|sE [(213,.bool false)] fun a hF=>tK<|cF 213 hF<|cN<|n0 hF ?_
        exact⟨Lq,hcut.done hk hj,ae,g0⟩
      ·have hk:=hcut.left (by omega)
       refine rS hF<|tT 2 (((la:Nat):Int)<((i:Nat):Int))<|tX 6 (((i:Nat):Int)<((mid:Nat):Int))<|sE [(199,.bool false)] fun a hF=>tK<|cF 199 hF<|cN ?_
       refine tK<|cS ?_
       rcases Nat.lt_or_ge mid e with hc1|hc1
       rcases Nat.lt_or_ge e lb with hc2|hc2
       ·refine rS hF<|tT 2 (((mid:Nat):Int)<((e:Nat):Int))<|tT 6 (((e:Nat):Int)<((lb:Nat):Int))<|sE [(213,.bool true)] fun a hF=>tK<|cT 213 hF<|rS hF ?_
        refine tG 5 (ih _ mid e lb L (by omega) ae hk.len (by omega) (by omega) (by omega) (hcut.sort hk).1 (hcut.sort hk).2) ?_
        rintro _ h47 ⟨P3,hj,aq,g⟩
        replace g0:=g0.trans g
        clear ae;have ae:=aq;clear aq g
        exact sE [] fun a hF=>n0 hF<|⟨P3,hcut.done hk hj,ae,g0⟩
       ·have hj:=hcut.right hk (by omega)
        refine rS hF<|tT 2 (((mid:Nat):Int)<((e:Nat):Int))<|tX 6 (((e:Nat):Int)<((lb:Nat):Int))<|sE [(213,.bool false)] fun a hF=>tK<|cF 213 hF<|cN ?_
        exact n0 hF<|⟨L,hcut.done hk hj,ae,g0⟩
       ·have hj:=hcut.right hk (by omega)
        refine rS hF<|tX 2 (((mid:Nat):Int)<((e:Nat):Int))<|sE [(213,.bool false)] fun a hF=>tK<|cF 213 hF<|cN<|n0 hF ?_
        exact⟨L,hcut.done hk hj,ae,g0⟩
      ·have hk:=hcut.left (by omega)
       refine rS hF<|tX 2 (((la:Nat):Int)<((i:Nat):Int))<|sE [(199,.bool false)] fun a hF=>tK<|cF 199 hF<|cN<|tK ?_
       refine cS ?_
       rcases Nat.lt_or_ge mid e with hc1|hc1
       rcases Nat.lt_or_ge e lb with hc2|hc2
       ·refine rS hF<|tT 2 (((mid:Nat):Int)<((e:Nat):Int))<|tT 6 (((e:Nat):Int)<((lb:Nat):Int))<|sE [(213,.bool true)] fun a hF=>tK<|cT 213 hF<|rS hF ?_
        refine tG 5 (ih _ mid e lb L (by omega) ae hk.len (by omega) (by omega) (by omega) (hcut.sort hk).1 (hcut.sort hk).2) ?_
        rintro _ FV ⟨P4,hj,aq,g⟩
        replace g0:=g0.trans g
        clear ae;have ae:=aq;clear aq g
        exact sE [] fun a hF=>n0 hF<|⟨P4,hcut.done hk hj,ae,g0⟩
       ·have hj:=hcut.right hk (by omega)
        refine rS hF<|tT 2 (((mid:Nat):Int)<((e:Nat):Int))<|tX 6 (((e:Nat):Int)<((lb:Nat):Int))<|sE [(213,.bool false)] fun a hF=>tK<|cF 213 hF<|cN ?_
        exact n0 hF<|⟨L,hcut.done hk hj,ae,g0⟩
       ·have hj:=hcut.right hk (by omega)
        refine rS hF<|tX 2 (((mid:Nat):Int)<((e:Nat):Int))<|sE [(213,.bool false)] fun a hF=>tK<|cF 213 hF<|cN<|n0 hF ?_
        exact⟨L,hcut.done hk hj,ae,g0⟩
   ·refine qP [(20,nV la)] hF fun a hF=>rP [(21,nV lm)] hF fun a hF=>tK<|qS hF<|tU 1 (mid+lm) 1<|sT [(22,nV ((mid+lm) - 1))] fun a hF=> ?_
    obtain⟨s0,hs0⟩:∃x,la=x:=⟨_,rfl⟩;obtain⟨r0,hr0⟩:∃x,lm=x:=⟨_,rfl⟩
    have hsr:(mid<lm∧s0+lb=mid+lm∧r0=mid)∨(lm≤mid∧s0=la∧r0=lm):=by omega
    have Ln:s0≤r0:=by omega
    refine cS<|cB 8<|cL (fun m a h'=>∃i:Nat,∃j:Nat,m=j - i∧(Grew (ad.map (fun(x:Addr)=>x.block)) h h')∧(s0≤i∧i≤j∧j≤r0)∧(i=s0∨¬eS (L.getD (mid+lm - 1 - (i - 1)) ai) (L.getD (i - 1) ai)<0)∧(j=r0∨eS (L.getD (mid+lm - 1 - (j)) ai) (L.getD (j) ai)<0)∧(Own h' (.slice ad n cap) 95 n 39 (a_ L))∧(Fr a 220 [(0,.slice ad n cap),(1,.int .i64 ((la:Nat):Int)),(2,.int .i64 ((lm:Nat):Int)),(3,.int .i64 ((lb:Nat):Int)),(4,.func (.func 107) #[] #[]),(18,.int .i64 ((mid:Nat):Int)),(19,.int .i64 ((mid+lm:Nat):Int)),(20,.int .i64 ((i:Nat):Int)),(21,.int .i64 ((j:Nat):Int)),(22,.int .i64 (((mid+lm) - 1:Nat):Int))])) (lm - la) ⟨la,lm,rfl,g0,(by omega),(.inl (by omega)),(.inl (by omega)),ae,hF.to⟩ ?_
    clear hF a
    clear g0
    clear ae
    rintro m a h50 ⟨i,j,rfl,g0,hij,hlo,hhi,ae,hF⟩
    refine cS<|qP [(151,.bool (decide (((i:Nat):Int)<((j:Nat):Int))))] hF fun a hF=>cJ 151 hF (fun Lr=> ?_) fun Lr=> ?_
    ·have E8:i<j:=by omega
     obtain⟨aa,rfl,b3⟩:=ae.a6 (by omega)
     refine cN<|tK<|cB 9<|qS hF<|tA 2 i j<|t1 3 (.int .u64 ((i+j:Nat):Int)) (.int .u64 (IntKind.u64.wrap ((i+j:Nat):Int))) (congrArg (Value.int .u64) (nY (by omega)))<|t1 4 (.int .u64 (((i+j)/2^1:Nat):Int)) (.int .u64 (Int.fdiv ((i+j:Nat):Int) (2^1))) (congrArg (Value.int .u64) (bV (i+j) 1)) ?_
     refine t1 5 (.int .i64 (((i+j)/2^1:Nat):Int)) (.int .i64 (IntKind.i64.wrap (((i+j)/2^1:Nat):Int))) (congrArg (Value.int .i64) (qn (by omega) (by omega)))<|sT [(23,nV ((i+j)/2^1))] fun a hF=> ?_
     obtain⟨c,hc⟩:∃x,(i+j)/2^1=x:=⟨_,rfl⟩;rw[hc] at hF
     have hcb:i≤c∧c<j:=by omega
     refine cS<|cD [0,0,0,0,12,30,62,0,0,384,896,2047,4095,8191] 35 mixed hF<|mP 15 [0,1,2,3] [.func (.func 107) #[] #[],.slice (some aa) n cap,nV ((mid+lm) - 1),nV c]<|mU 31 4 ((mid+lm) - 1) c<|mI 63 5 aa n 39 (((mid+lm) - 1) - c) ((((mid+lm) - 1) - c)*39)<|mY 127 64 6 (((mid+lm) - 1) - c) ai bg (ae.row)<|mP 511 [7,8] [.slice (some aa) n cap,nV c] ?_
     refine mI 1023 9 aa n 39 c (c*39)<|mY 2047 1088 10 c ai bg (ae.row)<|jv 4095 4095 11 (Does.call (f:=107) (args:= #[.agg (rcs (L.getD (((mid+lm) - 1) - c) ai)).toArray,.agg (rcs (L.getD c ai)).toArray]) (by kernel_rfl) (ib _ (L.getD (((mid+lm) - 1) - c) ai) (L.getD c ai))) ?_
     rintro _ Gb ⟨rfl,g⟩
     replace g0:=g0.trans (g.but _)
     replace ae:=ae.ext g
     clear g
     refine mP 16383 [12,13] [.bool (decide ((eS (L.getD (((mid+lm) - 1) - c) ai) (L.getD c ai))<(0:Int))),.bool (!(decide ((eS (L.getD (((mid+lm) - 1) - c) ai) (L.getD c ai))<(0:Int))))]<|mE [(171,.bool (!(decide ((eS (L.getD (((mid+lm) - 1) - c) ai) (L.getD c ai))<(0:Int)))))] fun a hF=>tK<|cC 171 (!(decide ((eS (L.getD (((mid+lm) - 1) - c) ai) (L.getD c ai))<(0:Int)))) hF (fun E9=> ?_) (fun E9=> ?_)
     ·have hlo2:c+1=s0∨¬eS (L.getD (mid+lm - 1 - (c+1 - 1)) ai) (L.getD (c+1 - 1) ai)<0:= .inr (by rw[show mid+lm - 1 - (c+1 - 1)=mid+lm - 1 - c by omega];simpa using E9)
      have hhi2:=hhi
      refine rS hF<|tA 1 c 1<|sE [(20,nV (c+1))] fun a hF=>bK ?_
      show ∃m',m'<_∧_
      refine⟨_,?_,c+1,j,rfl,g0,(by omega),hlo2,hhi2,ae,hF.to⟩
      omega
     ·have hhi2:c=r0∨eS (L.getD (mid+lm - 1 - (c)) ai) (L.getD (c) ai)<0:= .inr (by simpa using E9)
      have hlo2:=hlo
      refine rP [(21,nV c)] hF fun a hF=>bK ?_
      show ∃m',m'<_∧_
      refine⟨_,?_,i,c,rfl,g0,(by omega),hlo2,hhi2,ae,hF.to⟩
      omega
    ·obtain rfl:i=j:=by omega
     refine cX 8 (xT (xT (xB ?_)))
     refine tK<|qS hF<|tU 2 (mid+lm) i<|sT [(24,nV ((mid+lm) - i))] fun a hF=> ?_
     obtain⟨e,he⟩:∃x,(mid+lm) - i=x:=⟨_,rfl⟩;rw[he] at hF
     have ham:la≤i∧i≤lm∧lm≤e∧e≤lb∧i≤mid∧mid≤e∧i+e=mid+lm:=by omega
     have hlo3:i=la∨e=lb∨fZ (L.getD (i - 1) ai) (L.getD e ai):=by
      rcases hlo with z|z
      ·omega
      ·by_cases hi0:i=la
       ·exact .inl hi0
       ·rw[show mid+lm - 1 - (i - 1)=e by omega] at z;exact .inr (.inr (dM z))
     have hhi3:i=lm∨i=mid∨fZ (L.getD (e - 1) ai) (L.getD i ai):=by
      rcases hhi with z|z
      ·omega
      ·rw[show mid+lm - 1 - i=e - 1 by omega] at z;exact .inr (.inr (fA z))
     refine cS<|cS ?_
     rcases Nat.lt_or_ge i lm with hc1|hc1
     rcases Nat.lt_or_ge lm e with hc2|hc2
     ·refine rS hF<|tT 2 (((i:Nat):Int)<((lm:Nat):Int))<|tT 6 (((lm:Nat):Int)<((e:Nat):Int))<|sE [(185,.bool true)] fun a hF=>tK<|cT 185 hF<|rS hF ?_
      refine tG 5 (vi _ ad cap n i lm e L ae hLn (by omega) (by omega) (by omega) (by omega)) ?_
      rintro _ E5 ⟨Dx,hM,hP,hx,aq,g⟩
      replace g0:=g0.trans g
      clear ae;have ae:=aq;clear aq g
      have hcut:Cut n la lm lb mid i e L Dx:=⟨hM,hP,hx,hs1,hs2,ham,hlo3,hhi3⟩
      refine sE [] fun a hF=>tK<|cS<|cS ?_
      rcases Nat.lt_or_ge la i with hc1|hc1
      rcases Nat.lt_or_ge i mid with hc2|hc2
      ·refine rS hF<|tT 2 (((la:Nat):Int)<((i:Nat):Int))<|tT 6 (((i:Nat):Int)<((mid:Nat):Int))<|sE [(199,.bool true)] fun a hF=>tK<|cT 199 hF<|rS hF ?_
       refine tG 5 (ih _ la i mid Dx (by omega) ae hcut.len (by omega) (by omega) (by omega) hcut.r1 hcut.r2) ?_
       rintro _ h57 ⟨Ls,hk,aq,g⟩
       replace g0:=g0.trans g
       clear ae;have ae:=aq;clear aq g
       refine sE [] fun a hF=>tK<|cS ?_
       rcases Nat.lt_or_ge mid e with hc1|hc1
       rcases Nat.lt_or_ge e lb with hc2|hc2
       ·refine rS hF<|tT 2 (((mid:Nat):Int)<((e:Nat):Int))<|tT 6 (((e:Nat):Int)<((lb:Nat):Int))<|sE [(213,.bool true)] fun a hF=>tK<|cT 213 hF<|rS hF ?_
        refine tG 5 (ih _ mid e lb Ls (by omega) ae hk.len (by omega) (by omega) (by omega) (hcut.sort hk).1 (hcut.sort hk).2) ?_
        rintro _ NL ⟨P5,hj,aq,g⟩
        replace g0:=g0.trans g
        clear ae;have ae:=aq;clear aq g
        exact sE [] fun a hF=>n0 hF<|⟨P5,hcut.done hk hj,ae,g0⟩
       ·have hj:=hcut.right hk (by omega)
        refine rS hF<|tT 2 (((mid:Nat):Int)<((e:Nat):Int))<|tX 6 (((e:Nat):Int)<((lb:Nat):Int))<|sE [(213,.bool false)] fun a hF=>tK<|cF 213 hF<|cN ?_
        exact n0 hF<|⟨Ls,hcut.done hk hj,ae,g0⟩
       ·have hj:=hcut.right hk (by omega)
        refine rS hF<|tX 2 (((mid:Nat):Int)<((e:Nat):Int))<|sE [(213,.bool false)] fun a hF=>tK<|cF 213 hF<|cN<|n0 hF ?_
        exact⟨Ls,hcut.done hk hj,ae,g0⟩
      ·have hk:=hcut.left (by omega)
       refine rS hF<|tT 2 (((la:Nat):Int)<((i:Nat):Int))<|tX 6 (((i:Nat):Int)<((mid:Nat):Int))<|sE [(199,.bool false)] fun a hF=>tK<|cF 199 hF<|cN ?_
       refine tK<|cS ?_
       rcases Nat.lt_or_ge mid e with hc1|hc1
       rcases Nat.lt_or_ge e lb with hc2|hc2
       ·refine rS hF<|tT 2 (((mid:Nat):Int)<((e:Nat):Int))<|tT 6 (((e:Nat):Int)<((lb:Nat):Int))<|sE [(213,.bool true)] fun a hF=>tK<|cT 213 hF<|rS hF ?_
        refine tG 5 (ih _ mid e lb Dx (by omega) ae hk.len (by omega) (by omega) (by omega) (hcut.sort hk).1 (hcut.sort hk).2) ?_
        rintro _ NM ⟨P6,hj,aq,g⟩
        replace g0:=g0.trans g
        clear ae;have ae:=aq;clear aq g
        exact sE [] fun a hF=>n0 hF<|⟨P6,hcut.done hk hj,ae,g0⟩
       ·have hj:=hcut.right hk (by omega)
        refine rS hF<|tT 2 (((mid:Nat):Int)<((e:Nat):Int))<|tX 6 (((e:Nat):Int)<((lb:Nat):Int))<|sE [(213,.bool false)] fun a hF=>tK<|cF 213 hF<|cN ?_
        exact n0 hF<|⟨Dx,hcut.done hk hj,ae,g0⟩
       ·have hj:=hcut.right hk (by omega)
        refine rS hF<|tX 2 (((mid:Nat):Int)<((e:Nat):Int))<|sE [(213,.bool false)] fun a hF=>tK<|cF 213 hF<|cN<|n0 hF ?_
        exact⟨Dx,hcut.done hk hj,ae,g0⟩
      ·have hk:=hcut.left (by omega)
       refine rS hF<|tX 2 (((la:Nat):Int)<((i:Nat):Int))<|sE [(199,.bool false)] fun a hF=>tK<|cF 199 hF<|cN<|tK ?_
       refine cS ?_
       rcases Nat.lt_or_ge mid e with hc1|hc1
       rcases Nat.lt_or_ge e lb with hc2|hc2
       ·refine rS hF<|tT 2 (((mid:Nat):Int)<((e:Nat):Int))<|tT 6 (((e:Nat):Int)<((lb:Nat):Int))<|sE [(213,.bool true)] fun a hF=>tK<|cT 213 hF<|rS hF ?_
        refine tG 5 (ih _ mid e lb Dx (by omega) ae hk.len (by omega) (by omega) (by omega) (hcut.sort hk).1 (hcut.sort hk).2) ?_
        rintro _ h63 ⟨P7,hj,aq,g⟩
        replace g0:=g0.trans g
        clear ae;have ae:=aq;clear aq g
        exact sE [] fun a hF=>n0 hF<|⟨P7,hcut.done hk hj,ae,g0⟩
       ·have hj:=hcut.right hk (by omega)
        refine rS hF<|tT 2 (((mid:Nat):Int)<((e:Nat):Int))<|tX 6 (((e:Nat):Int)<((lb:Nat):Int))<|sE [(213,.bool false)] fun a hF=>tK<|cF 213 hF<|cN ?_
        exact n0 hF<|⟨Dx,hcut.done hk hj,ae,g0⟩
       ·have hj:=hcut.right hk (by omega)
        refine rS hF<|tX 2 (((mid:Nat):Int)<((e:Nat):Int))<|sE [(213,.bool false)] fun a hF=>tK<|cF 213 hF<|cN<|n0 hF ?_
        exact⟨Dx,hcut.done hk hj,ae,g0⟩
     ·have hcut:Cut n la lm lb mid i e L L:=⟨hLn,List.Perm.refl _,Idx.refl _ (jT (by omega)),hs1,hs2,ham,hlo3,hhi3⟩
      refine rS hF<|tT 2 (((i:Nat):Int)<((lm:Nat):Int))<|tX 6 (((lm:Nat):Int)<((e:Nat):Int))<|sE [(185,.bool false)] fun a hF=>tK<|cF 185 hF<|cN ?_
      refine tK<|cS<|cS ?_
      rcases Nat.lt_or_ge la i with hc1|hc1
      rcases Nat.lt_or_ge i mid with hc2|hc2
      ·refine rS hF<|tT 2 (((la:Nat):Int)<((i:Nat):Int))<|tT 6 (((i:Nat):Int)<((mid:Nat):Int))<|sE [(199,.bool true)] fun a hF=>tK<|cT 199 hF<|rS hF ?_
       refine tG 5 (ih _ la i mid L (by omega) ae hcut.len (by omega) (by omega) (by omega) hcut.r1 hcut.r2) ?_
       rintro _ h65 ⟨fM,hk,aq,g⟩
       replace g0:=g0.trans g
       clear ae;have ae:=aq;clear aq g
       refine sE [] fun a hF=>tK<|cS ?_
       rcases Nat.lt_or_ge mid e with hc1|hc1
       rcases Nat.lt_or_ge e lb with hc2|hc2
       ·refine rS hF<|tT 2 (((mid:Nat):Int)<((e:Nat):Int))<|tT 6 (((e:Nat):Int)<((lb:Nat):Int))<|sE [(213,.bool true)] fun a hF=>tK<|cT 213 hF<|rS hF ?_
        refine tG 5 (ih _ mid e lb fM (by omega) ae hk.len (by omega) (by omega) (by omega) (hcut.sort hk).1 (hcut.sort hk).2) ?_
        rintro _ KV ⟨P8,hj,aq,g⟩
        replace g0:=g0.trans g
        clear ae;have ae:=aq;clear aq g
        exact sE [] fun a hF=>n0 hF<|⟨P8,hcut.done hk hj,ae,g0⟩
       ·have hj:=hcut.right hk (by omega)
        refine rS hF<|tT 2 (((mid:Nat):Int)<((e:Nat):Int))<|tX 6 (((e:Nat):Int)<((lb:Nat):Int))<|sE [(213,.bool false)] fun a hF=>tK<|cF 213 hF<|cN ?_
        exact n0 hF<|⟨fM,hcut.done hk hj,ae,g0⟩
       ·have hj:=hcut.right hk (by omega)
        refine rS hF<|tX 2 (((mid:Nat):Int)<((e:Nat):Int))<|sE [(213,.bool false)] fun a hF=>tK<|cF 213 hF<|cN<|n0 hF ?_
        exact⟨fM,hcut.done hk hj,ae,g0⟩
      ·have hk:=hcut.left (by omega)
       refine rS hF<|tT 2 (((la:Nat):Int)<((i:Nat):Int))<|tX 6 (((i:Nat):Int)<((mid:Nat):Int))<|sE [(199,.bool false)] fun a hF=>tK<|cF 199 hF<|cN ?_
       refine tK<|cS ?_
       rcases Nat.lt_or_ge mid e with hc1|hc1
       rcases Nat.lt_or_ge e lb with hc2|hc2
       ·refine rS hF<|tT 2 (((mid:Nat):Int)<((e:Nat):Int))<|tT 6 (((e:Nat):Int)<((lb:Nat):Int))<|sE [(213,.bool true)] fun a hF=>tK<|cT 213 hF<|rS hF ?_
        refine tG 5 (ih _ mid e lb L (by omega) ae hk.len (by omega) (by omega) (by omega) (hcut.sort hk).1 (hcut.sort hk).2) ?_
        rintro _ EH ⟨P9,hj,aq,g⟩
        replace g0:=g0.trans g
        clear ae;have ae:=aq;clear aq g
        exact sE [] fun a hF=>n0 hF<|⟨P9,hcut.done hk hj,ae,g0⟩
       ·have hj:=hcut.right hk (by omega)
        refine rS hF<|tT 2 (((mid:Nat):Int)<((e:Nat):Int))<|tX 6 (((e:Nat):Int)<((lb:Nat):Int))<|sE [(213,.bool false)] fun a hF=>tK<|cF 213 hF<|cN ?_
        exact n0 hF<|⟨L,hcut.done hk hj,ae,g0⟩
       ·have hj:=hcut.right hk (by omega)
        refine rS hF<|tX 2 (((mid:Nat):Int)<((e:Nat):Int))<|sE [(213,.bool false)] fun a hF=>tK<|cF 213 hF<|cN<|n0 hF ?_
        exact⟨L,hcut.done hk hj,ae,g0⟩
      ·have hk:=hcut.left (by omega)
       refine rS hF<|tX 2 (((la:Nat):Int)<((i:Nat):Int))<|sE [(199,.bool false)] fun a hF=>tK<|cF 199 hF<|cN<|tK ?_
       refine cS ?_
       rcases Nat.lt_or_ge mid e with hc1|hc1
       rcases Nat.lt_or_ge e lb with hc2|hc2
       ·refine rS hF<|tT 2 (((mid:Nat):Int)<((e:Nat):Int))<|tT 6 (((e:Nat):Int)<((lb:Nat):Int))<|sE [(213,.bool true)] fun a hF=>tK<|cT 213 hF<|rS hF ?_
        refine tG 5 (ih _ mid e lb L (by omega) ae hk.len (by omega) (by omega) (by omega) (hcut.sort hk).1 (hcut.sort hk).2) ?_
        rintro _ KW ⟨P_,hj,aq,g⟩
        replace g0:=g0.trans g
        clear ae;have ae:=aq;clear aq g
        exact sE [] fun a hF=>n0 hF<|⟨P_,hcut.done hk hj,ae,g0⟩
       ·have hj:=hcut.right hk (by omega)
        refine rS hF<|tT 2 (((mid:Nat):Int)<((e:Nat):Int))<|tX 6 (((e:Nat):Int)<((lb:Nat):Int))<|sE [(213,.bool false)] fun a hF=>tK<|cF 213 hF<|cN ?_
        exact n0 hF<|⟨L,hcut.done hk hj,ae,g0⟩
       ·have hj:=hcut.right hk (by omega)
        refine rS hF<|tX 2 (((mid:Nat):Int)<((e:Nat):Int))<|sE [(213,.bool false)] fun a hF=>tK<|cF 213 hF<|cN<|n0 hF ?_
        exact⟨L,hcut.done hk hj,ae,g0⟩
     ·have hcut:Cut n la lm lb mid i e L L:=⟨hLn,List.Perm.refl _,Idx.refl _ (jT (by omega)),hs1,hs2,ham,hlo3,hhi3⟩
      refine rS hF<|tX 2 (((i:Nat):Int)<((lm:Nat):Int))<|sE [(185,.bool false)] fun a hF=>tK<|cF 185 hF<|cN<|tK ?_
      refine cS<|cS ?_
      rcases Nat.lt_or_ge la i with hc1|hc1
      rcases Nat.lt_or_ge i mid with hc2|hc2
      ·refine rS hF<|tT 2 (((la:Nat):Int)<((i:Nat):Int))<|tT 6 (((i:Nat):Int)<((mid:Nat):Int))<|sE [(199,.bool true)] fun a hF=>tK<|cT 199 hF<|rS hF ?_
       refine tG 5 (ih _ la i mid L (by omega) ae hcut.len (by omega) (by omega) (by omega) hcut.r1 hcut.r2) ?_
       rintro _ Dc ⟨Lt,hk,aq,g⟩
       replace g0:=g0.trans g
       clear ae;have ae:=aq;clear aq g
       refine sE [] fun a hF=>tK<|cS ?_
       rcases Nat.lt_or_ge mid e with hc1|hc1
       rcases Nat.lt_or_ge e lb with hc2|hc2
       ·refine rS hF<|tT 2 (((mid:Nat):Int)<((e:Nat):Int))<|tT 6 (((e:Nat):Int)<((lb:Nat):Int))<|sE [(213,.bool true)] fun a hF=>tK<|cT 213 hF<|rS hF ?_
        refine tG 5 (ih _ mid e lb Lt (by omega) ae hk.len (by omega) (by omega) (by omega) (hcut.sort hk).1 (hcut.sort hk).2) ?_
        rintro _ Cq ⟨P',hj,aq,g⟩
        replace g0:=g0.trans g
        clear ae;have ae:=aq;clear aq g
        exact sE [] fun a hF=>n0 hF<|⟨P',hcut.done hk hj,ae,g0⟩
       ·have hj:=hcut.right hk (by omega)
        refine rS hF<|tT 2 (((mid:Nat):Int)<((e:Nat):Int))<|tX 6 (((e:Nat):Int)<((lb:Nat):Int))<|sE [(213,.bool false)] fun a hF=>tK<|cF 213 hF<|cN ?_
        exact n0 hF<|⟨Lt,hcut.done hk hj,ae,g0⟩
       ·have hj:=hcut.right hk (by omega)
        refine rS hF<|tX 2 (((mid:Nat):Int)<((e:Nat):Int))<|sE [(213,.bool false)] fun a hF=>tK<|cF 213 hF<|cN<|n0 hF ?_
        exact⟨Lt,hcut.done hk hj,ae,g0⟩
      ·have hk:=hcut.left (by omega)
       refine rS hF<|tT 2 (((la:Nat):Int)<((i:Nat):Int))<|tX 6 (((i:Nat):Int)<((mid:Nat):Int))<|sE [(199,.bool false)] fun a hF=>tK<|cF 199 hF<|cN ?_
       refine tK<|cS ?_
       rcases Nat.lt_or_ge mid e with hc1|hc1
       rcases Nat.lt_or_ge e lb with hc2|hc2
       ·refine rS hF<|tT 2 (((mid:Nat):Int)<((e:Nat):Int))<|tT 6 (((e:Nat):Int)<((lb:Nat):Int))<|sE [(213,.bool true)] fun a hF=>tK<|cT 213 hF<|rS hF ?_
        refine tG 5 (ih _ mid e lb L (by omega) ae hk.len (by omega) (by omega) (by omega) (hcut.sort hk).1 (hcut.sort hk).2) ?_
        rintro _ Qa ⟨Qb,hj,aq,g⟩
        replace g0:=g0.trans g
        clear ae;have ae:=aq;clear aq g
        exact sE [] fun a hF=>n0 hF<|⟨Qb,hcut.done hk hj,ae,g0⟩
       ·have hj:=hcut.right hk (by omega)
        refine rS hF<|tT 2 (((mid:Nat):Int)<((e:Nat):Int))<|tX 6 (((e:Nat):Int)<((lb:Nat):Int))<|sE [(213,.bool false)] fun a hF=>tK<|cF 213 hF<|cN ?_
        exact n0 hF<|⟨L,hcut.done hk hj,ae,g0⟩
       ·have hj:=hcut.right hk (by omega)
        refine rS hF<|tX 2 (((mid:Nat):Int)<((e:Nat):Int))<|sE [(213,.bool false)] fun a hF=>tK<|cF 213 hF<|cN<|n0 hF ?_
        exact⟨L,hcut.done hk hj,ae,g0⟩
      ·have hk:=hcut.left (by omega)
       refine rS hF<|tX 2 (((la:Nat):Int)<((i:Nat):Int))<|sE [(199,.bool false)] fun a hF=>tK<|cF 199 hF<|cN<|tK ?_
       refine cS ?_
       rcases Nat.lt_or_ge mid e with hc1|hc1
       rcases Nat.lt_or_ge e lb with hc2|hc2
       ·refine rS hF<|tT 2 (((mid:Nat):Int)<((e:Nat):Int))<|tT 6 (((e:Nat):Int)<((lb:Nat):Int))<|sE [(213,.bool true)] fun a hF=>tK<|cT 213 hF<|rS hF ?_
        refine tG 5 (ih _ mid e lb L (by omega) ae hk.len (by omega) (by omega) (by omega) (hcut.sort hk).1 (hcut.sort hk).2) ?_
        rintro _ h79 ⟨Qc,hj,aq,g⟩
        replace g0:=g0.trans g
        clear ae;have ae:=aq;clear aq g
        exact sE [] fun a hF=>n0 hF<|⟨Qc,hcut.done hk hj,ae,g0⟩
       ·have hj:=hcut.right hk (by omega)
        refine rS hF<|tT 2 (((mid:Nat):Int)<((e:Nat):Int))<|tX 6 (((e:Nat):Int)<((lb:Nat):Int))<|sE [(213,.bool false)] fun a hF=>tK<|cF 213 hF<|cN ?_
        exact n0 hF<|⟨L,hcut.done hk hj,ae,g0⟩
       ·have hj:=hcut.right hk (by omega)
        refine rS hF<|tX 2 (((mid:Nat):Int)<((e:Nat):Int))<|sE [(213,.bool false)] fun a hF=>tK<|cF 213 hF<|cN<|n0 hF ?_
        exact⟨L,hcut.done hk hj,ae,g0⟩
theorem vj(ad:Option Addr)(cap n:Nat)(hn:n≤1099511627776):∀(k:Nat),∀(h:Heap) (a m b:Nat) (L:List Rec),b - a≤k→Own h (.slice ad n cap) 95 n 39 (a_ L)→L.length =n→a<m→m<b→b≤n→bA L a m→bA L m b→Sat Tryz.prog 140 #[.slice ad n cap,.int .i64 ((a:Nat):Int),.int .i64 ((m:Nat):Int),.int .i64 ((b:Nat):Int),.func (.func 107) #[] #[]] h fun _ h'=>∃M,qL n a b L M∧Own h' (.slice ad n cap) 95 n 39 (a_ M)∧Grew (ad.map (fun(x:Addr)=>x.block)) h h'
 |0,_,_,_,_,_,hk,_,_,h1,h2,_,_,_=>by omega
 |k+1,h,a,m,b,L,hk,o,hL,h1,h2,h3,h4,h5=>zM h ad cap n a m b L o hL h1 h2 h3 hn h4 h5 fun h a' m' b' L hlt=>vj ad cap n hn k h a' m' b' L (by omega)
theorem vk(ad:Option Addr)(cap n:Nat)(hn:n≤1099511627776):∀(h:Heap) (a m b:Nat) (L:List Rec),Own h (.slice ad n cap) 95 n 39 (a_ L)→L.length =n→a<m→m<b→b≤n→bA L a m→bA L m b→Sat Tryz.prog 140 #[.slice ad n cap,.int .i64 ((a:Nat):Int),.int .i64 ((m:Nat):Int),.int .i64 ((b:Nat):Int),.func (.func 107) #[] #[]] h fun _ h'=>∃M,qL n a b L M∧Own h' (.slice ad n cap) 95 n 39 (a_ M)∧Grew (ad.map (fun(x:Addr)=>x.block)) h h':=fun h a m b L=>vj ad cap n hn (b - a) h a m b L (Nat.le_refl _)
end Go.Proofs.YtegkejcglfgpmaaGreatDoor
end
section
namespace Go.Proofs.YtegkejcglfgpmaaGreatDoor
open Go Go.an Go.aT
noncomputable def NN:Code:=Tryz.f123.body.getD .skip
set_option maxHeartbeats 2000000 in
theorem tv(h:Heap)(ad:Option Addr)(cap n:Nat)(L:List Rec)(ae:Own h (.slice ad n cap) 95 n 39 (a_ L))(hLn:L.length =n)(hn:n≤1099511627776):Sat Tryz.prog 123 #[.slice ad n cap,.int .i64 ((n:Nat):Int),.func (.func 107) #[] #[]] h fun _ h'=>∃M,M.length =n∧M.Perm L∧bA M 0 n∧Own h' (.slice ad n cap) 95 n 39 (a_ M)∧Grew (ad.map (fun(x:Addr)=>x.block)) h h':=by
 have g0:=Grew.refl (ad.map (fun(x:Addr)=>x.block)) h
 refine ak Tryz.func123 63 fun a hF=>qP [(6,.int .i64 20)] hF fun a hF=>qP [(7,.int .i64 0),(8,.int .i64 20)] hF fun a hF=>cS<|cB 0<|cL (fun m a h'=>∃a1:Nat,∃M:List Rec,m=n - a1∧(Grew (ad.map (fun(x:Addr)=>x.block)) h h')∧(∃t,a1=t*20)∧(a1≤n)∧(M.length =n)∧(M.Perm L)∧(nQ M 20 0 a1)∧(Own h' (.slice ad n cap) 95 n 39 (a_ M))∧(Fr a 63 [(0,.slice ad n cap),(1,.int .i64 ((n:Nat):Int)),(2,.func (.func 107) #[] #[]),(6,.int .i64 20),(7,.int .i64 ((a1:Nat):Int)),(8,.int .i64 ((a1+20:Nat):Int))])) (n - 0) ⟨0,L,rfl,g0,⟨0,rfl⟩,(by omega),hLn,(List.Perm.refl _),(nQ.nil _ _ _),ae,hF.to⟩ ?_
 clear hF a
 clear g0
 clear hLn
 clear ae
 rintro m a h1 ⟨a1,M,rfl,g0,hat,han,hM,hP,hblk,ae,hF⟩
 obtain⟨t,ht⟩:=hat
 refine cS<|qP [(13,.bool (decide (((a1+20:Nat):Int)≤((n:Nat):Int))))] hF fun a hF=>cJ 13 hF (fun hc2=> ?_) fun hc2=> ?_
 ·refine cN<|tK<|cB 1<|qS hF<|tG 4 (vh _ ad cap n a1 (a1+20) M ae hM (by omega) (by omega) (by omega)) ?_
  rintro _ h4 ⟨K3,hM2,hP2,hout,hs,aq,g⟩
  replace g0:=g0.trans g
  clear ae;have ae:=aq;clear aq g
  replace hP:=hP2.trans hP;replace hM:=hM2;replace hblk:=hblk.more ht hout hs (by omega);clear hP2 hM2 hout hs
  refine sT [] fun a hF=>qP [(7,nV (a1+20))] hF fun a hF=>rS hF<|tA 2 (a1+20) 20<|sE [(8,nV ((a1+20)+20))] fun a hF=>bK ?_
  show ∃m',m'<_∧_
  refine⟨_,?_,(a1+20),K3,rfl,g0,⟨t+1,by omega⟩,(by omega),hM,hP,hblk,ae,hF.to⟩
  omega
 ·refine cX 0 (xT (xT (xB ?_)))
  refine tK<|qS hF<|tG 4 (vh _ ad cap n a1 (n) M ae hM (by omega) (by omega) (by omega)) ?_
  rintro _ h6 ⟨K5,hM2,hP2,hout,hs,aq,g⟩
  replace g0:=g0.trans g
  clear ae;have ae:=aq;clear aq g
  replace hP:=hP2.trans hP;replace hM:=hM2;replace hblk:=hblk.more ht hout hs (by omega);clear hP2 hM2 hout hs
  refine sT [] fun a hF=>cB 2<|cL (fun m a h'=>∃s:Nat,∃M:List Rec,m=n - s∧(Grew (ad.map (fun(x:Addr)=>x.block)) h h')∧(20≤s)∧(M.length =n)∧(M.Perm L)∧(nQ M s 0 n)∧(Own h' (.slice ad n cap) 95 n 39 (a_ M))∧(Fr a 63 [(0,.slice ad n cap),(1,.int .i64 ((n:Nat):Int)),(2,.func (.func 107) #[] #[]),(6,.int .i64 ((s:Nat):Int))])) (n - 20) ⟨20,K5,rfl,g0,(by omega),hM,hP,hblk,ae,hF.to⟩ ?_
  clear hF a
  clear g0
  clear hM
  clear hP
  clear hblk
  clear ae
  rintro m a h7 ⟨s,M,rfl,g0,Qd,hM,hP,hblk,ae,hF⟩
  refine cS<|qP [(30,.bool (decide (((s:Nat):Int)<((n:Nat):Int))))] hF fun a hF=>cJ 30 hF (fun hc8=> ?_) fun hc8=> ?_
  ·refine cN<|tK<|cB 3<|qS hF<|t1 1 (.int .i64 ((2*s:Nat):Int)) (.int .i64 (IntKind.i64.wrap (2*((s:Nat):Int)))) (congrArg (Value.int .i64) (gI (by omega) (by omega) (by omega)))<|sT [(7,.int .i64 0),(8,nV (2*s))] fun a hF=>cS ?_
   refine cB 4 ?_
   have hz:2*s=0+2*s:=(Nat.zero_add _).symm;rw[hz] at hF
   refine cL (fun m a h'=>∃a1:Nat,∃M:List Rec,m=n+2*s - a1∧(Grew (ad.map (fun(x:Addr)=>x.block)) h h')∧(∃t,a1=t*(2*s))∧(a1≤n)∧(M.length =n)∧(M.Perm L)∧(nQ M (2*s) 0 a1)∧(nQ M s a1 n)∧(Own h' (.slice ad n cap) 95 n 39 (a_ M))∧(Fr a 63 [(0,.slice ad n cap),(1,.int .i64 ((n:Nat):Int)),(2,.func (.func 107) #[] #[]),(6,.int .i64 ((s:Nat):Int)),(7,.int .i64 ((a1:Nat):Int)),(8,.int .i64 ((a1+2*s:Nat):Int))])) (n+2*s - 0) ⟨0,M,rfl,g0,⟨0,by rw[Nat.zero_mul]⟩,(by omega),hM,hP,(nQ.nil _ _ _),hblk,ae,hF.to⟩ ?_
   clear hF a
   clear g0
   clear hM
   clear hP
   clear hblk
   clear ae
   rintro m a h9 ⟨a1,M,rfl,g0,hat,han,hM,hP,hd,hr,ae,hF⟩
   obtain⟨t,ht⟩:=hat
   refine cS<|qP [(35,.bool (decide (((a1+2*s:Nat):Int)≤((n:Nat):Int))))] hF fun a hF=>cJ 35 hF (fun nv=> ?_) fun nv=> ?_
   ·refine cN<|tK<|cB 5<|qS hF<|tA 4 a1 s ?_
    obtain⟨hr1,hr2⟩:=hr.two (c:=a1+2*s) ht (by omega) (by omega) (by omega)
    refine tG 7 (vk ad cap n hn _ a1 (a1+s) (a1+2*s) M ae hM (by omega) (by omega) (by omega) hr1 hr2) ?_
    rintro _ h12 ⟨Qe,hm,aq,g⟩
    replace g0:=g0.trans g
    clear ae;have ae:=aq;clear aq g
    replace hP:=hm.perm.trans hP;replace hM:=hm.len;clear hr1 hr2
    replace hd:=hd.more ht hm.out hm.fq (by omega);replace hr:=hr.rest (by omega) hm.out;clear hm
    refine sT [] fun a hF=>qP [(7,nV (a1+2*s))] hF fun a hF=>rS hF<|t1 2 (.int .i64 ((2*s:Nat):Int)) (.int .i64 (IntKind.i64.wrap (2*((s:Nat):Int)))) (congrArg (Value.int .i64) (gI (by omega) (by omega) (by omega)))<|tA 3 (a1+2*s) (2*s)<|sE [(8,nV ((a1+2*s)+(2*s)))] fun a hF=>bK ?_
    show ∃m',m'<_∧_
    refine⟨_,?_,(a1+2*s),Qe,rfl,g0,⟨t+1,by rw[ht,Nat.add_mul,Nat.one_mul]⟩,(by omega),hM,hP,hd,hr,ae,hF.to⟩
    omega
   ·refine cX 4 (xT (xT (xB ?_)))
    refine tK<|cS<|qS hF<|tA 2 a1 s<|sT [(9,nV (a1+s))] fun a hF=>qP [(54,.bool (decide (((a1+s:Nat):Int)<((n:Nat):Int))))] hF fun a hF=>cJ 54 hF (fun hc13=> ?_) fun hc13=> ?_
    ·refine rS hF ?_
     obtain⟨hr1,hr2⟩:=hr.two (c:=n) ht (by omega) (by omega) (by omega)
     refine tG 5 (vk ad cap n hn _ a1 (a1+s) (n) M ae hM (by omega) (by omega) (by omega) hr1 hr2) ?_
     rintro _ h15 ⟨Qf,hm,aq,g⟩
     replace g0:=g0.trans g
     clear ae;have ae:=aq;clear aq g
     replace hP:=hm.perm.trans hP;replace hM:=hm.len;clear hr1 hr2
     have hblk2:=hd.more ht hm.out hm.fq (by omega)
     refine sE [] fun a hF=>tK<|rS hF<|t1 1 (.int .i64 ((s*2:Nat):Int)) (.int .i64 (IntKind.i64.wrap (((s:Nat):Int)*2))) (congrArg (Value.int .i64) (gI (by omega) (by omega) (by omega)))<|sE [(6,nV (s*2))] fun a hF=>bK ?_
     show ∃m',m'<_∧_
     refine⟨_,?_,(s*2),Qf,rfl,g0,(by omega),hM,hP,(Nat.mul_comm 2 s▸hblk2),ae,hF.to⟩
     omega
    ·have hblk2:=hd.more (c:=n) ht (fun _ _=>rfl) (hr.one ht (by omega)) (by omega)
     refine cN<|tK<|rS hF<|t1 1 (.int .i64 ((s*2:Nat):Int)) (.int .i64 (IntKind.i64.wrap (((s:Nat):Int)*2))) (congrArg (Value.int .i64) (gI (by omega) (by omega) (by omega)))<|sE [(6,nV (s*2))] fun a hF=>bK ?_
     show ∃m',m'<_∧_
     refine⟨_,?_,(s*2),M,rfl,g0,(by omega),hM,hP,(Nat.mul_comm 2 s▸hblk2),ae,hF.to⟩
     omega
  ·refine cX 2 (xT (xT (xB ?_)))
   exact n0 hF<|⟨M,hM,hP,hblk.all (by omega),ae,g0⟩
noncomputable def NO:Code:=Tryz.f106.body.getD .skip
theorem zN(h:Heap)(ad:Option Addr)(cap n:Nat)(L:List Rec)(ae:Own h (.slice ad n cap) 95 n 39 (a_ L))(hLn:L.length =n)(hn:n≤1099511627776):Sat Tryz.prog 106 #[.slice ad n cap,.func (.func 107) #[] #[]] h fun _ h'=>∃M,M.length =n∧M.Perm L∧bA M 0 n∧Own h' (.slice ad n cap) 95 n 39 (a_ M)∧Grew (ad.map (fun(x:Addr)=>x.block)) h h':=by
 refine ak Tryz.func106 9 fun a hF=>rS hF<|tG 4 (tv _ ad cap n L ae hLn hn) ?_
 rintro _ h1 ⟨M,hM,hP,hs,aq,g0⟩
 exact sE [] fun a hF=>n0 hF<|⟨M,hM,hP,hs,aq,g0⟩
theorem wG:Sorts Tryz.prog 106 (.func (.func 107) #[] #[]) 95 1099511627776:=fun h ad cap n L o hL hn _=>zN h ad cap n L o hL hn
end Go.Proofs.YtegkejcglfgpmaaGreatDoor
end
section
namespace Go.Proofs.YtegkejcglfgpmaaGreatDoor
open Go Go.an Go.aT
theorem del_any(h:Heap)(r:Rec)(now:Int)(ok:oP h r):Sat Tryz.prog 70 #[.agg (rcs r).toArray,.int .i64 now] h fun v h'=>∃(w:Rec) (z:Int),v= .tuple #[.agg (rcs w).toArray,.int .i64 z]∧(z=0↔qK now r)∧Ext h h':=by
 obtain⟨P,hP,hr,hn⟩:=ok
 obtain⟨x,e,ho,go,ad,n,cap⟩:=r
 simp only at hP hr hn
 subst hP
 cases go with
 |true=>exact(rm h x e ho P ad cap now).mono fun v h' ⟨e1,g⟩=>⟨ai,213,e1,by simp[qK],g⟩
 | false =>
  cases ho with
  |true=>exact(rn h x e P ad cap now).mono fun v h' ⟨e1,g⟩=>⟨ai,214,e1,by simp[qK],g⟩
  |false=>
   by_cases hu:e≤now
   ·exact(zD h x e P ad cap hr hn now hu).mono fun v h' ⟨e1,g⟩=>⟨⟨x,e,false,true,none,0,0⟩,0,e1,by simp[qK,hu],g⟩
   ·exact(rp h x e P ad cap now (by omega)).mono fun v h' ⟨e1,g⟩=>⟨ai,214,e1,by simp[qK,hu],g⟩
noncomputable def b72:Code:=Tryz.f72.body.getD .skip
set_option maxHeartbeats 1000000 in
theorem Cr(h:Heap)(L:List Rec)(va:Option Addr)(vc:Nat)(now:Int)(K:Nat)(hsort:Sorts Tryz.prog 106 (.func (.func 107) #[] #[]) 95 K)(hr:Row h (.slice va L.length vc) L.length 39 (a_ L))(hL:L.length ≤1099511627776)(hok:∀r∈L,oP h r)(hK:(L.filter (dE now)).length ≤K):Sat Tryz.prog 72 #[.slice va L.length vc,.int .i64 now] h fun v h'=>∃(M:List Rec) (ad:Option Addr) (cap:Nat),M.Perm (L.filter (dE now))∧bA M 0 M.length ∧v= .slice ad M.length cap∧Own h' (.slice ad M.length cap) 9 M.length 1 ((ids M).map Value.string)∧(∀k,ad.map (fun(x:Addr)=>x.block)=some k→h.size ≤k)∧Ext h h':=by
 have e0:=Ext.refl h
 have sep:Sep h.size h.size []:=Sep.nil _ _
 refine ak Tryz.func72 50 fun a hF=>qP [] hF fun a hF=>qP [(5,.slice none 0 0)] hF fun a hF=>cS<|qP [(13,.slice va L.length vc),(14,nV L.length),(15,.int .i64 0)] hF fun a hF=>cB 0 ?_
 have af:Own h (.slice none 0 0) 95 0 39 (a_ []):=Own.nil _ _ _
 have hlo:=e0.size
 replace sep:=sep.none hlo;clear hlo
 refine cL (fun m a h'=>∃i:Nat,∃D:List Rec,∃ad:Option Addr,∃cap:Nat,m=L.length - i∧(Ext h h')∧(i≤L.length)∧((L.take i).filter (dE now)=D)∧(Own h' (.slice ad D.length cap) 95 D.length 39 (a_ D))∧(Sep h.size h'.size [ad.map (·.block)])∧(Fr a 50 [(1,.int .i64 now),(5,.slice ad D.length cap),(13,.slice va L.length vc),(14,.int .i64 ((L.length :Nat):Int)),(15,.int .i64 ((i:Nat):Int))])) (L.length - 0) ⟨0,[],none,0,rfl,e0,(by omega),rfl,af,sep,hF.to⟩ ?_
 clear hF a
 clear e0
 clear af
 clear sep
 rintro m a h1 ⟨i,D,ad,cap,rfl,e0,hi,hD,af,sep,hF⟩
 refine qP [(16,.bool (decide (((i:Nat):Int)<((L.length :Nat):Int))))] hF fun a hF=>cS<|cJ 16 hF (fun hc2=> ?_) fun hc2=> ?_
 ·have hia:i<L.length :=by omega
  have hDl:=pG hD
  obtain⟨aa,rfl,b3⟩:=hr.a6 (by omega)
  refine cN<|tK<|cS<|cB 1<|qS hF<|tI 0 aa L.length 39 i (i*39)<|tY 1 i ai bg (hr.ext e0) ?_
  refine tN 2 (pV h1.size) ((rc aC (0:Int) false false (.slice none 0 0)).toArray) 95 fun h3 g4 m5=> ?_
  replace sep:=sep.nw e0.size m5
  refine bG 3 (rcs (L.getD i ai)) m5 fun h6 g7 zq=> ?_
  replace m5:=zq
  refine sT [(7,pV h1.size)] fun a hF=>qS hF<|tO 1 35 m5<|sT [(21,.bool (decide ((0:Int)<((L.getD i ai).e))))] fun a hF=>cJ 21 hF (fun hc8=> ?_) fun hc8=> ?_
  ·have hpos:=hc8
   refine qS hF<|tR 0 m5 ?_
   replace e0:=(e0.ext g4).grew g7 (sep.l 0)
   refine tG 2 (del_any _ (L.getD i ai) now ((hok _ (getD_mem hia)).ext e0)) ?_
   rintro _ h9 ⟨w,z,rfl,hz,g⟩
   replace af:=(af.ext g4).k g7 (sep.ap 1 0)
   replace sep:=sep.up g7.size
   replace e0:=e0.ext g
   replace af:=af.ext g
   replace m5:=m5.x g
   replace sep:=sep.up g.size
   clear g
   refine tN 6 (pV h9.size) ((rc aC (0:Int) false false (.slice none 0 0)).toArray) 95 fun h10 g11 m12=> ?_
   replace sep:=sep.nw e0.size m12
   refine bG 7 (rcs w) m12 fun h13 g14 zq=> ?_
   replace m12:=zq
   refine sT [(9,.int .i64 z)] fun a hF=>qP [(29,.bool (decide (z=(0:Int))))] hF fun a hF=>cJ 29 hF (fun kT=> ?_) fun kT=> ?_
   ·have hD2:=yq hia hD (jR.2 ⟨hpos,hz.1 kT⟩)
    refine rS hF ?_
    replace m5:=(m5.x g11).y g14 (sep.bp 1 0)
    refine tR 1 m5<|tN 2 (.slice (some ⟨h13.size,0,none⟩) 1 1) ((a_ [L.getD i ai]).toArray) 95 fun h16 g17 m18=> ?_
    replace e0:=(e0.ext g11).grew g14 (sep.l 0)
    replace sep:=(sep.up g14.size).nw e0.size m18
    replace af:=((af.ext g11).k g14 (sep.ap 3 1)).ext g17
    refine tP 3 ((D++[L.getD i ai]).length) 104 (a_ (D++[L.getD i ai])) af (Row.blk (n:=1) (sz:=39) (l:=a_ [L.getD i ai]) m18 rfl) (d_ _) (fun gX fE h21 af g22 mG=> ?_) (ys:=(a_ ([L.getD i ai]))) (hZ:=by first|rfl|exact List.flatMap_append.symm |simp[a_])
    replace e0:=e0.ext g17
    have s24:=sep
    replace sep:=sep.sa g22 3 mG af e0.size;clear mG
    refine sE [(5,.slice gX ((D++[L.getD i ai]).length) fE)] fun a hF=>bK<|tK<|rS hF<|tA 0 i 1<|sE [(15,nV (i+1))] fun a hF=> ?_
    clear m5
    clear m12
    clear m18
    replace e0:=e0.grew g22 (s24.l 3)
    replace sep:=sep.sub (l':=[gX.map (·.block)]) (.cons _ (.cons _ (.cons _ (.cons_cons _ (.slnil)))))
    show ∃m',m'<_∧_
    refine⟨_,?_,(i+1),(D++[L.getD i ai]),gX,fE,rfl,e0,(by omega),hD2,af,sep,hF.to⟩
    omega
   ·have hD2:=oQ hia hD (lR (now:=now) (fun hb=>kT (hz.2 hb)))
    refine cN<|bK<|tK<|rS hF<|tA 0 i 1<|sE [(15,nV (i+1))] fun a hF=> ?_
    clear m5
    clear m12
    replace e0:=(e0.ext g11).grew g14 (sep.l 0)
    replace af:=(af.ext g11).k g14 (sep.ap 2 0)
    replace sep:=sep.up g14.size
    replace sep:=sep.sub (l':=[ad.map (·.block)]) (.cons _ (.cons _ (.cons_cons _ (.slnil))))
    show ∃m',m'<_∧_
    refine⟨_,?_,(i+1),D,ad,cap,rfl,e0,(by omega),hD2,af,sep,hF.to⟩
    omega
  ·have hD2:=oQ hia hD (mB (now:=now) hc8)
   refine cN<|bK<|tK<|rS hF<|tA 0 i 1<|sE [(15,nV (i+1))] fun a hF=> ?_
   clear m5
   replace e0:=(e0.ext g4).grew g7 (sep.l 0)
   replace af:=(af.ext g4).k g7 (sep.ap 1 0)
   replace sep:=sep.up g7.size
   replace sep:=sep.sub (l':=[ad.map (·.block)]) (.cons _ (.cons_cons _ (.slnil)))
   show ∃m',m'<_∧_
   refine⟨_,?_,(i+1),D,ad,cap,rfl,e0,(by omega),hD2,af,sep,hF.to⟩
   omega
 ·obtain rfl:i=L.length :=by omega
  rw[List.take_length] at hD
  refine cX 0 (xT (xT (xB ?_)))
  refine tK<|qS hF ?_
  have hfl:D.length ≤L.length :=by rw[←hD];exact List.length_filter_le _ _
  refine tG 1 (hsort _ _ _ _ _ af rfl (by rw[←hD];exact hK) (by omega)) ?_
  rintro _ lD ⟨M,hM,hP,hS,aq,g⟩
  replace e0:=e0.grew g (sep.l 0)
  replace sep:=sep.up g.size
  clear af;have af:=aq;clear aq g
  refine sT [] fun a hF=>qP [(10,.slice none 0 0)] hF fun a hF=>cS<|qP [(37,.slice ad D.length cap),(38,nV D.length),(39,.int .i64 0)] hF fun a hF=>cB 2 ?_
  have aQ:Own lD (.slice none 0 0) 9 0 1 ((ids (M.take 0)).map Value.string):=Own.nil _ _ _
  have hlo:=e0.size
  replace sep:=sep.none hlo;clear hlo
  refine cL (fun m a h'=>∃i:Nat,∃cW:Option Addr,∃cap2:Nat,m=D.length - i∧(Ext h h')∧(i≤D.length)∧(Own h' (.slice cW i cap2) 9 i 1 ((ids (M.take i)).map Value.string))∧(Own h' (.slice ad D.length cap) 95 D.length 39 (a_ M))∧(Sep h.size h'.size [cW.map (·.block),ad.map (·.block)])∧(Fr a 50 [(10,.slice cW i cap2),(37,.slice ad D.length cap),(38,.int .i64 ((D.length :Nat):Int)),(39,.int .i64 ((i:Nat):Int))])) (D.length - 0) ⟨0,none,0,rfl,e0,(by omega),aQ,af,sep,hF.to⟩ ?_
  clear hF a
  clear e0
  clear aQ
  clear af
  clear sep
  rintro m a nN ⟨i,cW,cap2,rfl,e0,hi,aQ,af,sep,hF⟩
  refine qP [(40,.bool (decide (((i:Nat):Int)<((D.length :Nat):Int))))] hF fun a hF=>cS<|cJ 40 hF (fun hc27=> ?_) fun hc27=> ?_
  ·have hia:i<D.length :=by omega
   obtain⟨ab,rfl,pW⟩:=af.a6 (by omega)
   refine cN<|tK<|cS<|cB 3<|qS hF<|tI 0 ab D.length 39 i (i*39)<|tY 1 i ai bg (af.row) ?_
   refine tN 2 (pV nN.size) ((rc aC (0:Int) false false (.slice none 0 0)).toArray) 95 fun h28 fp Hx=> ?_
   replace sep:=sep.nw e0.size Hx
   refine bG 3 (rcs (M.getD i ai)) Hx fun h31 jy zq=> ?_
   replace Hx:=zq
   refine sT [(12,pV nN.size)] fun a hF=>rS hF<|tO 2 0 Hx<|tN 3 (.slice (some ⟨h31.size,0,none⟩) 1 1) #[.string (((M.getD i ai).b).id)] 9 fun zc s4 BZ=> ?_
   replace e0:=(e0.ext fp).grew jy (sep.l 0)
   replace sep:=(sep.up jy.size).nw e0.size BZ
   replace aQ:=((aQ.ext fp).k jy (sep.ap 2 1)).ext s4
   refine tP 4 (i+1) 16 ((ids (M.take i)++[((M.getD i ai).b).id]).map Value.string) aQ (Row.blk (n:=1) (sz:=1) (l:=[((M.getD i ai).b).id].map Value.string) BZ rfl) (jS _) (fun n4 k9 h38 aQ fX zd=> ?_) (ys:=(([((M.getD i ai).b).id]).map Value.string))
   replace e0:=e0.ext s4
   have EG:=sep
   replace sep:=sep.sa fX 2 zd aQ e0.size;clear zd
   refine sE [(10,.slice n4 (i+1) k9)] fun a hF=>bK<|tK<|rS hF<|tA 0 i 1<|sE [(39,nV (i+1))] fun a hF=> ?_
   rw[yr (by omega)] at aQ
   clear Hx
   clear BZ
   replace af:=(((af.ext fp).k jy (EG.ap 3 1)).ext s4).k fX (EG.ap 3 2)
   replace e0:=e0.grew fX (EG.l 2)
   replace sep:=sep.sub (l':=[n4.map (·.block),(some ab:Option Addr).map (·.block)]) (.cons _ (.cons _ (.cons_cons _ (.cons_cons _ (.slnil)))))
   show ∃m',m'<_∧_
   refine⟨_,?_,(i+1),n4,k9,rfl,e0,(by omega),aQ,af,sep,hF.to⟩
   omega
  ·refine cX 2 (xT (xT (xB ?_)))
   refine tK<|qP [(4,.slice cW i cap2)] hF fun a hF=>cR<|rT 4 (.slice cW i cap2) hF ?_
   obtain rfl:i=D.length :=by omega
   rw[←hM,List.take_length] at aQ
   rw[←hM]
   exact⟨M,cW,cap2,hD▸hP,by rw[hM];exact hS,rfl,aQ,sep.low 0 rfl,e0⟩
end Go.Proofs.YtegkejcglfgpmaaGreatDoor
end
section
namespace Go.Proofs.YtegkejcglfgpmaaGreatDoor
open Go Go.an Go.aT
noncomputable def b37:Code:=Tryz.f37.body.getD .skip
theorem nx{W:Nat→Prop}(h:Heap)(mb mp:Nat)(M:Md)(L:List bY)(ck:Nat)(ea:Option Addr)(ec:Nat)(es:List Value)(md:bI W h mb mp M L ck ea ec es)(kt:bH h)(hE:M.E.length ≤1099511627):Sat Tryz.prog 37 #[.pointer (some ⟨mb,0,none⟩)] h fun v h'=>∃ad cap,v= .slice ad M.E.length cap∧Own h' (.slice ad M.E.length cap) 39 M.E.length 32 (hcs (cH M.E))∧(∀k,ad.map (fun(x:Addr)=>x.block)=some k→h.size ≤k)∧Ext h h':=by
 have hm:=md.hm
 have hp:=md.hp
 have e0:=Ext.refl h
 have dL:=kt.lt
 have sep:Sep h.size h.size []:=Sep.nil _ _
 refine ak Tryz.func37 22 fun a hF=>qP [] hF fun a hF=>qP [(3,.slice none 0 0)] hF fun a hF=>cS<|qS hF<|tO 3 1 (e0.blk hm)<|sT [(9,.slice ea M.E.length ec),(10,nV M.E.length),(11,.int .i64 0)] fun a hF=> ?_
 refine cB 0 ?_
 have af:Own h (.slice none 0 0) 39 0 32 (hcs (cH (M.E.take 0))):=Own.nil _ _ _
 have hlo:=e0.size
 replace sep:=sep.none hlo;clear hlo
 refine cL (fun m a h'=>∃k:Nat,∃ad:Option Addr,∃cap:Nat,m=M.E.length - k∧(Ext h h')∧(bH h')∧(k≤M.E.length)∧(Own h' (.slice ad k cap) 39 k 32 (hcs (cH (M.E.take k))))∧(Sep h.size h'.size [ad.map (·.block)])∧(Fr a 22 [(3,.slice ad k cap),(9,.slice ea M.E.length ec),(10,.int .i64 ((M.E.length :Nat):Int)),(11,.int .i64 ((k:Nat):Int))])) (M.E.length - 0) ⟨0,none,0,rfl,e0,kt,(by omega),af,sep,hF.to⟩ ?_
 clear hF a
 clear e0
 clear kt
 clear af
 clear sep
 rintro m a h1 ⟨k,ad,cap,rfl,e0,kt,hk,af,sep,hF⟩
 refine qP [(12,.bool (decide (((k:Nat):Int)<((M.E.length :Nat):Int))))] hF fun a hF=>cS<|cJ 12 hF (fun hc2=> ?_) fun hc2=> ?_
 ·have hkn:k<M.E.length :=by omega
  obtain⟨e,he⟩:∃e,M.E[k]? =some e:=⟨_,List.getElem?_eq_getElem hkn⟩
  obtain⟨hel,xa,xc,hes,hrx⟩:=md.en.2 k e he
  obtain⟨aa,rfl,b3⟩:=md.er.1.1.a6 (by omega)
  refine cN<|tK<|cS<|cB 1<|qS hF<|tI 0 aa M.E.length 1 k k<|tC 1 (.slice xa e.length xc) (Calm.load (T:=32) (p:=(Addr.add aa k)) (by kernel_rfl) (Loads.one (k:=1) (by kernel_rfl) ((md.er.1.1.ext e0).cells _ _ hes))) ?_
  refine sT [(5,.slice xa e.length xc)] fun a hF=>rS hF<|tG 2 (qY _ e xa xc (hrx.1.1.ext e0) (hrx.1.1.ext e0).Ph kt (by omega)) ?_
  rintro _ h4 ⟨rfl,g3⟩
  refine tF 3 (Does.newHs (L:=[cx e]) (t:=45) (E:=39) (dT:=32) (n:=1) (by kernel_rfl) (by kernel_rfl) (aB.cons (dm _) aB.nil) rfl (by decide) (by decide)) ?_
  rintro _ h5 ⟨rfl,hh⟩
  have g6:Ext h4 h5:=a8 hh
  have m7:h5[h4.size]? =some (.cells (hcs [cx e]).toArray 39):=bx hh
  clear hh
  replace e0:=e0.ext g3
  have hlo:=e0.size
  replace sep:=sep.up g3.size
  have a7:=sep
  replace sep:=sep.up g6.size
  replace sep:=a7.new hlo (ag m7)
  clear a7 hlo
  replace af:=(af.ext g3).ext g6
  refine tP 4 (k+1) 32 (hcs (cH (M.E.take k)++[cx e])) af (hrow1 (dm _) m7) (dB _) (fun wF nt h10 af g11 Hy=> ?_) (ys:=(hcs ([cx e]))) (hZ:=by first|rfl|exact(bk _ _).symm |simp[bk])
  replace e0:=e0.ext g6
  have s13:=sep
  replace sep:=sep.sa g11 1 Hy af e0.size;clear Hy
  refine sE [(3,.slice wF (k+1) nt)] fun a hF=>bK<|tK<|rS hF<|tA 0 k 1<|sE [(11,nV (k+1))] fun a hF=> ?_
  rw[oS he] at af
  clear m7
  replace kt:=((kt.ext g3).ext g6).grew g11 (s13.zero 1 rfl dL)
  replace e0:=e0.grew g11 (s13.l 1)
  replace sep:=sep.sub (l':=[wF.map (·.block)]) (.cons _ (.cons_cons _ (.slnil)))
  show ∃m',m'<_∧_
  refine⟨_,?_,(k+1),wF,nt,rfl,e0,kt,(by omega),af,sep,hF.to⟩
  omega
 ·refine cX 0 (xT (xT (xB ?_)))
  refine tK<|qP [(2,.slice ad k cap)] hF fun a hF=>cR<|rT 2 (.slice ad k cap) hF ?_
  obtain rfl:k=M.E.length :=by omega
  rw[List.take_length] at af
  exact⟨ad,cap,rfl,af,sep.low 0 rfl,e0⟩
noncomputable def b35:Code:=Tryz.f35.body.getD .skip
theorem E_{h h2:Heap}{M:Md}{aG:bY→OA}{L D:List bY}(hg:∀x∈L,sY h M aG x)(hP:D.Perm L){r:Rec}(hr:r∈D.map (aN aG)):oP h2 r:=by
 obtain⟨x,hx,rfl⟩:=List.mem_map.1 hr
 exact⟨[],rfl,(hg x (hP.mem_iff.1 hx)).rc.zero rfl,Nat.zero_le _⟩
set_option maxHeartbeats 1000000 in
theorem Cs{W:Nat→Prop}(h:Heap)(mb mp:Nat)(M:Md)(L:List bY)(ck:Nat)(ea:Option Addr)(ec:Nat)(es:List Value)(md:bI W h mb mp M L ck ea ec es)(hE:M.E.length ≤1099511627):Sat Tryz.prog 35 #[.pointer (some ⟨mb,0,none⟩),.bool false] h fun v h'=>∃ad cap,v= .slice ad (j0 M).length cap∧Own h' (.slice ad (j0 M).length cap) 9 (j0 M).length 1 ((j0 M).map Value.string)∧(∀k,ad.map (fun(x:Addr)=>x.block)=some k→h.size ≤k)∧Ext h h':=by
 have hm:=md.hm
 have hp:=md.hp
 obtain⟨aG,hg⟩:=md.choose
 have hLn:=md.ln
 have e0:=Ext.refl h
 have sep:Sep h.size h.size []:=Sep.nil _ _
 refine ak Tryz.func35 42 fun a hF=>qP [] hF fun a hF=>qP [(5,.slice none 0 0)] hF fun a hF=>qP [(6,.slice none 0 0)] hF fun a hF=>cS<|qS hF<|tO 3 0 (e0.blk hm) ?_
 refine tF 4 (Does.range (t:=81) (k:=9) (el:=101) (by kernel_rfl) (by kernel_rfl) (e0.blk hp)) ?_
 rintro _ h1 ⟨rfl,hh⟩
 have g:=a8 hh
 have hit:=bx hh
 have hlo:=e0.size
 have a7:=sep
 replace e0:=e0.ext g
 replace sep:=sep.up g.size
 replace sep:=a7.new hlo (ag hit)
 clear a7 hlo hh g
 refine sT [(13,pV h.size)] fun a hF=>cB 0 ?_
 have af:Own h1 (.slice none 0 0) 95 0 39 (a_ (([]:List bY).map (aN aG))):=Own.nil _ _ _
 have aQ:Own h1 (.slice none 0 0) 9 0 1 ((live (([]:List bY).map (aN aG))).map Value.string):=Own.nil _ _ _
 have hlo:=e0.size
 replace sep:=(sep.none hlo).none hlo;clear hlo
 refine cL (fun m a h'=>∃D:List bY,∃R:List bY,∃ad:Option Addr,∃cap:Nat,∃cW:Option Addr,∃cap2:Nat,m=R.length ∧(Ext h h')∧((D++R).Perm L)∧(h'[h.size]? =some (qA mp ck D))∧(Own h' (.slice ad ((D.map (aN aG)).length) cap) 95 ((D.map (aN aG)).length) 39 (a_ (D.map (aN aG))))∧(Own h' (.slice cW ((live (D.map (aN aG))).length) cap2) 9 ((live (D.map (aN aG))).length) 1 ((live (D.map (aN aG))).map Value.string))∧(Sep h.size h'.size [cW.map (·.block),ad.map (·.block),some h.size])∧(Fr a 42 [(0,.pointer (some ⟨mb,0,none⟩)),(1,.bool false),(5,.slice ad ((D.map (aN aG)).length) cap),(6,.slice cW ((live (D.map (aN aG))).length) cap2),(13,.pointer (some ⟨h.size,0,none⟩))])) (L.length) ⟨[],L,none,0,none,0,rfl,e0,(List.Perm.refl _),hit,af,aQ,sep,hF.to⟩ ?_
 clear hF a
 clear e0
 clear hit
 clear af
 clear aQ
 clear sep
 rintro m a h2 ⟨D,R,ad,cap,cW,cap2,rfl,e0,hP,hit,af,aQ,sep,hF⟩
 refine cS ?_
 rcases(by cases R<;>simp:R=[]∨R≠[]) with hR|hR
 ·refine rS hF<|tC 0 (.tuple #[.bool false]) (jY (by kernel_rfl) hit (e0.blk hp) hP md.bo hR)<|sE [(15,.bool false)] fun a hF=>tK<|cS<|cF 15 hF<|cX 0 (xT (xT (xB ?_)))
  refine tK<|cS<|qP [(32,.bool false)] hF fun a hF=>cF 32 hF<|cN<|tK<|qS hF ?_
  subst hR
  rw[List.append_nil] at hP
  have hen:=md.enum hg hP
  have hDl:=hP.length_eq
  have hlv:=j1 (D.map (aN aG))
  rw[List.length_map] at hlv
  refine tG 1 (v7 _ _ _ _ (live (D.map (aN aG))) aQ rfl (by omega)) ?_
  rintro _ h3 ⟨aq,g⟩
  replace e0:=e0.grew g (sep.l 0)
  replace af:=af.k g (sep.ap 1 0)
  replace hit:=g.blk hit (sep.bp 2 0)
  replace sep:=sep.up g.size
  clear aQ;have aQ:=aq;clear aq g
  refine sT [] fun a hF=>qP [(4,.slice cW ((live (D.map (aN aG))).length) cap2)] hF fun a hF=>cR<|rT 4 (.slice cW ((live (D.map (aN aG))).length) cap2) hF ?_
  rw[←lS hen] at aQ
  have hil:(live (D.map (aN aG))).length =(j0 M).length :=by rw[lS hen];unfold fq;rw[List.length_mergeSort]
  rw[hil] at aQ
  exact⟨cW,cap2,by rw[hil],aQ,sep.low 0 rfl,e0⟩
 ·refine rS hF<|tF 0 (gW (by kernel_rfl) hit (e0.blk hp) hP md.bo hR) ?_
  rintro _ h4 ⟨x,R',hP2,hRl,hxL,rfl,hh⟩
  obtain⟨hit2,gi⟩:=jZ hh hit
  replace e0:=e0.grew gi (sep.l 2)
  replace aQ:=aQ.k gi (sep.ap 0 2)
  replace af:=af.k gi (sep.ap 1 2)
  replace hit:=hit
  replace sep:=sep.up gi.size
  clear hit;have hit:=hit2;clear hit2 hh gi
  have hh3:=hg x hxL
  have hDl:D.length <L.length :=by have:=hP2.length_eq;simp at this;omega
  refine sE [(15,.bool true)] fun a hF=>tK<|cS<|cT 15 hF<|cN<|tK<|cB 1 ?_
  refine qS hF<|tC 0 (.tuple #[.string x.1,.agg (bl ((aN aG x).b) ((aN aG x).e) ((aN aG x).ho) ((aN aG x).go) (.slice (aN aG x).ad ((aN aG x).n) ((aN aG x).cap)) (.slice (aG x).ba ((aG x).o.dt.length) ((aG x).bc))).toArray]) (mD (by kernel_rfl) hit (e0.blk hp) hxL md.bo hh3.hv)<|tN 3 (pV h4.size) ((bl aC (0:Int) false false (.slice none 0 0) (.slice none 0 0)).toArray) 101 fun h5 g6 m7=> ?_
  replace sep:=sep.nw e0.size m7
  refine bG 5 (bl ((aN aG x).b) ((aN aG x).e) ((aN aG x).ho) ((aN aG x).go) (.slice (aN aG x).ad ((aN aG x).n) ((aN aG x).cap)) (.slice (aG x).ba ((aG x).o.dt.length) ((aG x).bc))) m7 fun h8 g9 zq=> ?_
  replace m7:=zq
  refine sT [(7,.string x.1),(8,pV h4.size)] fun a hF=>qS hF<|tQ 2 0 (rc ((aN aG x).b) ((aN aG x).e) ((aN aG x).ho) ((aN aG x).go) (.slice (aN aG x).ad ((aN aG x).n) ((aN aG x).cap))) m7<|tN 3 (.slice (some ⟨h8.size,0,none⟩) 1 1) ((a_ [(aN aG x)]).toArray) 95 fun h10 g11 m12=> ?_
  replace e0:=(e0.ext g6).grew g9 (sep.l 0)
  replace sep:=(sep.up g9.size).nw e0.size m12
  replace af:=((af.ext g6).k g9 (sep.ap 3 1)).ext g11
  refine tP 4 ((D.map (aN aG)++[(aN aG x)]).length) 104 (a_ (D.map (aN aG)++[(aN aG x)])) af (Row.blk (n:=1) (sz:=39) (l:=a_ [(aN aG x)]) m12 rfl) (d_ _) (fun dO dp h15 af g16 jn=> ?_) (ys:=(a_ ([(aN aG x)]))) (hl:=(by unfold maxLen;rw[List.length_map];omega)) (hb:=(by rw[List.length_map];omega)) (hZ:=by first|rfl|exact List.flatMap_append.symm |simp[a_])
  replace e0:=e0.ext g11
  have lU:=sep
  replace sep:=sep.sa g16 3 jn af e0.size;clear jn
  rw[oR] at af
  refine sT [(5,.slice dO ((D.map (aN aG)++[(aN aG x)]).length) dp)] fun a hF=> ?_
  have hcan:((D.map (aN aG)++[(aN aG x)]).length :Nat)=((D++[x]).map (aN aG)).length :=by first| (simp;done)| (simp;omega)
  rw[hcan] at hF;clear hcan
  refine qS hF ?_
  replace m7:=(m7.x g11).y g16 (lU.bp 1 3)
  refine tO 2 37 m7<|sT [(27,.bool (!((aN aG x).go)))] fun a hF=>cC 27 (!((aN aG x).go)) hF (fun hc19=> ?_) (fun hc19=> ?_)
  ·replace hc19:(aN aG x).go =false:=by simpa using hc19
   refine rS hF<|tN 2 (.slice (some ⟨h15.size,0,none⟩) 1 1) #[.string x.1] 9 fun h20 g21 m22=> ?_
   replace e0:=e0.grew g16 (lU.l 3)
   replace sep:=sep.nw e0.size m22
   have hlv:=j1 (D.map (aN aG))
   rw[List.length_map] at hlv
   replace aQ:=((((aQ.ext g6).k g9 (lU.ap 2 1)).ext g11).k g16 (lU.ap 2 3)).ext g21
   refine tP 3 ((live (D.map (aN aG))++[x.1]).length) 16 ((live (D.map (aN aG))++[x.1]).map Value.string) aQ (Row.blk (n:=1) (sz:=1) (l:=[x.1].map Value.string) m22 rfl) (jS _) (fun jM fY lD aQ gY Hz=> ?_) (ys:=(([x.1]).map Value.string))
   replace e0:=e0.ext g21
   have Lu:=sep
   replace sep:=sep.sa gY 3 Hz aQ e0.size;clear Hz
   have hlo3:live (D.map (aN aG))++[x.1]=live ((D++[x]).map (aN aG)):=by rw[u0 hc19,hh3.id]
   rw[hlo3] at aQ
   refine sE [(6,.slice jM ((live (D.map (aN aG))++[x.1]).length) fY)] fun a hF=> ?_
   have hcan:((live (D.map (aN aG))++[x.1]).length :Nat)=(live ((D++[x]).map (aN aG))).length :=by first| (rw[←hlo3])| (simp;done)| (simp;omega)
   rw[hcan] at hF;clear hcan
   refine bK ?_
   clear m7
   clear m12
   clear m22
   replace hit:=gY.blk (g21.blk (g16.blk (g11.blk (g9.blk (g6.blk hit) (lU.bp 4 1))) (lU.bp 4 3))) (Lu.bp 5 3)
   replace af:=(af.ext g21).k gY (Lu.ap 4 3)
   replace e0:=e0.grew gY (Lu.l 3)
   replace sep:=sep.sub (l':=[jM.map (·.block),dO.map (·.block),some h.size]) (.cons _ (.cons _ (.cons _ (.cons_cons _ (.cons_cons _ (.cons_cons _ (.slnil)))))))
   show ∃m',m'<_∧_
   refine⟨_,?_,(D++[x]),R',dO,dp,jM,fY,rfl,e0,hP2,hit,af,aQ,sep,hF.to⟩
   omega
  ·replace hc19:(aN aG x).go =true:=by simpa using hc19
   replace aQ:=(((aQ.ext g6).k g9 (lU.ap 2 1)).ext g11).k g16 (lU.ap 2 3)
   rw[←lT hc19] at aQ
   rw[←lT hc19] at hF
   refine cN<|bK ?_
   clear m7
   clear m12
   replace hit:=g16.blk (g11.blk (g9.blk (g6.blk hit) (lU.bp 4 1))) (lU.bp 4 3)
   replace e0:=e0.grew g16 (lU.l 3)
   replace sep:=sep.sub (l':=[cW.map (·.block),dO.map (·.block),some h.size]) (.cons _ (.cons _ (.cons_cons _ (.cons_cons _ (.cons_cons _ (.slnil))))))
   show ∃m',m'<_∧_
   refine⟨_,?_,(D++[x]),R',dO,dp,cW,cap2,rfl,e0,hP2,hit,af,aQ,sep,hF.to⟩
   omega
set_option maxHeartbeats 1000000 in
theorem Ct{W:Nat→Prop}(h:Heap)(mb mp:Nat)(M:Md)(L:List bY)(ck:Nat)(ea:Option Addr)(ec:Nat)(es:List Value)(md:bI W h mb mp M L ck ea ec es)(hE:M.E.length ≤1099511627):Sat Tryz.prog 35 #[.pointer (some ⟨mb,0,none⟩),.bool true] h fun v h'=>∃ad cap,v= .slice ad (e6 M).length cap∧Own h' (.slice ad (e6 M).length cap) 9 (e6 M).length 1 ((e6 M).map Value.string)∧(∀k,ad.map (fun(x:Addr)=>x.block)=some k→h.size ≤k)∧Ext h h':=by
 have hm:=md.hm
 have hp:=md.hp
 obtain⟨aG,hg⟩:=md.choose
 have hLn:=md.ln
 have e0:=Ext.refl h
 have sep:Sep h.size h.size []:=Sep.nil _ _
 refine ak Tryz.func35 42 fun a hF=>qP [] hF fun a hF=>qP [(5,.slice none 0 0)] hF fun a hF=>qP [(6,.slice none 0 0)] hF fun a hF=>cS<|qS hF<|tO 3 0 (e0.blk hm) ?_
 refine tF 4 (Does.range (t:=81) (k:=9) (el:=101) (by kernel_rfl) (by kernel_rfl) (e0.blk hp)) ?_
 rintro _ h1 ⟨rfl,hh⟩
 have g:=a8 hh
 have hit:=bx hh
 have hlo:=e0.size
 have a7:=sep
 replace e0:=e0.ext g
 replace sep:=sep.up g.size
 replace sep:=a7.new hlo (ag hit)
 clear a7 hlo hh g
 refine sT [(13,pV h.size)] fun a hF=>cB 0 ?_
 have af:Own h1 (.slice none 0 0) 95 0 39 (a_ (([]:List bY).map (aN aG))):=Own.nil _ _ _
 have aQ:Own h1 (.slice none 0 0) 9 0 1 ((live (([]:List bY).map (aN aG))).map Value.string):=Own.nil _ _ _
 have hlo:=e0.size
 replace sep:=(sep.none hlo).none hlo;clear hlo
 refine cL (fun m a h'=>∃D:List bY,∃R:List bY,∃ad:Option Addr,∃cap:Nat,∃cW:Option Addr,∃cap2:Nat,m=R.length ∧(Ext h h')∧((D++R).Perm L)∧(h'[h.size]? =some (qA mp ck D))∧(Own h' (.slice ad ((D.map (aN aG)).length) cap) 95 ((D.map (aN aG)).length) 39 (a_ (D.map (aN aG))))∧(Own h' (.slice cW ((live (D.map (aN aG))).length) cap2) 9 ((live (D.map (aN aG))).length) 1 ((live (D.map (aN aG))).map Value.string))∧(Sep h.size h'.size [cW.map (·.block),ad.map (·.block),some h.size])∧(Fr a 42 [(0,.pointer (some ⟨mb,0,none⟩)),(1,.bool true),(5,.slice ad ((D.map (aN aG)).length) cap),(6,.slice cW ((live (D.map (aN aG))).length) cap2),(13,.pointer (some ⟨h.size,0,none⟩))])) (L.length) ⟨[],L,none,0,none,0,rfl,e0,(List.Perm.refl _),hit,af,aQ,sep,hF.to⟩ ?_
 clear hF a
 clear e0
 clear hit
 clear af
 clear aQ
 clear sep
 rintro m a h2 ⟨D,R,ad,cap,cW,cap2,rfl,e0,hP,hit,af,aQ,sep,hF⟩
 refine cS ?_
 rcases(by cases R<;>simp:R=[]∨R≠[]) with hR|hR
 ·refine rS hF<|tC 0 (.tuple #[.bool false]) (jY (by kernel_rfl) hit (e0.blk hp) hP md.bo hR)<|sE [(15,.bool false)] fun a hF=>tK<|cS<|cF 15 hF<|cX 0 (xT (xT (xB ?_)))
  refine tK<|cS<|qP [(32,.bool true)] hF fun a hF=>cT 32 hF<|qS hF<|tO 4 2 (e0.blk hm) ?_
  subst hR
  rw[List.append_nil] at hP
  have hen:=md.enum hg hP
  have hDl:=hP.length_eq
  have hlv:=j1 (D.map (aN aG))
  rw[List.length_map] at hlv
  have hse:=e0.size
  refine tG 5 (Cr _ (D.map (aN aG)) _ _ M.t 1099511627776 wG af.row (by rw[List.length_map];omega) (fun r hr=>E_ hg hP hr) (Nat.le_trans (List.length_filter_le _ _) (by rw[List.length_map];omega))) ?_
  rintro _ h5 ⟨M2,xW,cap4,Qg,hSM,rfl,ae,hge,g⟩
  replace e0:=e0.ext g
  replace aQ:=aQ.ext g
  replace af:=af.ext g
  replace hit:=g.blk hit
  replace sep:=sep.up g.size
  refine sT [(4,.slice xW M2.length cap4)] fun a hF=>cR (yT ?_)
  refine rT 4 (.slice xW M2.length cap4) hF ?_
  have hdm:=uZ hen Qg hSM
  have hdl:M2.length =(e6 M).length :=by rw[hdm];unfold ids;rw[List.length_map]
  rw[hdl,←hdm] at ae
  exact⟨xW,cap4,by rw[hdl],ae,fun k e=>Nat.le_trans hse (hge k e),e0⟩
 ·refine rS hF<|tF 0 (gW (by kernel_rfl) hit (e0.blk hp) hP md.bo hR) ?_
  rintro _ h6 ⟨x,R',hP2,hRl,hxL,rfl,hh⟩
  obtain⟨hit2,gi⟩:=jZ hh hit
  replace e0:=e0.grew gi (sep.l 2)
  replace aQ:=aQ.k gi (sep.ap 0 2)
  replace af:=af.k gi (sep.ap 1 2)
  replace hit:=hit
  replace sep:=sep.up gi.size
  clear hit;have hit:=hit2;clear hit2 hh gi
  have hh3:=hg x hxL
  have hDl:D.length <L.length :=by have:=hP2.length_eq;simp at this;omega
  refine sE [(15,.bool true)] fun a hF=>tK<|cS<|cT 15 hF<|cN<|tK<|cB 1 ?_
  refine qS hF<|tC 0 (.tuple #[.string x.1,.agg (bl ((aN aG x).b) ((aN aG x).e) ((aN aG x).ho) ((aN aG x).go) (.slice (aN aG x).ad ((aN aG x).n) ((aN aG x).cap)) (.slice (aG x).ba ((aG x).o.dt.length) ((aG x).bc))).toArray]) (mD (by kernel_rfl) hit (e0.blk hp) hxL md.bo hh3.hv)<|tN 3 (pV h6.size) ((bl aC (0:Int) false false (.slice none 0 0) (.slice none 0 0)).toArray) 101 fun h7 g8 m9=> ?_
  replace sep:=sep.nw e0.size m9
  refine bG 5 (bl ((aN aG x).b) ((aN aG x).e) ((aN aG x).ho) ((aN aG x).go) (.slice (aN aG x).ad ((aN aG x).n) ((aN aG x).cap)) (.slice (aG x).ba ((aG x).o.dt.length) ((aG x).bc))) m9 fun h10 g11 zq=> ?_
  replace m9:=zq
  refine sT [(7,.string x.1),(8,pV h6.size)] fun a hF=>qS hF<|tQ 2 0 (rc ((aN aG x).b) ((aN aG x).e) ((aN aG x).ho) ((aN aG x).go) (.slice (aN aG x).ad ((aN aG x).n) ((aN aG x).cap))) m9<|tN 3 (.slice (some ⟨h10.size,0,none⟩) 1 1) ((a_ [(aN aG x)]).toArray) 95 fun h12 g13 m14=> ?_
  replace e0:=(e0.ext g8).grew g11 (sep.l 0)
  replace sep:=(sep.up g11.size).nw e0.size m14
  replace af:=((af.ext g8).k g11 (sep.ap 3 1)).ext g13
  refine tP 4 ((D.map (aN aG)++[(aN aG x)]).length) 104 (a_ (D.map (aN aG)++[(aN aG x)])) af (Row.blk (n:=1) (sz:=39) (l:=a_ [(aN aG x)]) m14 rfl) (d_ _) (fun dg cQ h17 af g18 iT=> ?_) (ys:=(a_ ([(aN aG x)]))) (hl:=(by unfold maxLen;rw[List.length_map];omega)) (hb:=(by rw[List.length_map];omega)) (hZ:=by first|rfl|exact List.flatMap_append.symm |simp[a_])
  replace e0:=e0.ext g13
  have s20:=sep
  replace sep:=sep.sa g18 3 iT af e0.size;clear iT
  rw[oR] at af
  refine sT [(5,.slice dg ((D.map (aN aG)++[(aN aG x)]).length) cQ)] fun a hF=> ?_
  have hcan:((D.map (aN aG)++[(aN aG x)]).length :Nat)=((D++[x]).map (aN aG)).length :=by first| (simp;done)| (simp;omega)
  rw[hcan] at hF;clear hcan
  refine qS hF ?_
  replace m9:=(m9.x g13).y g18 (s20.bp 1 3)
  refine tO 2 37 m9<|sT [(27,.bool (!((aN aG x).go)))] fun a hF=>cC 27 (!((aN aG x).go)) hF (fun hc21=> ?_) (fun hc21=> ?_)
  ·replace hc21:(aN aG x).go =false:=by simpa using hc21
   refine rS hF<|tN 2 (.slice (some ⟨h17.size,0,none⟩) 1 1) #[.string x.1] 9 fun h22 g23 m24=> ?_
   replace e0:=e0.grew g18 (s20.l 3)
   replace sep:=sep.nw e0.size m24
   have hlv:=j1 (D.map (aN aG))
   rw[List.length_map] at hlv
   replace aQ:=((((aQ.ext g8).k g11 (s20.ap 2 1)).ext g13).k g18 (s20.ap 2 3)).ext g23
   refine tP 3 ((live (D.map (aN aG))++[x.1]).length) 16 ((live (D.map (aN aG))++[x.1]).map Value.string) aQ (Row.blk (n:=1) (sz:=1) (l:=[x.1].map Value.string) m24 rfl) (jS _) (fun ns i' h27 aQ fe zH=> ?_) (ys:=(([x.1]).map Value.string))
   replace e0:=e0.ext g23
   have Ht:=sep
   replace sep:=sep.sa fe 3 zH aQ e0.size;clear zH
   have hlo3:live (D.map (aN aG))++[x.1]=live ((D++[x]).map (aN aG)):=by rw[u0 hc21,hh3.id]
   rw[hlo3] at aQ
   refine sE [(6,.slice ns ((live (D.map (aN aG))++[x.1]).length) i')] fun a hF=> ?_
   have hcan:((live (D.map (aN aG))++[x.1]).length :Nat)=(live ((D++[x]).map (aN aG))).length :=by first| (rw[←hlo3])| (simp;done)| (simp;omega)
   rw[hcan] at hF;clear hcan
   refine bK ?_
   clear m9
   clear m14
   clear m24
   replace hit:=fe.blk (g23.blk (g18.blk (g13.blk (g11.blk (g8.blk hit) (s20.bp 4 1))) (s20.bp 4 3))) (Ht.bp 5 3)
   replace af:=(af.ext g23).k fe (Ht.ap 4 3)
   replace e0:=e0.grew fe (Ht.l 3)
   replace sep:=sep.sub (l':=[ns.map (·.block),dg.map (·.block),some h.size]) (.cons _ (.cons _ (.cons _ (.cons_cons _ (.cons_cons _ (.cons_cons _ (.slnil)))))))
   show ∃m',m'<_∧_
   refine⟨_,?_,(D++[x]),R',dg,cQ,ns,i',rfl,e0,hP2,hit,af,aQ,sep,hF.to⟩
   omega
  ·replace hc21:(aN aG x).go =true:=by simpa using hc21
   replace aQ:=(((aQ.ext g8).k g11 (s20.ap 2 1)).ext g13).k g18 (s20.ap 2 3)
   rw[←lT hc21] at aQ
   rw[←lT hc21] at hF
   refine cN<|bK ?_
   clear m9
   clear m14
   replace hit:=g18.blk (g13.blk (g11.blk (g8.blk hit) (s20.bp 4 1))) (s20.bp 4 3)
   replace e0:=e0.grew g18 (s20.l 3)
   replace sep:=sep.sub (l':=[cW.map (·.block),dg.map (·.block),some h.size]) (.cons _ (.cons _ (.cons_cons _ (.cons_cons _ (.cons_cons _ (.slnil))))))
   show ∃m',m'<_∧_
   refine⟨_,?_,(D++[x]),R',dg,cQ,cW,cap2,rfl,e0,hP2,hit,af,aQ,sep,hF.to⟩
   omega
end Go.Proofs.YtegkejcglfgpmaaGreatDoor
end
section
namespace Go.Proofs.YtegkejcglfgpmaaGreatDoor
open Go Go.an Go.aT
noncomputable def b45:Code:=Tryz.f45.body.getD .skip
theorem eX(h:Heap)(x:RB)(e:Int)(ho go:Bool)(c d:Value):Sat Tryz.prog 45 #[.agg (bl x e ho go (c) (d)).toArray] h fun v h'=>v= .agg (uX x e ho go).toArray ∧Ext h h':=by
 have e0:=Ext.refl h
 have sep:Sep h.size h.size []:=Sep.nil _ _
 refine ak Tryz.func45 22 fun a hF=>qS hF<|tN 0 (pV h.size) ((bl x e ho go (c) (d)).toArray) 101 fun h1 g2 m3=> ?_
 replace sep:=sep.nw e0.size m3
 refine tN 1 (pV h1.size) ((uX aC (0:Int) false false).toArray) 41 fun h4 g5 m6=> ?_
 replace e0:=e0.ext g2
 replace sep:=sep.nw e0.size m6
 refine sT [(1,pV h.size),(2,pV h1.size)] fun a hF=>qS hF ?_
 replace m3:=m3.x g5
 refine tO 2 1 m3<|tQ 5 2 ((hl x).map bv) m3<|tO 8 34 m3<|tO 11 35 m3<|tO 14 36 m3<|tO 17 37 m3<|bG 19 (uX x e ho go) m6 fun h7 g8 zq=> ?_
 replace m6:=zq
 refine sT [] fun a hF=>cR<|rB m6 hF ?_
 replace e0:=(e0.ext g5).grew g8 (sep.l 0)
 exact⟨rfl,e0⟩
theorem Cu(h:Heap)(L:List Hs)(va:Option Addr)(vc n:Nat)(hL:HR h va vc n L)(hn:n≤1099511627000)(i:Int)(kt:bH h)(p:List Hs)(e:Int)(hz:c7 L i=(p,e)):Sat Tryz.prog 71 #[.slice va n vc,.int .i64 i] h fun v h'=>∃ad cap,v= .tuple #[.slice ad p.length cap,.int .i64 e]∧Own h' (.slice ad p.length cap) 39 p.length 32 (hcs p)∧(∀k,ad.map (fun(x:Addr)=>x.block)=some k→h.size ≤k)∧Ext h h':=
 (wg h L va vc n hL hn i kt).mono fun v h' ⟨s,hv,ad,cap,hs,o,hge,g⟩=>by
  rw[hz] at hv hs o
  subst hs
  exact⟨ad,cap,hv,o,hge,g⟩
theorem Cv(h:Heap)(L:List Hs)(va:Option Addr)(vc n:Nat)(hL:HR h va vc n L)(hn:n≤1099511627000)(kt:bH h):Sat Tryz.prog 36 #[.slice va n vc] h fun v h'=>v= .agg ((hl (qQ (root L))).map bv).toArray ∧Ext h h':=by
 rw[mC (bb hL.2.1)];exact iG h L va vc n hL kt hn
noncomputable def b34:Code:=Tryz.f34.body.getD .skip
set_option maxHeartbeats 1000000 in
theorem Cw{W:Nat→Prop}(h:Heap)(mb mp:Nat)(M:Md)(L:List bY)(ck:Nat)(ea:Option Addr)(ec:Nat)(es:List Value)(md:bI W h mb mp M L ck ea ec es)(kd n:Int)(s:ByteArray)(oa:Option Addr)(on oc:Nat)(ka:Option Addr)(kn kc:Nat)(hsz:s.size ≤9223372036854775807)(kt:bH h)(hE:M.E.length ≤1099511627):Sat Tryz.prog 34 #[.pointer (some ⟨mb,0,none⟩),.agg #[.int .i64 kd,.string s,.slice oa on oc,.int .i64 n,.slice ka kn kc]] h fun v h'=>pQ W h.size h' mb mp M v (dy M kd s)∧Ext h h':=by
 have hm:=md.hm
 have hp:=md.hp
 have e0:=Ext.refl h
 have dL:=kt.lt
 have sep:Sep h.size h.size []:=Sep.nil _ _
 refine ak Tryz.func34 59 fun a hF=>qS hF<|tN 0 (pV h.size) #[.int .i64 kd,.string s,.slice oa on oc,.int .i64 n,.slice ka kn kc] 35 fun h1 g2 m3=> ?_
 replace sep:=sep.nw e0.size m3
 refine tN 1 (pV h1.size) ((bJ (0:Int) (.slice none 0 0) aC (0:Int) false false (.slice none 0 0) (0:Int) aC (0:Int) (.slice none 0 0)).toArray) 47 fun h4 g5 m6=> ?_
 replace e0:=e0.ext g2
 replace sep:=sep.nw e0.size m6
 refine sT [(3,pV h.size),(4,pV h1.size)] fun a hF=>cS ?_
 rcases md.kM s with hok|⟨hok,hf,hno⟩|⟨hok,A,x,B,o,rfl,hs,hf,hid,hdl,ca,cc,ba,bc,hv,r1,r2⟩
 ·refine rS hF ?_
  replace m3:=m3.x g5
  refine tO 2 1 m3 ?_
  replace e0:=e0.ext g5
  refine tG 3 (ve _ mb mp M _ ck ea ec es (md.ext e0) s hsz hok) ?_
  rintro _ h8 ⟨rfl,g7⟩
  refine tN 7 (pV h8.size) ((bl aC (0:Int) false false (.slice none 0 0) (.slice none 0 0)).toArray) 101 fun h9 g10 m11=> ?_
  replace e0:=e0.ext g7
  replace sep:=(sep.up g7.size).nw e0.size m11
  refine bG 8 (bl aC (0:Int) false false (.slice none 0 0) (.slice none 0 0)) m11 fun h12 g13 zq=> ?_
  replace m11:=zq
  refine sE [(5,pV h8.size),(6,.int .i64 210)] fun a hF=>tK<|cS<|cB 0<|qP [(14,.bool true)] hF fun a hF=>cT 14 hF<|rS hF ?_
  replace m6:=((m6.x g7).x g10).y g13 (sep.bp 1 0)
  refine tV 2 0 [.int .i64 210] (bJ (210:Int) (.slice none 0 0) aC (0:Int) false false (.slice none 0 0) (0:Int) aC (0:Int) (.slice none 0 0)) m6 fun fc g15 zq=> ?_
  replace m6:=zq
  refine sE [] fun a hF=>bK<|tK<|qS hF<|tR 0 m6<|bG 1 (bJ (210:Int) (.slice none 0 0) aC (0:Int) false false (.slice none 0 0) (0:Int) aC (0:Int) (.slice none 0 0)) m6 fun h16 g17 zq=> ?_
  replace m6:=zq
  refine sT [] fun a hF=>cR<|rB m6 hF ?_
  replace e0:=(((e0.ext g10).grew g13 (sep.l 0)).grew g15 (sep.l 1)).grew g17 (sep.l 1)
  rw[u5 hok];exact⟨fT md e0 210,e0⟩
 ·refine rS hF ?_
  replace m3:=m3.x g5
  refine tO 2 1 m3 ?_
  replace e0:=e0.ext g5
  refine tG 3 (o_ _ mb mp M _ ck ea ec es (md.ext e0) s hno hok) ?_
  rintro _ h19 ⟨rfl,g18⟩
  refine tN 7 (pV h19.size) ((bl aC (0:Int) false false (.slice none 0 0) (.slice none 0 0)).toArray) 101 fun h20 g21 m22=> ?_
  replace e0:=e0.ext g18
  replace sep:=(sep.up g18.size).nw e0.size m22
  refine bG 8 (bl aC (0:Int) false false (.slice none 0 0) (.slice none 0 0)) m22 fun h23 g24 zq=> ?_
  replace m22:=zq
  refine sE [(5,pV h19.size),(6,.int .i64 211)] fun a hF=>tK<|cS<|cB 0<|qP [(14,.bool true)] hF fun a hF=>cT 14 hF<|rS hF ?_
  replace m6:=((m6.x g18).x g21).y g24 (sep.bp 1 0)
  refine tV 2 0 [.int .i64 211] (bJ (211:Int) (.slice none 0 0) aC (0:Int) false false (.slice none 0 0) (0:Int) aC (0:Int) (.slice none 0 0)) m6 fun lD gY zq=> ?_
  replace m6:=zq
  refine sE [] fun a hF=>bK<|tK<|qS hF<|tR 0 m6<|bG 1 (bJ (211:Int) (.slice none 0 0) aC (0:Int) false false (.slice none 0 0) (0:Int) aC (0:Int) (.slice none 0 0)) m6 fun h27 fe zq=> ?_
  replace m6:=zq
  refine sT [] fun a hF=>cR<|rB m6 hF ?_
  replace e0:=(((e0.ext g21).grew g24 (sep.l 0)).grew gY (sep.l 1)).grew fe (sep.l 1)
  rw[kP hok hf];exact⟨fT md e0 211,e0⟩
 ·refine rS hF ?_
  replace m3:=m3.x g5
  refine tO 2 1 m3 ?_
  replace e0:=e0.ext g5
  refine tG 3 (ru _ mb mp M _ ck ea ec es (md.ext e0) s x (List.mem_append_right _ (List.mem_cons_self ..)) hs o ca cc ba bc hv hok) ?_
  rintro _ h30 ⟨rfl,fp⟩
  refine tN 7 (pV h30.size) ((bl aC (0:Int) false false (.slice none 0 0) (.slice none 0 0)).toArray) 101 fun h31 jy ot=> ?_
  replace e0:=e0.ext fp
  replace sep:=(sep.up fp.size).nw e0.size ot
  refine bG 8 (bl o.b o.e o.ho o.go (.slice ca 0 cc) (.slice ba o.dt.length bc)) ot fun uA gn zq=> ?_
  replace ot:=zq
  refine sE [(5,pV h30.size),(6,.int .i64 0)] fun a hF=>tK<|cS<|cB 0<|qP [(14,.bool false)] hF fun a hF=>cF 14 hF<|qS hF ?_
  replace m3:=((m3.x fp).x jy).y gn (sep.bp 2 0)
  refine tO 1 0 m3<|sT [(19,.bool (decide (kd=(3:Int))))] fun a hF=>cJ 19 hF (fun Cx=> ?_) fun Cx=> ?_
  ·refine rS hF<|tR 0 ot<|tG 1 (eX _ o.b o.e o.ho o.go (.slice ca 0 cc) (.slice ba o.dt.length bc)) ?_
   rintro _ h38 ⟨rfl,kF⟩
   replace m6:=(((m6.x fp).x jy).y gn (sep.bp 1 0)).x kF
   refine tV 3 2 (uX o.b o.e o.ho o.go) (bJ (0:Int) (.slice none 0 0) o.b o.e o.ho o.go (.slice none 0 0) (0:Int) aC (0:Int) (.slice none 0 0)) m6 fun Hv HB zq=> ?_
   replace m6:=zq
   refine sE [] fun a hF=>bK<|tK<|qS hF<|tR 0 m6<|bG 1 (bJ (0:Int) (.slice none 0 0) o.b o.e o.ho o.go (.slice none 0 0) (0:Int) aC (0:Int) (.slice none 0 0)) m6 fun uE gv zq=> ?_
   replace m6:=zq
   refine sT [] fun a hF=>cR<|rB m6 hF ?_
   replace e0:=((((e0.ext jy).grew gn (sep.l 0)).ext kF).grew HB (sep.l 1)).grew gv (sep.l 1)
   rw[oZ hok hf Cx];exact⟨iH md e0 rfl (Own.nil _ _ _) fg (Own.nil _ _ _) fg (Own.nil _ _ _) fg aB.nil,e0⟩
  ·refine qS hF<|tO 1 0 m3<|sT [(26,.bool (decide (kd=(16:Int))))] fun a hF=>cJ 26 hF (fun Cy=> ?_) fun Cy=> ?_
   ·refine qS hF<|tO 2 34 ot ?_
    replace m6:=((m6.x fp).x jy).y gn (sep.bp 1 0)
    refine tV 4 73 [.int .i64 o.b.idx] (bJ (0:Int) (.slice none 0 0) aC (0:Int) false false (.slice none 0 0) (0:Int) aC o.b.idx (.slice none 0 0)) m6 fun vD gN zq=> ?_
    replace m6:=zq
    refine sT [] fun a hF=>cD [0,1,0,4,12,31,63,127,127,255,767,2047,4095] 8 mixed hF<|mP 13 [0,2,3] [pV mb,pV h30.size,.pointer (some ⟨h30.size,34,none⟩)] ?_
    replace ot:=ot.y gN (sep.bp 0 1)
    refine mO 29 16 4 34 (.int .i64 o.b.idx) ot ?_
    replace kt:=(((((kt.ext g2).ext g5).ext fp).ext jy).grew gn (sep.zero 0 rfl dL)).grew gN (sep.zero 1 rfl dL)
    replace e0:=((e0.ext jy).grew gn (sep.l 0)).grew gN (sep.l 1)
    refine gA 31 3 1 [4] (Does.call (f:=37) (args:= #[.pointer (some ⟨mb,0,none⟩)]) (by kernel_rfl) (nx _ mb mp M _ ck ea ec es (md.ext e0) kt hE)) ?_
    rintro _ h50 ⟨Qh,NP,rfl,bt,Lv,g48⟩
    replace sep:=((sep.up gn.size).up gN.size).co g48 Lv bt e0.size
    replace ot:=ot.x g48
    refine⟨?_,?_⟩
    ·intro j hj
     simp only[List.mem_cons,List.not_mem_nil,or_false] at hj
     subst hj
     exact aL (Calm.load (T:=3) (p:=⟨h30.size,34,none⟩) (by kernel_rfl) (Loads.one (k:=1) (by kernel_rfl) ((ar ot).trans (rfl))))
    obtain⟨p,e,hz⟩:∃p e,c7 (cH M.E) o.b.idx =(p,e):=⟨_,_,rfl⟩
    replace kt:=kt.ext g48
    refine fW 63 63 5 (Cu _ (cH M.E) _ _ M.E.length (HR.of bt (iE _)) (by omega) o.b.idx kt p e hz) ?_
    rintro _ E5 ⟨wH,pb,rfl,aE,Lw,kG⟩
    replace e0:=e0.ext g48
    replace sep:=sep.co kG Lw aE e0.size
    refine mP 1023 [6,7,8,9] [.tuple #[.slice wH p.length pb,.int .i64 e],.slice wH p.length pb,.int .i64 e,.pointer (some ⟨h1.size,74,none⟩)] ?_
    replace m6:=(m6.x g48).x kG
    refine mV 2047 1791 10 74 [.slice wH p.length pb] (bJ (0:Int) (.slice none 0 0) aC (0:Int) false false (.slice none 0 0) (0:Int) aC o.b.idx (.slice wH p.length pb)) m6 fun C' pB zq=> ?_
    replace m6:=zq
    refine mP 4095 [11] [pV h1.size]<|mV 8191 8191 12 0 [.int .i64 e] (bJ e (.slice none 0 0) aC (0:Int) false false (.slice none 0 0) (0:Int) aC o.b.idx (.slice wH p.length pb)) m6 fun xg xh zq=> ?_
    replace m6:=zq
    refine mE [] fun a hF=>bK<|tK<|qS hF<|tR 0 m6<|bG 1 (bJ e (.slice none 0 0) aC (0:Int) false false (.slice none 0 0) (0:Int) aC o.b.idx (.slice wH p.length pb)) m6 fun h60 uB zq=> ?_
    replace m6:=zq
    refine sT [] fun a hF=>cR<|rB m6 hF ?_
    have hpp:(c7 (cH M.E) o.b.idx).1 =p:=by rw[hz]
    replace e0:=(((e0.ext kG).grew pB (sep.l 3)).grew xh (sep.l 3)).grew uB (sep.l 3)
    replace aE:=((aE.k pB (sep.ap 0 3)).k xh (sep.ap 0 3)).k uB (sep.ap 0 3)
    rw[mW hok hf Cy hz];exact⟨iH md e0 rfl (Own.nil _ _ _) fg (Own.nil _ _ _) fg aE (sep.low 0 rfl) (hpp▸qH (iE _) _),e0⟩
   ·refine qS hF<|tO 2 37 ot<|sT [(45,.bool o.go)] fun a hF=>cC 45 o.go hF (fun Fa=> ?_) (fun Fa=> ?_)
    ·have hgo:=Fa
     refine rS hF ?_
     replace m6:=((m6.x fp).x jy).y gn (sep.bp 1 0)
     refine tV 1 0 [.int .i64 213] (bJ (213:Int) (.slice none 0 0) aC (0:Int) false false (.slice none 0 0) (0:Int) aC (0:Int) (.slice none 0 0)) m6 fun h63 xY zq=> ?_
     replace m6:=zq
     refine sE [] fun a hF=>bK<|tK<|qS hF<|tR 0 m6<|bG 1 (bJ (213:Int) (.slice none 0 0) aC (0:Int) false false (.slice none 0 0) (0:Int) aC (0:Int) (.slice none 0 0)) m6 fun h65 B1 zq=> ?_
     replace m6:=zq
     refine sT [] fun a hF=>cR<|rB m6 hF ?_
     replace e0:=(((e0.ext jy).grew gn (sep.l 0)).grew xY (sep.l 1)).grew B1 (sep.l 1)
     rw[o0 hok hf Cx Cy hgo];exact⟨fT md e0 213,e0⟩
    ·have hgo:=Fa
     refine qS hF<|tO 1 0 m3<|sT [(50,.bool (decide (kd=(2:Int))))] fun a hF=>cJ 50 hF (fun wI=> ?_) fun wI=> ?_
     ·refine rS hF<|tO 1 39 ot ?_
      replace e0:=(e0.ext jy).grew gn (sep.l 0)
      refine tG 2 (eV _ o.dt o.dt.length ba bc (r2.ext e0).1.1 (by omega)) ?_
      rintro _ h72 ⟨tw,ny,rfl,aA,Fb,iF⟩
      replace sep:=(sep.up gn.size).co iF Fb aA e0.size
      replace m6:=(((m6.x fp).x jy).y gn (sep.bp 2 1)).x iF
      refine tV 4 1 [.slice tw o.dt.length ny] (bJ (0:Int) (.slice tw o.dt.length ny) aC (0:Int) false false (.slice none 0 0) (0:Int) aC (0:Int) (.slice none 0 0)) m6 fun Dc rA zq=> ?_
      replace m6:=zq
      refine sE [] fun a hF=>bK<|tK<|qS hF<|tR 0 m6<|bG 1 (bJ (0:Int) (.slice tw o.dt.length ny) aC (0:Int) false false (.slice none 0 0) (0:Int) aC (0:Int) (.slice none 0 0)) m6 fun Cq rH zq=> ?_
      replace m6:=zq
      refine sT [] fun a hF=>cR<|rB m6 hF ?_
      replace e0:=((e0.ext iF).grew rA (sep.l 2)).grew rH (sep.l 2)
      replace aA:=(aA.k rA (sep.ap 0 2)).k rH (sep.ap 0 2)
      rw[mX hok hf wI hgo];exact⟨iH md e0 rfl aA (sep.low 0 rfl) (Own.nil _ _ _) fg (Own.nil _ _ _) fg aB.nil,e0⟩
     ·refine cN<|bK<|tK<|qS hF ?_
      replace m6:=((m6.x fp).x jy).y gn (sep.bp 1 0)
      refine tR 0 m6<|bG 1 (bJ (0:Int) (.slice none 0 0) aC (0:Int) false false (.slice none 0 0) (0:Int) aC (0:Int) (.slice none 0 0)) m6 fun Qa Qi zq=> ?_
      replace m6:=zq
      refine sT [] fun a hF=>cR<|rB m6 hF ?_
      replace e0:=((e0.ext jy).grew gn (sep.l 0)).grew Qi (sep.l 1)
      rw[o5 hok hf Cx Cy wI hgo];exact⟨fT md e0 0,e0⟩
end Go.Proofs.YtegkejcglfgpmaaGreatDoor
end
section
namespace Go.Proofs.YtegkejcglfgpmaaGreatDoor
open Go Go.an Go.aT
noncomputable def b17:Code:=Tryz.f17.body.getD .skip
theorem vl{W:Nat→Prop}(h:Heap)(mb mp:Nat)(M:Md)(L:List bY)(ck:Nat)(ea:Option Addr)(ec:Nat)(es:List Value)(md:bI W h mb mp M L ck ea ec es)(kd n:Int)(s:ByteArray)(oa:Option Addr)(on oc:Nat)(ka:Option Addr)(kn kc:Nat)(hsz:s.size ≤9223372036854775807)(kt:bH h)(hE:M.E.length ≤1099511627)(A:An)(hA:dy M kd s=A):Sat Tryz.prog 34 #[.pointer (some ⟨mb,0,none⟩),.agg #[.int .i64 kd,.string s,.slice oa on oc,.int .i64 n,.slice ka kn kc]] h fun v h'=>∃qa qc ia ic pa pc,v=wk A (.slice qa A.b.length qc) (.slice ia A.i.length ic) (.slice pa A.p.length pc)∧Own h' (.slice qa A.b.length qc) 5 A.b.length 1 (A.b.map bv)∧Own h' (.slice ia A.i.length ic) 9 A.i.length 1 (A.i.map Value.string)∧Own h' (.slice pa A.p.length pc) 39 A.p.length 32 (hcs A.p)∧aB A.p ∧(∀k,AF qa ia pa k→h.size ≤k)∧dN (fun k=>W k∨AF qa ia pa k) h' mb mp M∧Ext h h':=by
 subst hA
 exact(Cw h mb mp M L ck ea ec es md kd n s oa on oc ka kn kc hsz kt hE).mono fun v h' ⟨⟨qa,qc,ia,ic,pa,pc,e,r1,r2,r3,r4,r5,r6⟩,g⟩=>⟨qa,qc,ia,ic,pa,pc,e,r1,r2,r3,r4,r5,r6,g⟩
set_option maxHeartbeats 2000000 in
theorem Lx{W:Nat→Prop}(h:Heap)(mb mp:Nat)(M:Md)(L:List bY)(ck:Nat)(ea:Option Addr)(ec:Nat)(es:List Value)(md:bI W h mb mp M L ck ea ec es)(hW:∀k,W k→k<h.size)(kd n:Int)(s:ByteArray)(l:List UInt8)(oa:Option Addr)(oc:Nat)(ka:Option Addr)(kn kc:Nat)(hr:Row h (.slice oa l.length oc) l.length 1 (l.map bv))(hsz:s.size ≤9223372036854775807)(kt:bH h)(hE:M.E.length ≤1099511627):Sat Tryz.prog 17 #[.pointer (some ⟨mb,0,none⟩),.agg #[.int .i64 kd,.string s,.slice oa l.length oc,.int .i64 n,.slice ka kn kc]] h fun v h'=>pQ W h.size h' mb mp (step M kd n s l).1 v (step M kd n s l).2 ∧MG mb mp h h':=by
 have hm:=md.hm
 have hp:=md.hp
 have e0:=Ext.refl h
 have dL:=kt.lt
 have sep:Sep h.size h.size []:=Sep.nil _ _
 refine ak Tryz.func17 78 fun a hF=>qS hF<|tN 0 (pV h.size) #[.int .i64 kd,.string s,.slice oa l.length oc,.int .i64 n,.slice ka kn kc] 35 fun h1 g2 m3=> ?_
 have oH:=ag m3
 have oI:=e0.size
 replace sep:=sep.nw e0.size m3
 refine tN 1 (pV h1.size) ((bJ (0:Int) (.slice none 0 0) aC (0:Int) false false (.slice none 0 0) (0:Int) aC (0:Int) (.slice none 0 0)).toArray) 47 fun h6 g7 m8=> ?_
 have D9:=ag m8
 replace e0:=e0.ext g2
 have qt:=e0.size
 replace sep:=sep.nw e0.size m8
 refine sT [(3,pV h.size),(4,pV h1.size)] fun a hF=>cS<|qS hF ?_
 replace m3:=m3.x g7
 refine tO 1 0 m3<|sT [(6,.int .i64 kd)] fun a hF=>cB 0<|qP [(8,.bool (decide (kd=(1:Int))))] hF fun a hF=>cJ 8 hF (fun iR=> ?_) fun iR=> ?_
 ·refine rS hF<|tO 2 1 m3<|tO 4 2 m3 ?_
  replace kt:=(kt.ext g2).ext g7
  replace e0:=e0.ext g7
  refine tG 5 (Cp _ mb mp M L ck ea ec es (md.ext e0) (fun k hk=>Nat.lt_of_lt_of_le (hW k hk) e0.size) s hsz l oa oc (hr.ext e0) kt hE) ?_
  rintro _ h12 ⟨rfl,hmod,gm⟩
  have gk:MG mb mp h h12:=(MG.aS e0).trans gm
  have hbm:=ag hm;have hbp:=ag hp
  replace m8:=gm.blk m8 (by omega) (by omega)
  replace sep:=sep.up gm.1
  refine tV 7 0 [.int .i64 ((eG M s l).2)] (bJ ((eG M s l).2) (.slice none 0 0) aC (0:Int) false false (.slice none 0 0) (0:Int) aC (0:Int) (.slice none 0 0)) m8 fun h13 g14 zq=> ?_
  replace hmod:=hmod.bE g14 m8 (by decide) (by omega)
  replace m8:=zq
  refine sE [] fun a hF=>bK<|tK<|qS hF<|tR 0 m8<|bG 1 (bJ ((eG M s l).2) (.slice none 0 0) aC (0:Int) false false (.slice none 0 0) (0:Int) aC (0:Int) (.slice none 0 0)) m8 fun h15 g16 zq=> ?_
  replace hmod:=hmod.bE g16 m8 (by decide) (by omega)
  replace m8:=zq
  refine sT [] fun a hF=>cR<|rB m8 hF ?_
  replace gk:=(gk.yK g14 (fun x e=>by cases e;omega)).yK g16 (fun x e=>by cases e;omega)
  rw[j5 iR];exact⟨kO hmod _,gk⟩
 ·refine cS<|qP [(17,.bool (decide (kd=(4:Int))))] hF fun a hF=>cJ 17 hF (fun hc17=> ?_) fun hc17=> ?_
  ·refine cN<|tK<|cJ 17 hF (fun zO=> ?_) fun zO=>absurd hc17 zO
   refine rS hF<|tR 1 m3 ?_
   replace e0:=e0.ext g7
   refine tG 2 (jq _ mb mp M L ck ea ec es (md.ext e0) kd n s oa l.length oc ka kn kc hsz) ?_
   rintro _ h19 ⟨rfl,hmod,gm⟩
   have gk:MG mb mp h h19:=(MG.aS e0).trans gm
   have hbm:=ag hm;have hbp:=ag hp
   replace m8:=gm.blk m8 (by omega) (by omega)
   replace sep:=sep.up gm.1
   refine tV 4 0 [.int .i64 ((iZ M kd n s).2)] (bJ ((iZ M kd n s).2) (.slice none 0 0) aC (0:Int) false false (.slice none 0 0) (0:Int) aC (0:Int) (.slice none 0 0)) m8 fun h20 g21 zq=> ?_
   replace hmod:=hmod.bE g21 m8 (by decide) (by omega)
   replace m8:=zq
   refine sE [] fun a hF=>bK<|tK<|qS hF<|tR 0 m8<|bG 1 (bJ ((iZ M kd n s).2) (.slice none 0 0) aC (0:Int) false false (.slice none 0 0) (0:Int) aC (0:Int) (.slice none 0 0)) m8 fun h22 g23 zq=> ?_
   replace hmod:=hmod.bE g23 m8 (by decide) (by omega)
   replace m8:=zq
   refine sT [] fun a hF=>cR<|rB m8 hF ?_
   replace gk:=(gk.yK g21 (fun x e=>by cases e;omega)).yK g23 (fun x e=>by cases e;omega)
   rw[fG (by omega)];exact⟨kO hmod _,gk⟩
  ·refine qP [(17,.bool (decide (kd=(5:Int))))] hF fun a hF=>cJ 17 hF (fun hc24=> ?_) fun hc24=> ?_
   ·refine cN<|tK<|cJ 17 hF (fun hx25=> ?_) fun hx25=>absurd hc24 hx25
    refine rS hF<|tR 1 m3 ?_
    replace e0:=e0.ext g7
    refine tG 2 (jq _ mb mp M L ck ea ec es (md.ext e0) kd n s oa l.length oc ka kn kc hsz) ?_
    rintro _ nN ⟨rfl,hmod,gm⟩
    have gk:MG mb mp h nN:=(MG.aS e0).trans gm
    have hbm:=ag hm;have hbp:=ag hp
    replace m8:=gm.blk m8 (by omega) (by omega)
    replace sep:=sep.up gm.1
    refine tV 4 0 [.int .i64 ((iZ M kd n s).2)] (bJ ((iZ M kd n s).2) (.slice none 0 0) aC (0:Int) false false (.slice none 0 0) (0:Int) aC (0:Int) (.slice none 0 0)) m8 fun h27 fe zq=> ?_
    replace hmod:=hmod.bE fe m8 (by decide) (by omega)
    replace m8:=zq
    refine sE [] fun a hF=>bK<|tK<|qS hF<|tR 0 m8<|bG 1 (bJ ((iZ M kd n s).2) (.slice none 0 0) aC (0:Int) false false (.slice none 0 0) (0:Int) aC (0:Int) (.slice none 0 0)) m8 fun GU u3 zq=> ?_
    replace hmod:=hmod.bE u3 m8 (by decide) (by omega)
    replace m8:=zq
    refine sT [] fun a hF=>cR<|rB m8 hF ?_
    replace gk:=(gk.yK fe (fun x e=>by cases e;omega)).yK u3 (fun x e=>by cases e;omega)
    rw[fG (by omega)];exact⟨kO hmod _,gk⟩
   ·refine rP [(17,.bool (decide (kd=(6:Int))))] hF fun a hF=>tK<|cJ 17 hF (fun hc31=> ?_) fun hc31=> ?_
    ·refine rS hF<|tR 1 m3 ?_
     replace e0:=e0.ext g7
     refine tG 2 (jq _ mb mp M L ck ea ec es (md.ext e0) kd n s oa l.length oc ka kn kc hsz) ?_
     rintro _ h32 ⟨rfl,hmod,gm⟩
     have gk:MG mb mp h h32:=(MG.aS e0).trans gm
     have hbm:=ag hm;have hbp:=ag hp
     replace m8:=gm.blk m8 (by omega) (by omega)
     replace sep:=sep.up gm.1
     refine tV 4 0 [.int .i64 ((iZ M kd n s).2)] (bJ ((iZ M kd n s).2) (.slice none 0 0) aC (0:Int) false false (.slice none 0 0) (0:Int) aC (0:Int) (.slice none 0 0)) m8 fun zc s4 zq=> ?_
     replace hmod:=hmod.bE s4 m8 (by decide) (by omega)
     replace m8:=zq
     refine sE [] fun a hF=>bK<|tK<|qS hF<|tR 0 m8<|bG 1 (bJ ((iZ M kd n s).2) (.slice none 0 0) aC (0:Int) false false (.slice none 0 0) (0:Int) aC (0:Int) (.slice none 0 0)) m8 fun h35 oT zq=> ?_
     replace hmod:=hmod.bE oT m8 (by decide) (by omega)
     replace m8:=zq
     refine sT [] fun a hF=>cR<|rB m8 hF ?_
     replace gk:=(gk.yK s4 (fun x e=>by cases e;omega)).yK oT (fun x e=>by cases e;omega)
     rw[fG (by omega)];exact⟨kO hmod _,gk⟩
    ·refine cS<|qP [(25,.bool (decide (kd=(2:Int))))] hF fun a hF=>cJ 25 hF (fun wJ=> ?_) fun wJ=> ?_
     ·refine cN<|tK<|cJ 25 hF (fun hx38=> ?_) fun hx38=>absurd wJ hx38
      refine qS hF<|tR 1 m3 ?_
      obtain⟨A,hA⟩:∃A,dy M kd s=A:=⟨_,rfl⟩
      have hbm:=ag hm
      replace kt:=(kt.ext g2).ext g7
      replace e0:=e0.ext g7
      refine tG 2 (vl _ mb mp M L ck ea ec es (md.ext e0) kd n s oa l.length oc ka kn kc hsz kt hE A hA) ?_
      rintro _ Hv ⟨qa,qc,ia,ic,pa,pc,rfl,r1,r2,r3,r4,hgA,hmW,g⟩
      replace hgA:=fun k e=>Nat.le_trans e0.size (hgA k e)
      replace e0:=e0.ext g
      replace kt:=kt.ext g
      replace m3:=m3.x g
      replace m8:=m8.x g
      replace sep:=sep.up g.size
      clear g
      refine bG 3 (bJ A.c (.slice qa A.b.length qc) A.sx A.se A.sh A.sg (.slice ia A.i.length ic) A.n A.y A.k (.slice pa A.p.length pc)) m8 fun AT jw zq=> ?_
      replace r1:=r1.bE jw m8 (by decide)
      replace r2:=r2.bE jw m8 (by decide)
      replace r3:=r3.bE jw m8 (by decide)
      replace hmW:=hmW.bE jw m8 (by decide) (by omega)
      replace m8:=zq
      refine sT [] fun a hF=>cR (yB (yT ?_))
      refine rB m8 hF ?_
      replace e0:=e0.grew jw (sep.l 0)
      rw[dq (by omega),hA];exact⟨⟨_,_,_,_,_,_,rfl,r1,r2,r3,r4,hgA,hmW⟩,MG.aS e0⟩
     ·refine qP [(25,.bool (decide (kd=(3:Int))))] hF fun a hF=>cJ 25 hF (fun HC=> ?_) fun HC=> ?_
      ·refine cN<|tK<|cJ 25 hF (fun HD=> ?_) fun HD=>absurd HC HD
       refine qS hF<|tR 1 m3 ?_
       obtain⟨A,hA⟩:∃A,dy M kd s=A:=⟨_,rfl⟩
       have hbm:=ag hm
       replace kt:=(kt.ext g2).ext g7
       replace e0:=e0.ext g7
       refine tG 2 (vl _ mb mp M L ck ea ec es (md.ext e0) kd n s oa l.length oc ka kn kc hsz kt hE A hA) ?_
       rintro _ vD ⟨qa,qc,ia,ic,pa,pc,rfl,r1,r2,r3,r4,hgA,hmW,g⟩
       replace hgA:=fun k e=>Nat.le_trans e0.size (hgA k e)
       replace e0:=e0.ext g
       replace kt:=kt.ext g
       replace m3:=m3.x g
       replace m8:=m8.x g
       replace sep:=sep.up g.size
       clear g
       refine bG 3 (bJ A.c (.slice qa A.b.length qc) A.sx A.se A.sh A.sg (.slice ia A.i.length ic) A.n A.y A.k (.slice pa A.p.length pc)) m8 fun h45 wK zq=> ?_
       replace r1:=r1.bE wK m8 (by decide)
       replace r2:=r2.bE wK m8 (by decide)
       replace r3:=r3.bE wK m8 (by decide)
       replace hmW:=hmW.bE wK m8 (by decide) (by omega)
       replace m8:=zq
       refine sT [] fun a hF=>cR (yB (yT ?_))
       refine rB m8 hF ?_
       replace e0:=e0.grew wK (sep.l 0)
       rw[dq (by omega),hA];exact⟨⟨_,_,_,_,_,_,rfl,r1,r2,r3,r4,hgA,hmW⟩,MG.aS e0⟩
      ·refine qP [(25,.bool (decide (kd=(16:Int))))] hF fun a hF=>cJ 25 hF (fun hc47=> ?_) fun hc47=> ?_
       ·refine cN<|tK<|cJ 25 hF (fun HE=> ?_) fun HE=>absurd hc47 HE
        refine qS hF<|tR 1 m3 ?_
        obtain⟨A,hA⟩:∃A,dy M kd s=A:=⟨_,rfl⟩
        have hbm:=ag hm
        replace kt:=(kt.ext g2).ext g7
        replace e0:=e0.ext g7
        refine tG 2 (vl _ mb mp M L ck ea ec es (md.ext e0) kd n s oa l.length oc ka kn kc hsz kt hE A hA) ?_
        rintro _ FV ⟨qa,qc,ia,ic,pa,pc,rfl,r1,r2,r3,r4,hgA,hmW,g⟩
        replace hgA:=fun k e=>Nat.le_trans e0.size (hgA k e)
        replace e0:=e0.ext g
        replace kt:=kt.ext g
        replace m3:=m3.x g
        replace m8:=m8.x g
        replace sep:=sep.up g.size
        clear g
        refine bG 3 (bJ A.c (.slice qa A.b.length qc) A.sx A.se A.sh A.sg (.slice ia A.i.length ic) A.n A.y A.k (.slice pa A.p.length pc)) m8 fun h50 qf zq=> ?_
        replace r1:=r1.bE qf m8 (by decide)
        replace r2:=r2.bE qf m8 (by decide)
        replace r3:=r3.bE qf m8 (by decide)
        replace hmW:=hmW.bE qf m8 (by decide) (by omega)
        replace m8:=zq
        refine sT [] fun a hF=>cR (yB (yT ?_))
        refine rB m8 hF ?_
        replace e0:=e0.grew qf (sep.l 0)
        rw[dq (by omega),hA];exact⟨⟨_,_,_,_,_,_,rfl,r1,r2,r3,r4,hgA,hmW⟩,MG.aS e0⟩
       ·refine rP [(25,.bool (decide (kd=(15:Int))))] hF fun a hF=>tK<|cJ 25 hF (fun Ly=> ?_) fun Ly=> ?_
        ·refine qS hF<|tR 1 m3 ?_
         obtain⟨A,hA⟩:∃A,dy M kd s=A:=⟨_,rfl⟩
         have hbm:=ag hm
         replace kt:=(kt.ext g2).ext g7
         replace e0:=e0.ext g7
         refine tG 2 (vl _ mb mp M L ck ea ec es (md.ext e0) kd n s oa l.length oc ka kn kc hsz kt hE A hA) ?_
         rintro _ Po ⟨qa,qc,ia,ic,pa,pc,rfl,r1,r2,r3,r4,hgA,hmW,g⟩
         replace hgA:=fun k e=>Nat.le_trans e0.size (hgA k e)
         replace e0:=e0.ext g
         replace kt:=kt.ext g
         replace m3:=m3.x g
         replace m8:=m8.x g
         replace sep:=sep.up g.size
         clear g
         refine bG 3 (bJ A.c (.slice qa A.b.length qc) A.sx A.se A.sh A.sg (.slice ia A.i.length ic) A.n A.y A.k (.slice pa A.p.length pc)) m8 fun Gc Be zq=> ?_
         replace r1:=r1.bE Be m8 (by decide)
         replace r2:=r2.bE Be m8 (by decide)
         replace r3:=r3.bE Be m8 (by decide)
         replace hmW:=hmW.bE Be m8 (by decide) (by omega)
         replace m8:=zq
         refine sT [] fun a hF=>cR (yB (yT ?_))
         refine rB m8 hF ?_
         replace e0:=e0.grew Be (sep.l 0)
         rw[dq (by omega),hA];exact⟨⟨_,_,_,_,_,_,rfl,r1,r2,r3,r4,hgA,hmW⟩,MG.aS e0⟩
        ·refine cS<|qP [(33,.bool (decide (kd=(7:Int))))] hF fun a hF=>cJ 33 hF (fun zP=> ?_) fun zP=> ?_
         ·refine cN<|tK<|cJ 33 hF (fun HF=> ?_) fun HF=>absurd zP HF
          refine rS hF<|tO 2 0 m3<|eF 3 kd 8 ?_
          replace e0:=e0.ext g7
          refine tG 4 (Cs _ mb mp M L ck ea ec es (md.ext e0) hE) ?_
          rintro _ Bf ⟨sy,mm,rfl,bT,Lz,qg⟩
          replace sep:=sep.co qg Lz bT e0.size
          replace m8:=m8.x qg
          refine tV 6 39 [.slice sy ((j0 M).length) mm] (bJ (0:Int) (.slice none 0 0) aC (0:Int) false false (.slice sy ((j0 M).length) mm) (0:Int) aC (0:Int) (.slice none 0 0)) m8 fun h63 xY zq=> ?_
          replace m8:=zq
          refine sE [] fun a hF=>bK<|tK<|qS hF<|tR 0 m8<|bG 1 (bJ (0:Int) (.slice none 0 0) aC (0:Int) false false (.slice sy ((j0 M).length) mm) (0:Int) aC (0:Int) (.slice none 0 0)) m8 fun h65 B1 zq=> ?_
          replace m8:=zq
          refine sT [] fun a hF=>cR<|rB m8 hF ?_
          replace e0:=((e0.ext qg).grew xY (sep.l 1)).grew B1 (sep.l 1)
          replace bT:=(bT.k xY (sep.ap 0 1)).k B1 (sep.ap 0 1)
          rw[q7 zP];exact⟨iH md e0 rfl (Own.nil _ _ _) fg bT (sep.low 0 rfl) (Own.nil _ _ _) fg aB.nil,MG.aS e0⟩
         ·refine rP [(33,.bool (decide (kd=(8:Int))))] hF fun a hF=>tK<|cJ 33 hF (fun wI=> ?_) fun wI=> ?_
          ·refine rS hF<|tO 2 0 m3<|eT 3 kd 8 ?_
           replace e0:=e0.ext g7
           refine tG 4 (Ct _ mb mp M L ck ea ec es (md.ext e0) hE) ?_
           rintro _ h72 ⟨tw,ny,rfl,bT,Fb,iF⟩
           replace sep:=sep.co iF Fb bT e0.size
           replace m8:=m8.x iF
           refine tV 6 39 [.slice tw ((e6 M).length) ny] (bJ (0:Int) (.slice none 0 0) aC (0:Int) false false (.slice tw ((e6 M).length) ny) (0:Int) aC (0:Int) (.slice none 0 0)) m8 fun Dc rA zq=> ?_
           replace m8:=zq
           refine sE [] fun a hF=>bK<|tK<|qS hF<|tR 0 m8<|bG 1 (bJ (0:Int) (.slice none 0 0) aC (0:Int) false false (.slice tw ((e6 M).length) ny) (0:Int) aC (0:Int) (.slice none 0 0)) m8 fun Cq rH zq=> ?_
           replace m8:=zq
           refine sT [] fun a hF=>cR<|rB m8 hF ?_
           replace e0:=((e0.ext iF).grew rA (sep.l 1)).grew rH (sep.l 1)
           replace bT:=(bT.k rA (sep.ap 0 1)).k rH (sep.ap 0 1)
           rw[q8 wI];exact⟨iH md e0 rfl (Own.nil _ _ _) fg bT (sep.low 0 rfl) (Own.nil _ _ _) fg aB.nil,MG.aS e0⟩
          ·refine qP [(42,.bool (decide (kd=(9:Int))))] hF fun a hF=>cJ 42 hF (fun HG=> ?_) fun HG=> ?_
           ·refine cD [0,1,3,7,15,0,32,96,255,511,1023] 18 mixed hF<|mP 7 [0,1,2] [pV mb,pV mb,.pointer (some ⟨mb,1,none⟩)] ?_
            replace e0:=e0.ext g7
            refine mO 15 8 3 1 (.slice ea M.E.length ec) (e0.blk hm)<|mP 63 [4,5] [nV M.E.length,pV mb] ?_
            replace kt:=(kt.ext g2).ext g7
            refine gA 127 96 6 [3] (Does.call (f:=37) (args:= #[.pointer (some ⟨mb,0,none⟩)]) (by kernel_rfl) (nx _ mb mp M L ck ea ec es (md.ext e0) kt hE)) ?_
            rintro _ NQ ⟨LA,HH,rfl,bt,LB,JH⟩
            replace sep:=sep.co JH LB bt e0.size
            replace e0:=e0.ext JH
            refine⟨?_,?_⟩
            ·intro j hj
             simp only[List.mem_cons,List.not_mem_nil,or_false] at hj
             subst hj
             exact aL (Calm.load (T:=67) (p:=⟨mb,1,none⟩) (by kernel_rfl) (Loads.one (k:=1) (by kernel_rfl) ((ar (e0.blk hm)).trans rfl)))
            replace kt:=kt.ext JH
            refine gA 255 224 7 [3] (Does.call (f:=36) (args:= #[.slice LA M.E.length HH]) (by kernel_rfl) (Cv _ (cH M.E) _ _ M.E.length (HR.of bt (iE _)) (by omega) kt)) ?_
            rintro _ h84 ⟨rfl,NR⟩
            replace e0:=e0.ext NR
            refine⟨?_,?_⟩
            ·intro j hj
             simp only[List.mem_cons,List.not_mem_nil,or_false] at hj
             subst hj
             exact aL (Calm.load (T:=67) (p:=⟨mb,1,none⟩) (by kernel_rfl) (Loads.one (k:=1) (by kernel_rfl) ((ar (e0.blk hm)).trans rfl)))
            refine mP 1023 [8,9] [.agg (hdc ((M.E.length :Nat):Int) (qQ (root (cH M.E)))).toArray,.pointer (some ⟨h1.size,40,none⟩)] ?_
            replace m8:=(m8.x JH).x NR
            refine mV 2047 2047 10 40 (hdc ((M.E.length :Nat):Int) (qQ (root (cH M.E)))) (bJ (0:Int) (.slice none 0 0) aC (0:Int) false false (.slice none 0 0) ((M.E.length :Nat):Int) (qQ (root (cH M.E))) (0:Int) (.slice none 0 0)) m8 fun Jg qw zq=> ?_
            replace m8:=zq
            refine mE [] fun a hF=>bK<|tK<|qS hF<|tR 0 m8<|bG 1 (bJ (0:Int) (.slice none 0 0) aC (0:Int) false false (.slice none 0 0) ((M.E.length :Nat):Int) (qQ (root (cH M.E))) (0:Int) (.slice none 0 0)) m8 fun h87 pM zq=> ?_
            replace m8:=zq
            refine sT [] fun a hF=>cR<|rB m8 hF ?_
            replace e0:=(e0.grew qw (sep.l 1)).grew pM (sep.l 1)
            rw[step_head HG];exact⟨iH md e0 rfl (Own.nil _ _ _) fg (Own.nil _ _ _) fg (Own.nil _ _ _) fg aB.nil,MG.aS e0⟩
           ·refine qP [(54,.bool (decide (kd=(10:Int))))] hF fun a hF=>cJ 54 hF (fun HI=> ?_) fun HI=> ?_
            ·refine cD [0,1,3,7,0,16,48,0,128,384,896,1920,4080,8191,16383,32767,65535] 20 mixed hF<|mP 7 [0,1,2] [pV mb,pV mb,.pointer (some ⟨mb,2,none⟩)] ?_
             replace e0:=e0.ext g7
             refine mO 15 8 3 2 (.int .i64 M.t) (e0.blk hm)<|mP 31 [4] [.pointer (some ⟨h.size,3,none⟩)]<|mO 63 40 5 3 (.int .i64 n) m3<|m1 127 6 (.int .i64 (max 0 n)) (.int .i64 (if n>(0:Int) then n else (0:Int))) (congrArg (Value.int .i64) (by omega))<|mP 1023 [7,8,9] [pV mb,pV mb,.pointer (some ⟨mb,2,none⟩)]<|mO 2047 1064 10 2 (.int .i64 M.t) (e0.blk hm)<|m1 4095 11 (.int .i64 (1099511627776 - M.t)) (.int .i64 (IntKind.i64.wrap ((1099511627776:Int) - M.t))) (congrArg (Value.int .i64) (qn (by have:=md.t0;have:=md.t1;omega) (by have:=md.t0;have:=md.t1;omega))) ?_
             refine m1 8191 12 (.int .i64 (min (max 0 n) (1099511627776 - M.t))) (.int .i64 (if (1099511627776 - M.t)<(max 0 n) then (1099511627776 - M.t) else (max 0 n))) (congrArg (Value.int .i64) (by have:=md.t0;have:=md.t1;omega))<|m1 16383 13 (.int .i64 (M.t +min (max 0 n) (1099511627776 - M.t))) (.int .i64 (IntKind.i64.wrap (M.t +min (max 0 n) (1099511627776 - M.t)))) (congrArg (Value.int .i64) (qn (by have:=md.t0;have:=md.t1;omega) (by have:=md.t0;have:=md.t1;omega)))<|mP 65535 [14,15] [pV mb,.pointer (some ⟨mb,2,none⟩)] ?_
             have hmo:=e0.blk hm
             refine jv 131071 131071 16 (Does.store (b:=mb) (off:=2) (vs:=[.int .i64 (M.t +min (max 0 n) (1099511627776 - M.t))]) (l:=[.map (some mp),.slice ea M.E.length ec,.int .i64 M.t]) (by kernel_rfl) hmo (of_decide_eq_true (by kernel_rfl)) (List.all_eq_true.1 (by kernel_rfl))) ?_
             rintro _ LC ⟨rfl,hh⟩
             have gt:=bD hh
             have hmn:LC[mb]? =some (.cells ([.map (some mp),.slice ea M.E.length ec,.int .i64 (M.t +min (max 0 n) (1099511627776 - M.t))]).toArray 83):=bX (off:=2) (vs:=[.int .i64 (M.t +min (max 0 n) (1099511627776 - M.t))]) (l:=[.map (some mp),.slice ea M.E.length ec,.int .i64 M.t]) hh (by kernel_rfl) hmo
             have ht0:=md.t0;have ht1:=md.t1
             have hmod:dN W LC mb mp ⟨M.f,M.E,(M.t +min (max 0 n) (1099511627776 - M.t))⟩:=⟨_,_,_,_,_,(md.ext e0).tick gt hmn (by omega) (by omega)⟩
             have gm:=MG.KQ (p:=mp) gt
             have gk:MG mb mp h LC:=(MG.aS e0).trans gm
             have hbm:=ag hm;have hbp:=ag hp
             replace m8:=gm.blk m8 (by omega) (by omega)
             replace sep:=sep.up gm.1
             refine mE [] fun a hF=>bK<|tK<|qS hF<|tR 0 m8<|bG 1 (bJ (0:Int) (.slice none 0 0) aC (0:Int) false false (.slice none 0 0) (0:Int) aC (0:Int) (.slice none 0 0)) m8 fun h91 NS zq=> ?_
             replace hmod:=hmod.bE NS m8 (by decide) (by omega)
             replace m8:=zq
             refine sT [] fun a hF=>cR<|rB m8 hF ?_
             replace gk:=gk.yK NS (fun x e=>by cases e;omega)
             rw[kQ HI];exact⟨kO hmod 0,gk⟩
            ·refine cS<|qP [(72,.bool (decide (kd=(11:Int))))] hF fun a hF=>cJ 72 hF (fun hc93=> ?_) fun hc93=> ?_
             ·refine cN<|tK<|cJ 72 hF (fun HJ=> ?_) fun HJ=>absurd hc93 HJ
              refine cN<|bK<|tK<|qS hF<|tR 0 m8<|bG 1 (bJ (0:Int) (.slice none 0 0) aC (0:Int) false false (.slice none 0 0) (0:Int) aC (0:Int) (.slice none 0 0)) m8 fun h95 Dy zq=> ?_
              replace m8:=zq
              refine sT [] fun a hF=>cR<|rB m8 hF ?_
              replace e0:=(e0.ext g7).grew Dy (sep.l 0)
              rw[c8 (by omega)];exact⟨fT md e0 0,MG.aS e0⟩
             ·refine qP [(72,.bool (decide (kd=(12:Int))))] hF fun a hF=>cJ 72 hF (fun HK=> ?_) fun HK=> ?_
              ·refine cN<|tK<|cJ 72 hF (fun hx98=> ?_) fun hx98=>absurd HK hx98
               refine cN<|bK<|tK<|qS hF<|tR 0 m8<|bG 1 (bJ (0:Int) (.slice none 0 0) aC (0:Int) false false (.slice none 0 0) (0:Int) aC (0:Int) (.slice none 0 0)) m8 fun Qj rI zq=> ?_
               replace m8:=zq
               refine sT [] fun a hF=>cR<|rB m8 hF ?_
               replace e0:=(e0.ext g7).grew rI (sep.l 0)
               rw[c8 (by omega)];exact⟨fT md e0 0,MG.aS e0⟩
              ·refine qP [(72,.bool (decide (kd=(13:Int))))] hF fun a hF=>cJ 72 hF (fun hc101=> ?_) fun hc101=> ?_
               ·refine cN<|tK<|cJ 72 hF (fun hx102=> ?_) fun hx102=>absurd hc101 hx102
                refine cN<|bK<|tK<|qS hF<|tR 0 m8<|bG 1 (bJ (0:Int) (.slice none 0 0) aC (0:Int) false false (.slice none 0 0) (0:Int) aC (0:Int) (.slice none 0 0)) m8 fun EE jh zq=> ?_
                replace m8:=zq
                refine sT [] fun a hF=>cR<|rB m8 hF ?_
                replace e0:=(e0.ext g7).grew jh (sep.l 0)
                rw[c8 (by omega)];exact⟨fT md e0 0,MG.aS e0⟩
               ·refine rP [(72,.bool (decide (kd=(14:Int))))] hF fun a hF=>tK<|cJ 72 hF (fun HL=> ?_) fun HL=> ?_
                ·refine cN<|bK<|tK<|qS hF<|tR 0 m8<|bG 1 (bJ (0:Int) (.slice none 0 0) aC (0:Int) false false (.slice none 0 0) (0:Int) aC (0:Int) (.slice none 0 0)) m8 fun Bk LD zq=> ?_
                 replace m8:=zq
                 refine sT [] fun a hF=>cR<|rB m8 hF ?_
                 replace e0:=(e0.ext g7).grew LD (sep.l 0)
                 rw[c8 (by omega)];exact⟨fT md e0 0,MG.aS e0⟩
                ·refine rS hF<|tV 1 0 [.int .i64 1] (bJ (1:Int) (.slice none 0 0) aC (0:Int) false false (.slice none 0 0) (0:Int) aC (0:Int) (.slice none 0 0)) m8 fun qX LF zq=> ?_
                 replace m8:=zq
                 refine sE [] fun a hF=>bK<|tK<|qS hF<|tR 0 m8<|bG 1 (bJ (1:Int) (.slice none 0 0) aC (0:Int) false false (.slice none 0 0) (0:Int) aC (0:Int) (.slice none 0 0)) m8 fun B3 LG zq=> ?_
                 replace m8:=zq
                 refine sT [] fun a hF=>cR<|rB m8 hF ?_
                 replace e0:=((e0.ext g7).grew LF (sep.l 0)).grew LG (sep.l 0)
                 rw[u6 (by omega) (by omega) (by omega) (by omega) (by omega) (by omega) (by omega) (by omega)];exact⟨fT md e0 1,MG.aS e0⟩
theorem Fc(h:Heap)(mb mp:Nat)(M:Md)(m:Mod h mb mp M)(kd n:Int)(s:ByteArray)(l:List UInt8)(oa:Option Addr)(oc:Nat)(ka:Option Addr)(kn kc:Nat)(hr:Row h (.slice oa l.length oc) l.length 1 (l.map bv))(hsz:s.size ≤9223372036854775807)(kt:bH h)(hE:M.E.length ≤1099511627):Sat Tryz.prog 17 #[.pointer (some ⟨mb,0,none⟩),.agg #[.int .i64 kd,.string s,.slice oa l.length oc,.int .i64 n,.slice ka kn kc]] h fun v h'=>AnsAt h' v (step M kd n s l).2 ∧Mod h' mb mp (step M kd n s l).1 ∧MG mb mp h h':=by
 obtain⟨L,ck,ea,ec,es,md⟩:=m
 exact(Lx h mb mp M L ck ea ec es md (fun _ e=>e.elim) kd n s l oa oc ka kn kc hr hsz kt hE).mono fun v h' ⟨a,g⟩=>⟨a.at_,a.mod,g⟩
end Go.Proofs.YtegkejcglfgpmaaGreatDoor
end
section
namespace Go.Proofs.YtegkejcglfgpmaaGreatDoor
open Go Go.an Go.aT
noncomputable def b15:Code:=Tryz.f15.body.getD .skip
theorem bI.new{W:Nat→Prop}{h:Heap}{b p:Nat}(m:h[b]? =some (.cells #[.map (some p),.slice none 0 0,.int .i64 0] 83))(hp:h[p]? =some (.map #[] 0))(kp:0<p)(kb:0<b):dN W h b p ⟨fun _=>none,[],0⟩:=
 ⟨[],0,none,0,[],{hm:=m,hp:=hp,bo:=⟨by simp,by simp⟩,nd:=by simp,ob:=by simp,al:=by simp,er:=cj.nil _ _ _,en:=⟨rfl,by simp⟩,ln:=rfl,t0:=by decide,t1:=by decide,kb:=kb,kp:=kp}⟩
theorem zQ(h:Heap)(hk0:0<h.size):Sat Tryz.prog 15 #[] h fun v h'=>∃b p,v= .pointer (some ⟨b,0,none⟩)∧Mod h' b p ⟨fun _=>none,[],0⟩∧h.size ≤b∧h.size ≤p∧Ext h h':=by
 have e0:=Ext.refl h
 have sep:Sep h.size h.size []:=Sep.nil _ _
 refine ak Tryz.func15 4 fun a hF=>qP [] hF fun a hF=>qS hF<|tF 0 (Does.new (v:= .map (some h.size)) (o:= .map #[] 0) (by kernel_rfl)) ?_
 rintro _ h1 ⟨rfl,hh⟩
 have g1:=a8 hh
 have mp:=bx hh
 clear hh
 refine tN 2 (pV h1.size) #[.map (some h.size),.slice none 0 0,.int .i64 0] 83 fun h2 g3 m4=> ?_
 have Nf:=ag m4
 replace e0:=e0.ext g1
 have AU:=e0.size
 replace sep:=(sep.up g1.size).nw e0.size m4
 refine sT [(0,pV h1.size)] fun a hF=>cR<|rT 0 (pV h1.size) hF ?_
 replace e0:=e0.ext g3
 replace mp:=Ext.blk g3 mp
 exact⟨_,_,rfl,bI.new m4 mp hk0 (by omega),by omega,Nat.le_refl _,e0⟩
noncomputable def b23:Code:=Tryz.f23.body.getD .skip
set_option maxHeartbeats 1000000 in
theorem Cz{W:Nat→Prop}(h:Heap)(mb mp:Nat)(M:Md)(L:List bY)(ck:Nat)(ea:Option Addr)(ec:Nat)(es:List Value)(md:bI W h mb mp M L ck ea ec es)(hW:∀k,W k→k<h.size)(hE:M.E.length ≤1099511627):Sat Tryz.prog 23 #[.pointer (some ⟨mb,0,none⟩)] h fun v h'=>∃c q,v= .pointer (some ⟨c,0,none⟩)∧dN W h' c q M∧h.size ≤c∧h.size ≤q∧Ext h h':=by
 have hm:=md.hm
 have hp:=md.hp
 obtain⟨aG,hg⟩:=md.choose
 have hLn:=md.ln
 have e0:=Ext.refl h
 have sep:Sep h.size h.size []:=Sep.nil _ _
 refine ak Tryz.func23 40 fun a hF=>qP [] hF fun a hF=>cS<|cD [0,1,3,7,15,31,0,64,192,448,991,0,2048,6144,14336,32767,65535,131071] 1 mixed hF<|mP 7 [0,1,2] [pV mb,pV mb,pV mb]<|mO 15 8 3 0 (.map (some mp)) (e0.blk hm)<|mL 31 24 4 (.int .i64 ((L.length :Nat):Int)) (Calm.mq (by kernel_rfl) (e0.blk hp) rfl) ?_
 refine mP 479 [6,7,8] [pV mb,pV mb,.pointer (some ⟨mb,1,none⟩)]<|mO 991 536 9 1 (.slice ea M.E.length ec) (e0.blk hm)<|mP 15327 [11,12,13] [pV mb,pV mb,.pointer (some ⟨mb,2,none⟩)]<|mO 31711 16920 14 2 (.int .i64 M.t) (e0.blk hm)<|aO.vz (is:=[5,10]) (by kernel_rfl) (by simp) ?_
 intro q hq
 simp only[List.mem_cons,List.not_mem_nil,or_false] at hq
 rcases hq with rfl|rfl
 ·refine xf 31743 63 5 [9,14] (Does.new (v:= .map (some h.size)) (o:= .map #[] 0) (by kernel_rfl)) ?_
  rintro _ h1 ⟨rfl,hh⟩
  have g:=a8 hh
  have hq:=bx hh
  have hlo:=e0.size
  have a7:=sep
  replace e0:=e0.ext g
  replace sep:=sep.up g.size
  replace sep:=a7.new hlo (ag hq)
  clear a7 hlo hh g
  refine⟨?_,?_⟩
  ·intro j hj
   simp only[List.mem_cons,List.not_mem_nil,or_false] at hj
   rcases hj with rfl|rfl
   ·exact aL (Calm.load (T:=67) (p:=⟨mb,1,none⟩) (by kernel_rfl) (Loads.one (k:=1) (by kernel_rfl) ((ar (e0.blk hm)).trans rfl)))
   ·exact aL (Calm.load (T:=3) (p:=⟨mb,2,none⟩) (by kernel_rfl) (Loads.one (k:=1) (by kernel_rfl) ((ar (e0.blk hm)).trans rfl)))
  refine gA 32767 2047 10 [14] (Does.call (f:=44) (args:= #[.slice ea M.E.length ec]) (by kernel_rfl) (nj _ es M.E.length ea ec (md.er.1.1.ext e0) (by omega) (fI md.en))) ?_
  rintro _ h6 ⟨cW,cap3,rfl,aD,hg5,g4⟩
  replace sep:=sep.co g4 hg5 aD e0.size
  replace e0:=e0.ext g4
  refine⟨?_,?_⟩
  ·intro j hj
   simp only[List.mem_cons,List.not_mem_nil,or_false] at hj
   subst hj
   exact aL (Calm.load (T:=3) (p:=⟨mb,2,none⟩) (by kernel_rfl) (Loads.one (k:=1) (by kernel_rfl) ((ar (e0.blk hm)).trans rfl)))
  refine mP 65535 [15] [.agg #[.map (some h.size),.slice cW M.E.length cap3,.int .i64 M.t]]<|mN 131071 131071 16 (pV h6.size) #[.map (some h.size),.slice cW M.E.length cap3,.int .i64 M.t] 83 fun h7 g8 m9=> ?_
  replace sep:=sep.nw e0.size m9
  refine mP 262143 [17] [pV h6.size]<|mE [(3,pV h6.size)] fun a hF=>tK<|cS<|qS hF ?_
  replace e0:=e0.ext g8
  refine tO 3 0 (e0.blk hm)<|tF 4 (Does.range (t:=81) (k:=9) (el:=101) (by kernel_rfl) (by kernel_rfl) (e0.blk hp)) ?_
  rintro _ h10 ⟨rfl,hh⟩
  have g:=a8 hh
  have hit:=bx hh
  have hlo:=e0.size
  have a7:=sep
  replace hq:=g8.blk (g4.blk hq)
  replace aD:=aD.ext g8
  replace e0:=e0.ext g
  replace hq:=g.blk hq
  replace aD:=aD.ext g
  replace m9:=m9.x g
  replace sep:=sep.up g.size
  replace sep:=a7.new hlo (ag hit)
  clear a7 hlo hh g
  refine sT [(27,pV h7.size)] fun a hF=>cB 0 ?_
  have hq:h10[h.size]? =some (.map (ents ([]:List bY)) ([]:List bY).length):=hq
  refine cL (fun m a h'=>∃D:List bY,∃R:List bY,∃N:List bY,m=R.length ∧(Ext h h')∧(h'[h6.size]? =some (.cells #[.map (some h.size),.slice cW M.E.length cap3,.int .i64 M.t] 83))∧((D++R).Perm L)∧(N.map pr=D.map pr)∧(Born N N.length)∧(h'[h7.size]? =some (qA mp ck D))∧(h'[h.size]? =some (.map (ents N) N.length))∧(Own h' (.slice cW M.E.length cap3) 32 M.E.length 1 es)∧(Sep h.size h'.size [some (h7.size),some (h6.size),cW.map (·.block),some (h.size)])∧(Fr a 40 [(3,.pointer (some ⟨h6.size,0,none⟩)),(27,.pointer (some ⟨h7.size,0,none⟩))])) (L.length) ⟨[],L,[],rfl,e0,m9,(List.Perm.refl _),rfl,Born.nil,hit,hq,aD,sep,hF.to⟩ ?_
  clear hF a
  clear e0
  clear m9
  clear hit
  clear hq
  clear aD
  clear sep
  rintro m a h11 ⟨D,R,N,rfl,e0,m9,hP,hN,hB,hit,hq,aD,sep,hF⟩
  refine cS ?_
  rcases(by cases R<;>simp:R=[]∨R≠[]) with hR|hR
  ·refine rS hF<|tC 0 (.tuple #[.bool false]) (jY (by kernel_rfl) hit (e0.blk hp) hP md.bo hR)<|sE [(29,.bool false)] fun a hF=>tK<|cS<|cF 29 hF<|cX 0 (xT (xT (xB ?_)))
   refine tK<|qP [(2,pV h6.size)] hF fun a hF=>cR<|rT 2 (pV h6.size) hF ?_
   subst hR
   rw[List.append_nil] at hP
   exact⟨_,_,rfl,md.cloned e0 m9 hq hN hP hB aD (sep.low 1 rfl _ rfl) (sep.low 3 rfl _ rfl) hW (sep.low 2 rfl),sep.low 1 rfl _ rfl,sep.low 3 rfl _ rfl,e0⟩
  ·refine rS hF<|tF 0 (gW (by kernel_rfl) hit (e0.blk hp) hP md.bo hR) ?_
   rintro _ h12 ⟨x,R',hP2,hRl,hxL,rfl,hh⟩
   obtain⟨hit2,gi⟩:=jZ hh hit
   replace e0:=e0.grew gi (sep.l 0)
   replace aD:=aD.k gi (sep.ap 2 0)
   replace hit:=hit
   replace hq:=gi.blk hq (sep.bp 3 0)
   replace m9:=m9.y gi (sep.bp 1 0)
   replace sep:=sep.up gi.size
   clear hit;have hit:=hit2;clear hit2 hh gi
   have hh3:=hg x hxL
   have hDl:D.length <L.length :=by have:=hP2.length_eq;simp at this;omega
   refine sE [(29,.bool true)] fun a hF=>tK<|cS<|cT 29 hF<|cN<|tK<|cB 1 ?_
   refine qS hF<|tC 0 (.tuple #[.string x.1,.agg (bl ((aN aG x).b) ((aN aG x).e) ((aN aG x).ho) ((aN aG x).go) (.slice (aN aG x).ad ((aN aG x).n) ((aN aG x).cap)) (.slice (aG x).ba ((aG x).o.dt.length) ((aG x).bc))).toArray]) (mD (by kernel_rfl) hit (e0.blk hp) hxL md.bo hh3.hv)<|tN 3 (pV h12.size) ((bl aC (0:Int) false false (.slice none 0 0) (.slice none 0 0)).toArray) 101 fun h13 g14 m15=> ?_
   replace sep:=sep.nw e0.size m15
   refine bG 5 (bl ((aN aG x).b) ((aN aG x).e) ((aN aG x).ho) ((aN aG x).go) (.slice (aN aG x).ad ((aN aG x).n) ((aN aG x).cap)) (.slice (aG x).ba ((aG x).o.dt.length) ((aG x).bc))) m15 fun h16 g17 zq=> ?_
   replace m15:=zq
   refine sT [(4,.string x.1),(5,pV h12.size)] fun a hF=>cD [0,1,3,7,0,0,63] 5 mixed hF<|mP 7 [0,1,2] [pV h6.size,pV h6.size,pV h6.size] ?_
   replace m9:=(m9.x g14).y g17 (sep.bp 2 0)
   refine mO 15 8 3 0 (.map (some h.size)) m9<|mP 31 [4] [.string x.1]<|mR 63 40 5 m15 ?_
   replace hq:=g17.blk (g14.blk hq) (sep.bp 4 0)
   refine jv 127 127 6 (Does.sG (t:=81) (k:=9) (el:=101) (v:= .agg (bl ((aN aG x).b) ((aN aG x).e) ((aN aG x).ho) ((aN aG x).go) (.slice (aN aG x).ad ((aN aG x).n) ((aN aG x).cap)) (.slice (aG x).ba ((aG x).o.dt.length) ((aG x).bc))).toArray) (by kernel_rfl) (by kernel_rfl) (by kernel_rfl) hq (zn hN hP2 md.nd)) ?_
   rintro _ h18 ⟨rfl,hh⟩
   have gq:=bD hh
   have hq2:=fD hh hq
   replace e0:=(e0.ext g14).grew g17 (sep.l 0)
   replace aD:=(aD.ext g14).k g17 (sep.ap 3 0)
   replace hit:=g17.blk (g14.blk hit) (sep.bp 1 0)
   replace sep:=sep.up g17.size
   replace e0:=e0.grew gq (sep.l 4)
   replace aD:=aD.k gq (sep.ap 3 4)
   replace hit:=gq.blk hit (sep.bp 1 4)
   replace hq:=hq
   replace m9:=m9.y gq (sep.bp 2 4)
   replace m15:=m15.y gq (sep.bp 0 4)
   replace sep:=sep.up gq.size
   rw[show N.length +1=(N++[(x.1,(.agg (bl ((aN aG x).b) ((aN aG x).e) ((aN aG x).ho) ((aN aG x).go) (.slice (aN aG x).ad ((aN aG x).n) ((aN aG x).cap)) (.slice (aG x).ba ((aG x).o.dt.length) ((aG x).bc))).toArray :Value),N.length)]).length by rw[List.length_append];rfl] at hq2
   clear hq;have hq:=hq2;clear hq2 hh gq
   refine mE [] fun a hF=>bK ?_
   clear m15
   replace sep:=sep.sub (l':=[some (h7.size),some (h6.size),cW.map (·.block),some (h.size)]) (.cons _ (.cons_cons _ (.cons_cons _ (.cons_cons _ (.cons_cons _ (.slnil))))))
   show ∃m',m'<_∧_
   refine⟨_,?_,(D++[x]),R',(N++[(x.1,_,N.length)]),rfl,e0,m9,hP2,(u7 hN hh3.hv _),(hB.one _ _),hit,hq,aD,sep,hF.to⟩
   omega
 ·refine xf 32735 2015 10 [14] (Does.call (f:=44) (args:= #[.slice ea M.E.length ec]) (by kernel_rfl) (nj _ es M.E.length ea ec (md.er.1.1.ext e0) (by omega) (fI md.en))) ?_
  rintro _ h23 ⟨gX,fE,rfl,aD,Fe,g21⟩
  replace sep:=sep.co g21 Fe aD e0.size
  replace e0:=e0.ext g21
  refine⟨?_,?_⟩
  ·intro j hj
   simp only[List.mem_cons,List.not_mem_nil,or_false] at hj
   subst hj
   exact aL (Calm.load (T:=3) (p:=⟨mb,2,none⟩) (by kernel_rfl) (Loads.one (k:=1) (by kernel_rfl) ((ar (e0.blk hm)).trans rfl)))
  refine gA 32767 2047 5 [14] (Does.new (v:= .map (some h23.size)) (o:= .map #[] 0) (by kernel_rfl)) ?_
  rintro _ jK ⟨rfl,hh⟩
  have g:=a8 hh
  have hq:=bx hh
  have hlo:=e0.size
  have a7:=sep
  replace e0:=e0.ext g
  replace aD:=aD.ext g
  replace sep:=sep.up g.size
  replace sep:=a7.new hlo (ag hq)
  clear a7 hlo hh g
  refine⟨?_,?_⟩
  ·intro j hj
   simp only[List.mem_cons,List.not_mem_nil,or_false] at hj
   subst hj
   exact aL (Calm.load (T:=3) (p:=⟨mb,2,none⟩) (by kernel_rfl) (Loads.one (k:=1) (by kernel_rfl) ((ar (e0.blk hm)).trans rfl)))
  refine mP 65535 [15] [.agg #[.map (some h23.size),.slice gX M.E.length fE,.int .i64 M.t]]<|mN 131071 131071 16 (pV jK.size) #[.map (some h23.size),.slice gX M.E.length fE,.int .i64 M.t] 83 fun lD gY jx=> ?_
  replace sep:=sep.nw e0.size jx
  refine mP 262143 [17] [pV jK.size]<|mE [(3,pV jK.size)] fun a hF=>tK<|cS<|qS hF ?_
  replace e0:=e0.ext gY
  refine tO 3 0 (e0.blk hm)<|tF 4 (Does.range (t:=81) (k:=9) (el:=101) (by kernel_rfl) (by kernel_rfl) (e0.blk hp)) ?_
  rintro _ h28 ⟨rfl,hh⟩
  have g:=a8 hh
  have hit:=bx hh
  have hlo:=e0.size
  have a7:=sep
  replace aD:=aD.ext gY
  replace hq:=gY.blk hq
  replace e0:=e0.ext g
  replace aD:=aD.ext g
  replace hq:=g.blk hq
  replace jx:=jx.x g
  replace sep:=sep.up g.size
  replace sep:=a7.new hlo (ag hit)
  clear a7 hlo hh g
  refine sT [(27,pV lD.size)] fun a hF=>cB 0 ?_
  have hq:h28[h23.size]? =some (.map (ents ([]:List bY)) ([]:List bY).length):=hq
  refine cL (fun m a h'=>∃D:List bY,∃R:List bY,∃N:List bY,m=R.length ∧(Ext h h')∧(h'[jK.size]? =some (.cells #[.map (some h23.size),.slice gX M.E.length fE,.int .i64 M.t] 83))∧((D++R).Perm L)∧(N.map pr=D.map pr)∧(Born N N.length)∧(h'[lD.size]? =some (qA mp ck D))∧(h'[h23.size]? =some (.map (ents N) N.length))∧(Own h' (.slice gX M.E.length fE) 32 M.E.length 1 es)∧(Sep h.size h'.size [some (lD.size),some (jK.size),some (h23.size),gX.map (·.block)])∧(Fr a 40 [(3,.pointer (some ⟨jK.size,0,none⟩)),(27,.pointer (some ⟨lD.size,0,none⟩))])) (L.length) ⟨[],L,[],rfl,e0,jx,(List.Perm.refl _),rfl,Born.nil,hit,hq,aD,sep,hF.to⟩ ?_
  clear hF a
  clear e0
  clear jx
  clear hit
  clear hq
  clear aD
  clear sep
  rintro m a GU ⟨D,R,N,rfl,e0,jx,hP,hN,hB,hit,hq,aD,sep,hF⟩
  refine cS ?_
  rcases(by cases R<;>simp:R=[]∨R≠[]) with hR|hR
  ·refine rS hF<|tC 0 (.tuple #[.bool false]) (jY (by kernel_rfl) hit (e0.blk hp) hP md.bo hR)<|sE [(29,.bool false)] fun a hF=>tK<|cS<|cF 29 hF<|cX 0 (xT (xT (xB ?_)))
   refine tK<|qP [(2,pV jK.size)] hF fun a hF=>cR<|rT 2 (pV jK.size) hF ?_
   subst hR
   rw[List.append_nil] at hP
   exact⟨_,_,rfl,md.cloned e0 jx hq hN hP hB aD (sep.low 1 rfl _ rfl) (sep.low 2 rfl _ rfl) hW (sep.low 3 rfl),sep.low 1 rfl _ rfl,sep.low 2 rfl _ rfl,e0⟩
  ·refine rS hF<|tF 0 (gW (by kernel_rfl) hit (e0.blk hp) hP md.bo hR) ?_
   rintro _ h30 ⟨x,R',hP2,hRl,hxL,rfl,hh⟩
   obtain⟨hit2,gi⟩:=jZ hh hit
   replace e0:=e0.grew gi (sep.l 0)
   replace aD:=aD.k gi (sep.ap 3 0)
   replace hit:=hit
   replace hq:=gi.blk hq (sep.bp 2 0)
   replace jx:=jx.y gi (sep.bp 1 0)
   replace sep:=sep.up gi.size
   clear hit;have hit:=hit2;clear hit2 hh gi
   have hh3:=hg x hxL
   have hDl:D.length <L.length :=by have:=hP2.length_eq;simp at this;omega
   refine sE [(29,.bool true)] fun a hF=>tK<|cS<|cT 29 hF<|cN<|tK<|cB 1 ?_
   refine qS hF<|tC 0 (.tuple #[.string x.1,.agg (bl ((aN aG x).b) ((aN aG x).e) ((aN aG x).ho) ((aN aG x).go) (.slice (aN aG x).ad ((aN aG x).n) ((aN aG x).cap)) (.slice (aG x).ba ((aG x).o.dt.length) ((aG x).bc))).toArray]) (mD (by kernel_rfl) hit (e0.blk hp) hxL md.bo hh3.hv)<|tN 3 (pV h30.size) ((bl aC (0:Int) false false (.slice none 0 0) (.slice none 0 0)).toArray) 101 fun h31 jy ot=> ?_
   replace sep:=sep.nw e0.size ot
   refine bG 5 (bl ((aN aG x).b) ((aN aG x).e) ((aN aG x).ho) ((aN aG x).go) (.slice (aN aG x).ad ((aN aG x).n) ((aN aG x).cap)) (.slice (aG x).ba ((aG x).o.dt.length) ((aG x).bc))) ot fun uA gn zq=> ?_
   replace ot:=zq
   refine sT [(4,.string x.1),(5,pV h30.size)] fun a hF=>cD [0,1,3,7,0,0,63] 5 mixed hF<|mP 7 [0,1,2] [pV jK.size,pV jK.size,pV jK.size] ?_
   replace jx:=(jx.x jy).y gn (sep.bp 2 0)
   refine mO 15 8 3 0 (.map (some h23.size)) jx<|mP 31 [4] [.string x.1]<|mR 63 40 5 ot ?_
   replace hq:=gn.blk (jy.blk hq) (sep.bp 3 0)
   refine jv 127 127 6 (Does.sG (t:=81) (k:=9) (el:=101) (v:= .agg (bl ((aN aG x).b) ((aN aG x).e) ((aN aG x).ho) ((aN aG x).go) (.slice (aN aG x).ad ((aN aG x).n) ((aN aG x).cap)) (.slice (aG x).ba ((aG x).o.dt.length) ((aG x).bc))).toArray) (by kernel_rfl) (by kernel_rfl) (by kernel_rfl) hq (zn hN hP2 md.nd)) ?_
   rintro _ Ga ⟨rfl,hh⟩
   have gq:=bD hh
   have hq2:=fD hh hq
   replace e0:=(e0.ext jy).grew gn (sep.l 0)
   replace aD:=(aD.ext jy).k gn (sep.ap 4 0)
   replace hit:=gn.blk (jy.blk hit) (sep.bp 1 0)
   replace sep:=sep.up gn.size
   replace e0:=e0.grew gq (sep.l 3)
   replace aD:=aD.k gq (sep.ap 4 3)
   replace hit:=gq.blk hit (sep.bp 1 3)
   replace hq:=hq
   replace jx:=jx.y gq (sep.bp 2 3)
   replace ot:=ot.y gq (sep.bp 0 3)
   replace sep:=sep.up gq.size
   rw[show N.length +1=(N++[(x.1,(.agg (bl ((aN aG x).b) ((aN aG x).e) ((aN aG x).ho) ((aN aG x).go) (.slice (aN aG x).ad ((aN aG x).n) ((aN aG x).cap)) (.slice (aG x).ba ((aG x).o.dt.length) ((aG x).bc))).toArray :Value),N.length)]).length by rw[List.length_append];rfl] at hq2
   clear hq;have hq:=hq2;clear hq2 hh gq
   refine mE [] fun a hF=>bK ?_
   clear ot
   replace sep:=sep.sub (l':=[some (lD.size),some (jK.size),some (h23.size),gX.map (·.block)]) (.cons _ (.cons_cons _ (.cons_cons _ (.cons_cons _ (.cons_cons _ (.slnil))))))
   show ∃m',m'<_∧_
   refine⟨_,?_,(D++[x]),R',(N++[(x.1,_,N.length)]),rfl,e0,jx,hP2,(u7 hN hh3.hv _),(hB.one _ _),hit,hq,aD,sep,hF.to⟩
   omega
noncomputable def b20:Code:=Tryz.f20.body.getD .skip
theorem HM{W:Nat→Prop}(h:Heap)(mb mp:Nat)(M:Md)(L:List bY)(ck:Nat)(ea:Option Addr)(ec:Nat)(es:List Value)(md:bI W h mb mp M L ck ea ec es):Sat Tryz.prog 20 #[.pointer (some ⟨mb,0,none⟩)] h fun v h'=>v= .int .i64 M.t ∧h'=h:=by
 refine ak Tryz.func20 7 fun a hF=>qP [] hF fun a hF=>qS hF<|tC 3 (.int .i64 M.t) (Calm.load (T:=3) (p:=⟨mb,2,none⟩) (by kernel_rfl) (Loads.one (k:=1) (by kernel_rfl) ((ar md.hm).trans rfl)))<|sT [(2,.int .i64 M.t)] fun a hF=>cR<|rT 2 (.int .i64 M.t) hF ?_
 exact⟨rfl,rfl⟩
end Go.Proofs.YtegkejcglfgpmaaGreatDoor
end
section
namespace Go.aT
open Go Go.an
/-! ### two models are the same -/
def rJ(o p:Ob):Prop:=ep o.b o.e o.ho o.go p.b p.e p.ho p.go =true∧o.dt =p.dt
def nz:Option Ob→Option Ob→Prop
  |none,none=>True
  |some o,some p=>rJ o p
  |_,_=>False
def eY(M N:Md):Prop:=(∀s,nz (M.f s) (N.f s))∧M.E =N.E
open Classical in
noncomputable def cd(M N:Md):Bool:=decide (eY M N)
section
variable {M N:Md} {s:ByteArray} {o p:Ob} {k:Nat}
theorem ie(h:eY M N):cd M N=true:=by unfold cd;simp[h]
theorem db(h:¬eY M N):cd M N=false:=by unfold cd;simp[h]
theorem rJ.refl(o:Ob):rJ o o:=⟨fH ..,rfl⟩
theorem nz.refl :∀o:Option Ob,nz o o
  |none=>trivial
  |some o=>rJ.refl o
theorem tx(h:M.E.length ≠N.E.length):¬eY M N:=fun k=>h (by rw[k.2])
theorem CB(h:M.f s=some o)(k:N.f s=none):¬eY M N:=fun q=>by have:=q.1 s;rw[h,k] at this;exact this
theorem lW(h:M.f s=some o)(k:N.f s=some p)(n:¬rJ o p):¬eY M N:=fun q=>by have:=q.1 s;rw[h,k] at this;exact n this
theorem zR{e e':List UInt8}(h:M.E[k]? =some e)(j:N.E[k]? =some e')(n:e≠e'):¬eY M N:=fun q=>by rw[q.2,j] at h;cases h;exact n rfl
theorem vm(h:M.f s=some o)(k:N.f s=some p)(n:rJ o p):nz (M.f s) (N.f s):=by rw[h,k];exact n
theorem pd(h:∀i,i<k→M.E[i]? =N.E[i]?)(e:M.E[k]? =N.E[k]?):∀i,i<k+1→M.E[i]? =N.E[i]? :=fun i hi=>by
  rcases Nat.lt_succ_iff_lt_or_eq.1 hi with h1|rfl
  · exact h i h1
  · exact e
theorem rK(hl:M.E.length =N.E.length)(h:∀i,i<k→M.E[i]? =N.E[i]?)(hk:k=M.E.length):M.E =N.E :=List.ext_getElem? fun i=>by
  by_cases hi:i<k
  · exact h i hi
  · rw[List.getElem?_eq_none (by omega),List.getElem?_eq_none (by omega)]
theorem HN(N:Md)(s:ByteArray)(o:Ob):N.f s=none∨∃p,N.f s=some p∧(ep o.b o.e o.ho o.go p.b p.e p.ho p.go =false∨(ep o.b o.e o.ho o.go p.b p.e p.ho p.go =true∧o.dt ≠p.dt)∨(ep o.b o.e o.ho o.go p.b p.e p.ho p.go =true∧o.dt =p.dt)):=by
  cases h:N.f s with
  |none=>exact .inl rfl
  | some p =>
    refine .inr ⟨p,rfl, ?_⟩
    cases e:ep o.b o.e o.ho o.go p.b p.e p.ho p.go with
    |false=>exact .inl rfl
    |true=>by_cases d:o.dt =p.dt;exact .inr (.inr ⟨rfl,d⟩);exact .inr (.inl ⟨rfl,d⟩)
theorem Dz(h:ep o.b o.e o.ho o.go p.b p.e p.ho p.go =false):¬rJ o p:=fun k=>by rw[k.1] at h;cases h
theorem DA(h:o.dt ≠p.dt):¬rJ o p:=fun k=>h k.2
end
theorem HO{a b:List UInt8}(h:a≠b):(ByteArray.mk a.toArray)≠ByteArray.mk b.toArray :=fun e=>h (by have:=congrArg (fun x:ByteArray=>x.data.toList) e;simpa using this)
theorem pX{a b:List UInt8}(h:a≠b):(!((ByteArray.mk a.toArray).toList ==(ByteArray.mk b.toArray).toList))=true:=by rw[eH,decide_eq_false (HO h)];rfl
theorem pY{a b:List UInt8}(h:a=b):(!((ByteArray.mk a.toArray).toList ==(ByteArray.mk b.toArray).toList))=false:=by subst h;rw[eH,decide_eq_true rfl];rfl
theorem bI.HP {W W2 : Nat → Prop} {h : Heap} {b p c q : Nat} {M N : Md} {L L2 : List bY} {ck ck2 : Nat} {ea lI : Option Addr} {ec ke : Nat} {es es2 : List Value} (m : bI W h b p M L ck ea ec es) (n : bI W2 h c q N L2 ck2 lI ke es2) (hl : M.E.length = N.E.length) (ha : ∀ x ∈ L, nz (M.f x.1) (N.f x.1)) (s : ByteArray) : nz (M.f s) (N.f s) := by
  cases hf:M.f s with
  |some o=>obtain⟨x,hx,rfl⟩:=m.al s o hf;rw[←hf];exact ha x hx
  | none =>
    cases hg:N.f s with
    |none=>trivial
    | some r =>
      exfalso
      have hs:∀x∈L,x.1 ≠s:=fun x hx e=>by obtain⟨o,h1,_⟩:=m.ob x hx;rw[e,hf] at h1;cases h1
      have nd:(s::L.map fun x=>x.1).Nodup :=List.nodup_cons.2 ⟨fun e=>by obtain⟨x,hx,e⟩:=List.mem_map.1 e;exact hs x hx e,m.nd⟩
      have hin:(s::L.map fun x=>x.1) ⊆ L2.map fun x=>x.1 :=fun t ht=>by
        rcases List.mem_cons.1 ht with rfl|ht
        · obtain⟨y,hy,e⟩:=n.al _ _ hg;exact List.mem_map.2 ⟨y,hy,e⟩
        · obtain ⟨x, hx, rfl⟩ := List.mem_map.1 ht
          obtain⟨o,h1,_⟩:=m.ob x hx
          have:=ha x hx
          rw[h1] at this
          cases hn:N.f x.1 with
          |none=>rw[hn] at this;exact this.elim
          |some r=>obtain⟨y,hy,e⟩:=n.al _ _ hn;exact List.mem_map.2 ⟨y,hy,e⟩
      have:=nd.length_le_of_subset hin
      simp only[List.length_cons,List.length_map] at this
      have h1:=m.ln
      have h2:=n.ln
      omega
theorem bI.HQ{W:Nat→Prop}{h:Heap}{b p:Nat}{M:Md}{L:List bY}{ck:Nat}{ea:Option Addr}{ec:Nat}{es:List Value}(m:bI W h b p M L ck ea ec es){s:ByteArray}(hf:M.f s=none):∀y∈L,y.1 ≠s:=fun y hy e=>by
  obtain⟨o,h1,_⟩:=m.ob y hy;rw[e,hf] at h1;cases h1
theorem zS{α:Type}{P:α→Prop}{D:List α}{x:α}(h:∀y∈D,P y)(k:P x):∀y∈D++[x],P y:=fun y hy=>(List.mem_append.1 hy).elim (h y) fun e=>by rw[List.mem_singleton.1 e];exact k
end Go.aT
end
section
namespace Go.Proofs.YtegkejcglfgpmaaGreatDoor
open Go Go.an Go.aT
noncomputable def b25:Code:=Tryz.f25.body.getD .skip
set_option maxHeartbeats 1000000 in
theorem nA{W:Nat→Prop}(h:Heap)(mb mp:Nat)(M:Md)(L:List bY)(ck:Nat)(ea:Option Addr)(ec:Nat)(es:List Value)(md:bI W h mb mp M L ck ea ec es){W2:Nat→Prop}(nb np:Nat)(N:Md)(L2:List bY)(ck2:Nat)(lI:Option Addr)(ke:Nat)(es2:List Value)(gy:bI W2 h nb np N L2 ck2 lI ke es2)(hl:M.E.length ≤2199023255552):Sat Tryz.prog 25 #[.pointer (some ⟨mb,0,none⟩),.pointer (some ⟨nb,0,none⟩)] h fun v h'=>v= .bool (cd M N)∧Ext h h':=by
 have hm:=md.hm
 have hp:=md.hp
 have hm2:=gy.hm
 have hp2:=gy.hp
 have hLn:=md.ln
 have LH:=gy.ln
 obtain⟨aG,hg⟩:=md.choose
 have e0:=Ext.refl h
 have sep:Sep h.size h.size []:=Sep.nil _ _
 refine ak Tryz.func25 94 fun a hF=>qP [] hF fun a hF=>cS<|cS ?_
 rcases(by omega:M.E.length =N.E.length ∨M.E.length ≠N.E.length) with hEl|hEl
 ·refine cD [0,1,3,7,15,0,32,96,224,511,1023,2047,4095,8191,16383,32767,65535,4095,135167,397311,921599,1970175,4194303,8388607] 1 mixed hF<|mP 7 [0,1,2] [pV mb,pV mb,pV mb]<|mO 15 8 3 0 (.map (some mp)) (e0.blk hm)<|mL 31 24 4 (.int .i64 ((L.length :Nat):Int)) (Calm.mq (by kernel_rfl) (e0.blk hp) rfl)<|mP 255 [5,6,7] [pV nb,pV nb,pV nb]<|mO 511 280 8 0 (.map (some np)) (e0.blk hm2)<|mL 1023 792 9 (.int .i64 ((L2.length :Nat):Int)) (Calm.mq (by kernel_rfl) (e0.blk hp2) rfl) ?_
  refine Ja 2047 10 ((L.length :Nat):Int) ((L2.length :Nat):Int)<|mP 32767 [11,12,13,14] [.bool false,pV mb,pV mb,.pointer (some ⟨mb,1,none⟩)]<|mO 65535 33560 15 1 (.slice ea M.E.length ec) (e0.blk hm)<|mP 1048575 [16,17,18,19] [nV M.E.length,pV nb,pV nb,.pointer (some ⟨nb,1,none⟩)]<|mO 2097151 1082136 20 1 (.slice lI N.E.length ke) (e0.blk hm2)<|mP 4194303 [21] [nV N.E.length]<|Ja 8388607 22 ((M.E.length :Nat):Int) ((N.E.length :Nat):Int) ?_
  refine mP 16777215 [23] [.bool false]<|mE [(34,.bool false)] fun a hF=>tK<|cF 34 hF<|cN<|tK<|cS ?_
  refine qS hF<|tO 3 0 (e0.blk hm)<|tF 4 (Does.range (t:=81) (k:=9) (el:=101) (by kernel_rfl) (by kernel_rfl) (e0.blk hp)) ?_
  rintro _ h1 ⟨rfl,hh⟩
  have g:=a8 hh
  have hit:=bx hh
  have hlo:=e0.size
  have a7:=sep
  replace e0:=e0.ext g
  replace sep:=sep.up g.size
  replace sep:=a7.new hlo (ag hit)
  clear a7 hlo hh g
  refine sT [(39,pV h.size)] fun a hF=>cB 0<|cL (fun m a h'=>∃D:List bY,∃R:List bY,m=R.length ∧(Ext h h')∧((D++R).Perm L)∧(∀x∈D,nz (M.f x.1) (N.f x.1))∧(h'[h.size]? =some (qA mp ck D))∧(Sep h.size h'.size [some (h.size)])∧(Fr a 94 [(0,.pointer (some ⟨mb,0,none⟩)),(1,.pointer (some ⟨nb,0,none⟩)),(39,.pointer (some ⟨h.size,0,none⟩))])) (L.length) ⟨[],L,rfl,e0,(List.Perm.refl _),(fun _ h=>by cases h),hit,sep,hF.to⟩ ?_
  clear hF a
  clear e0
  clear hit
  clear sep
  rintro m a h2 ⟨D,R,rfl,e0,hP,hall,hit,sep,hF⟩
  refine cS ?_
  rcases(by cases R<;>simp:R=[]∨R≠[]) with hR|hR
  ·refine rS hF<|tC 0 (.tuple #[.bool false]) (jY (by kernel_rfl) hit (e0.blk hp) hP md.bo hR)<|sE [(41,.bool false)] fun a hF=>tK<|cS<|cF 41 hF<|cX 0 (xT (xT (xB ?_)))
   refine tK<|cS<|qS hF<|tO 3 1 (e0.blk hm)<|sT [(75,.slice ea M.E.length ec),(76,nV M.E.length),(77,.int .i64 0)] fun a hF=>cB 2 ?_
   subst hR
   rw[List.append_nil] at hP
   refine cL (fun m a h'=>∃k:Nat,m=M.E.length - k∧(Ext h h')∧(k≤M.E.length)∧(∀i,i<k→M.E[i]? =N.E[i]?)∧(Fr a 94 [(1,.pointer (some ⟨nb,0,none⟩)),(75,.slice ea M.E.length ec),(76,.int .i64 ((M.E.length :Nat):Int)),(77,.int .i64 ((k:Nat):Int))])) (M.E.length - 0) ⟨0,rfl,e0,(by omega),(fun i h=>absurd h (Nat.not_lt_zero i)),hF.to⟩ ?_
   clear hF a
   clear e0
   rintro m a h3 ⟨k,rfl,e0,hk,hen,hF⟩
   refine qP [(78,.bool (decide (((k:Nat):Int)<((M.E.length :Nat):Int))))] hF fun a hF=>cS<|cJ 78 hF (fun hc4=> ?_) fun hc4=> ?_
   ·have hkn:k<M.E.length :=by omega
    obtain⟨e,he⟩:∃e,M.E[k]? =some e:=⟨_,List.getElem?_eq_getElem hkn⟩
    obtain⟨e2,he2⟩:∃e,N.E[k]? =some e:=⟨_,List.getElem?_eq_getElem (by omega)⟩
    obtain⟨hel,xa,xc,hes,hrx⟩:=md.en.2 k e he
    obtain⟨_,HS,HT,hes2,zT⟩:=gy.en.2 k e2 he2
    have hFn:=hF
    obtain⟨aa,rfl,b3⟩:=md.er.1.1.a6 (by omega)
    have hF:=hFn;clear hFn
    have hFn:=hF
    obtain⟨lX,rfl,nB⟩:=gy.er.1.1.a6 (by omega)
    have hF:=hFn;clear hFn
    refine cN<|tK<|cS<|cB 3<|qS hF<|tI 1 aa M.E.length 1 k k<|tC 2 (.slice xa e.length xc) (Calm.load (T:=32) (p:=(Addr.add aa k)) (by kernel_rfl) (Loads.one (k:=1) (by kernel_rfl) ((md.er.1.1.ext e0).cells _ _ hes))) ?_
    refine sT [(9,nV k),(10,.slice xa e.length xc)] fun a hF=>cS ?_
    rcases Classical.em (e=e2) with hee|hee
    ·refine cD [0,1,0,4,12,28,0,124,252,508,1023] 12 mixed hF<|mP 1 [0] [.slice xa e.length xc]<|mL 3 2 1 (.string (ByteArray.mk e.toArray)) (Calm.str (l:=e) (by kernel_rfl) (hrx.1.1.ext e0))<|mP 31 [2,3,4] [pV nb,pV nb,.pointer (some ⟨nb,1,none⟩)]<|mO 63 34 5 1 (.slice (some lX) N.E.length ke) (e0.blk hm2)<|mP 127 [6] [nV k]<|mI 255 7 lX N.E.length 1 k k ?_
     refine mL 511 290 8 (.slice HS e2.length HT) (Calm.load (T:=32) (p:=(Addr.add lX k)) (by kernel_rfl) (Loads.one (k:=1) (by kernel_rfl) ((gy.er.1.1.ext e0).cells _ _ hes2)))<|mL 1023 802 9 (.string (ByteArray.mk e2.toArray)) (Calm.str (l:=e2) (by kernel_rfl) (zT.1.1.ext e0))<|m1 2047 10 (.bool false) (.bool (!((ByteArray.mk e.toArray).toList ==(ByteArray.mk e2.toArray).toList))) (congrArg Value.bool (pY hee))<|mE [(92,.bool false)] fun a hF=>tK<|cF 92 hF<|cN ?_
     refine bK<|tK<|rS hF<|tA 0 k 1<|sE [(77,nV (k+1))] fun a hF=> ?_
     show ∃m',m'<_∧_
     refine⟨_,?_,(k+1),rfl,e0,(by omega),(pd hen (by rw[he,he2,hee])),hF.to⟩
     omega
    ·have hns:=zR he he2 hee
     refine cD [0,1,0,4,12,28,0,124,252,508,1023] 12 mixed hF<|mP 1 [0] [.slice xa e.length xc]<|mL 3 2 1 (.string (ByteArray.mk e.toArray)) (Calm.str (l:=e) (by kernel_rfl) (hrx.1.1.ext e0))<|mP 31 [2,3,4] [pV nb,pV nb,.pointer (some ⟨nb,1,none⟩)]<|mO 63 34 5 1 (.slice (some lX) N.E.length ke) (e0.blk hm2)<|mP 127 [6] [nV k]<|mI 255 7 lX N.E.length 1 k k ?_
     refine mL 511 290 8 (.slice HS e2.length HT) (Calm.load (T:=32) (p:=(Addr.add lX k)) (by kernel_rfl) (Loads.one (k:=1) (by kernel_rfl) ((gy.er.1.1.ext e0).cells _ _ hes2)))<|mL 1023 802 9 (.string (ByteArray.mk e2.toArray)) (Calm.str (l:=e2) (by kernel_rfl) (zT.1.1.ext e0))<|m1 2047 10 (.bool true) (.bool (!((ByteArray.mk e.toArray).toList ==(ByteArray.mk e2.toArray).toList))) (congrArg Value.bool (pX hee))<|mE [(92,.bool true)] fun a hF=>tK<|cT 92 hF<|qP [(4,.bool false)] hF fun a hF=> ?_
     refine cR (yB (yT (yT (yB (yT ?_)))))
     exact rT 4 (.bool false) hF<|⟨congrArg Value.bool (db hns).symm,e0⟩
   ·refine cX 2 (xT (xT (xB ?_)))
    exact tK<|qP [(4,.bool true)] hF fun a hF=>cR<|rT 4 (.bool true) hF<|⟨congrArg Value.bool (ie ⟨md.HP gy hEl fun x hx=>hall x (hP.mem_iff.2 hx),rK hEl hen (by omega)⟩).symm,e0⟩
  ·refine rS hF<|tF 0 (gW (by kernel_rfl) hit (e0.blk hp) hP md.bo hR) ?_
   rintro _ h5 ⟨x,R',hP2,hRl,hxL,rfl,hh⟩
   obtain⟨hit2,gi⟩:=jZ hh hit
   replace e0:=e0.grew gi (sep.l 0)
   replace hit:=hit
   replace sep:=sep.up gi.size
   clear hit;have hit:=hit2;clear hit2 hh gi
   have hh3:=hg x hxL
   have hDl:D.length <L.length :=by have:=hP2.length_eq;simp at this;omega
   refine sE [(41,.bool true)] fun a hF=>tK<|cS<|cT 41 hF<|cN<|tK<|cB 1 ?_
   refine qS hF<|tC 0 (.tuple #[.string x.1,.agg (bl ((aN aG x).b) ((aN aG x).e) ((aN aG x).ho) ((aN aG x).go) (.slice (aN aG x).ad ((aN aG x).n) ((aN aG x).cap)) (.slice (aG x).ba ((aG x).o.dt.length) ((aG x).bc))).toArray]) (mD (by kernel_rfl) hit (e0.blk hp) hxL md.bo hh3.hv)<|tN 3 (pV h5.size) ((bl aC (0:Int) false false (.slice none 0 0) (.slice none 0 0)).toArray) 101 fun h6 g7 m8=> ?_
   replace sep:=sep.nw e0.size m8
   refine bG 5 (bl ((aN aG x).b) ((aN aG x).e) ((aN aG x).ho) ((aN aG x).go) (.slice (aN aG x).ad ((aN aG x).n) ((aN aG x).cap)) (.slice (aG x).ba ((aG x).o.dt.length) ((aG x).bc))) m8 fun h9 g10 zq=> ?_
   replace m8:=zq
   refine sT [(5,.string x.1),(6,pV h5.size)] fun a hF=>cS ?_
   rcases HN N x.1 (aG x).o with hno|⟨q,hq3,hst|⟨hst,hdt⟩|⟨hst,hdt⟩⟩
   ·have hns:=CB hh3.hf hno
    refine rS hF ?_
    replace e0:=(e0.ext g7).grew g10 (sep.l 0)
    refine tO 3 0 (e0.blk hm2)<|tC 5 (.tuple #[.agg (bl aC (0:Int) false false (.slice none 0 0) (.slice none 0 0)).toArray,.bool false]) (pK (t:=81) 9 101 (by kernel_rfl) (by kernel_rfl) (by kernel_rfl) (.agg (bl aC (0:Int) false false (.slice none 0 0) (.slice none 0 0)).toArray) (by kernel_rfl) (e0.blk hp2) (gy.HQ hno))<|tN 9 (pV h9.size) ((bl aC (0:Int) false false (.slice none 0 0) (.slice none 0 0)).toArray) 101 fun h11 g12 m13=> ?_
    replace sep:=(sep.up g10.size).nw e0.size m13
    refine bG 10 (bl aC (0:Int) false false (.slice none 0 0) (.slice none 0 0)) m13 fun fc g15 zq=> ?_
    replace m13:=zq
    refine sE [(7,pV h9.size),(8,.bool false)] fun a hF=>tK<|cS<|cD [0,1,3,7,15,7,63,127,255,511,1023,2047,4095,1023,9215,25599,65535,131071] 7 mixed hF<|mP 262143 [0,1,2,3,4,5,6,7,8,9,10,11,12,13,14,15,16,17] [.bool false,.bool true,.bool true,undef,undef,undef,undef,undef,.bool true,.bool true,undef,undef,undef,undef,undef,undef,undef,.bool true]<|mE [(71,.bool true)] fun a hF=>tK ?_
    refine cT 71 hF<|qP [(4,.bool false)] hF fun a hF=>cR (yB (yT (yB (yT ?_))))
    refine rT 4 (.bool false) hF ?_
    replace e0:=(e0.ext g12).grew g15 (sep.l 0)
    exact⟨congrArg Value.bool (db hns).symm,e0⟩
   ·obtain⟨x2,hx2,hs2,ca,cc,ba,bc,hv2,xn⟩:=gy.at hq3
    have hns:=lW hh3.hf hq3 (Dz hst)
    refine rS hF ?_
    replace e0:=(e0.ext g7).grew g10 (sep.l 0)
    refine tO 3 0 (e0.blk hm2)<|tC 5 (.tuple #[.agg (bl q.b q.e q.ho q.go (.slice ca 0 cc) (.slice ba q.dt.length bc)).toArray,.bool true]) (iC (t:=81) 9 101 (by kernel_rfl) (by kernel_rfl) (by kernel_rfl) (.agg (bl aC (0:Int) false false (.slice none 0 0) (.slice none 0 0)).toArray) (by kernel_rfl) (e0.blk hp2) hx2 hs2 gy.nd hv2)<|tN 9 (pV h9.size) ((bl aC (0:Int) false false (.slice none 0 0) (.slice none 0 0)).toArray) 101 fun h16 g17 m18=> ?_
    replace sep:=(sep.up g10.size).nw e0.size m18
    refine bG 10 (bl q.b q.e q.ho q.go (.slice ca 0 cc) (.slice ba q.dt.length bc)) m18 fun h19 g20 zq=> ?_
    replace m18:=zq
    refine sE [(7,pV h9.size),(8,.bool true)] fun a hF=>tK<|cS<|cD [0,1,3,7,15,7,63,127,255,511,1023,2047,4095,1023,9215,25599,65535,131071] 7 mixed hF<|mP 7 [0,1,2] [.bool true,.bool false,.bool false] ?_
    replace m8:=(m8.x g17).y g20 (sep.bp 1 0)
    refine mR 15 8 3 m8<|mR 47 40 5 m18<|gA 63 31 4 [5] (Does.call (f:=45) (args:= #[.agg (bl ((aN aG x).b) ((aN aG x).e) ((aN aG x).ho) ((aN aG x).go) (.slice (aN aG x).ad ((aN aG x).n) ((aN aG x).cap)) (.slice (aG x).ba ((aG x).o.dt.length) ((aG x).bc))).toArray]) (by kernel_rfl) (eX _ (aN aG x).b ((aN aG x).e) ((aN aG x).ho) ((aN aG x).go) (.slice (aN aG x).ad ((aN aG x).n) ((aN aG x).cap)) (.slice (aG x).ba ((aG x).o.dt.length) ((aG x).bc)))) ?_
    rintro _ h22 ⟨rfl,g21⟩
    replace m18:=m18.x g21
    refine⟨?_,?_⟩
    ·intro j hj
     simp only[List.mem_cons,List.not_mem_nil,or_false] at hj
     subst hj
     exact aL (Calm.load (T:=101) (p:=⟨h9.size,0,none⟩) (by kernel_rfl) (Loads.blk (vs:=bl q.b q.e q.ho q.go (.slice ca 0 cc) (.slice ba q.dt.length bc)) (by kernel_rfl) m18 rfl))
    refine fW 127 127 6 (eX _ q.b q.e q.ho q.go (.slice ca 0 cc) (.slice ba q.dt.length bc)) ?_
    rintro _ jK ⟨rfl,g23⟩
    refine mF 255 7 (.bool true) (Calm.AY (q:=false) (r:=false) (by kernel_rfl) fun w=>(ed ((aN aG x).b) ((aN aG x).e) ((aN aG x).ho) ((aN aG x).go) q.b q.e q.ho q.go w).trans (congrArg (fun b=>Result.ok b w) hst))<|mP 262143 [8,9,10,11,12,13,14,15,16,17] [.bool true,.bool true,undef,undef,undef,undef,undef,undef,undef,.bool true]<|mE [(71,.bool true)] fun a hF=>tK<|cT 71 hF<|qP [(4,.bool false)] hF fun a hF=>cR (yB (yT (yB (yT ?_))))
    refine rT 4 (.bool false) hF ?_
    replace e0:=(((e0.ext g17).grew g20 (sep.l 0)).ext g21).ext g23
    exact⟨congrArg Value.bool (db hns).symm,e0⟩
   ·obtain⟨x2,hx2,hs2,ca,cc,ba,bc,hv2,xn⟩:=gy.at hq3
    have hns:=lW hh3.hf hq3 (DA hdt)
    refine rS hF ?_
    replace e0:=(e0.ext g7).grew g10 (sep.l 0)
    refine tO 3 0 (e0.blk hm2)<|tC 5 (.tuple #[.agg (bl q.b q.e q.ho q.go (.slice ca 0 cc) (.slice ba q.dt.length bc)).toArray,.bool true]) (iC (t:=81) 9 101 (by kernel_rfl) (by kernel_rfl) (by kernel_rfl) (.agg (bl aC (0:Int) false false (.slice none 0 0) (.slice none 0 0)).toArray) (by kernel_rfl) (e0.blk hp2) hx2 hs2 gy.nd hv2)<|tN 9 (pV h9.size) ((bl aC (0:Int) false false (.slice none 0 0) (.slice none 0 0)).toArray) 101 fun lD gY jx=> ?_
    replace sep:=(sep.up g10.size).nw e0.size jx
    refine bG 10 (bl q.b q.e q.ho q.go (.slice ca 0 cc) (.slice ba q.dt.length bc)) jx fun h28 fp zq=> ?_
    replace jx:=zq
    refine sE [(7,pV h9.size),(8,.bool true)] fun a hF=>tK<|cS<|cD [0,1,3,7,15,7,63,127,255,511,1023,2047,4095,1023,9215,25599,65535,131071] 7 mixed hF<|mP 7 [0,1,2] [.bool true,.bool false,.bool false] ?_
    replace m8:=(m8.x gY).y fp (sep.bp 1 0)
    refine mR 15 8 3 m8<|mR 47 40 5 jx<|gA 63 31 4 [5] (Does.call (f:=45) (args:= #[.agg (bl ((aN aG x).b) ((aN aG x).e) ((aN aG x).ho) ((aN aG x).go) (.slice (aN aG x).ad ((aN aG x).n) ((aN aG x).cap)) (.slice (aG x).ba ((aG x).o.dt.length) ((aG x).bc))).toArray]) (by kernel_rfl) (eX _ (aN aG x).b ((aN aG x).e) ((aN aG x).ho) ((aN aG x).go) (.slice (aN aG x).ad ((aN aG x).n) ((aN aG x).cap)) (.slice (aG x).ba ((aG x).o.dt.length) ((aG x).bc)))) ?_
    rintro _ h31 ⟨rfl,u3⟩
    replace jx:=jx.x u3
    refine⟨?_,?_⟩
    ·intro j hj
     simp only[List.mem_cons,List.not_mem_nil,or_false] at hj
     subst hj
     exact aL (Calm.load (T:=101) (p:=⟨h9.size,0,none⟩) (by kernel_rfl) (Loads.blk (vs:=bl q.b q.e q.ho q.go (.slice ca 0 cc) (.slice ba q.dt.length bc)) (by kernel_rfl) jx rfl))
    refine fW 127 127 6 (eX _ q.b q.e q.ho q.go (.slice ca 0 cc) (.slice ba q.dt.length bc)) ?_
    rintro _ zc ⟨rfl,jy⟩
    refine mF 255 7 (.bool false) (Calm.AY (q:=false) (r:=true) (by kernel_rfl) fun w=>(ed ((aN aG x).b) ((aN aG x).e) ((aN aG x).ho) ((aN aG x).go) q.b q.e q.ho q.go w).trans (congrArg (fun b=>Result.ok b w) hst))<|mP 2047 [8,9,10] [.bool false,.bool false,.pointer (some ⟨h5.size,39,none⟩)] ?_
    replace m8:=(m8.x u3).x jy
    refine mO 4095 2088 11 39 (.slice (aG x).ba ((aG x).o.dt.length) ((aG x).bc)) m8 ?_
    replace e0:=(((e0.ext gY).grew fp (sep.l 0)).ext u3).ext jy
    refine mL 8191 6184 12 (.string (ByteArray.mk (aG x).o.dt.toArray)) (Calm.str (l:=(aG x).o.dt) (by kernel_rfl) (hh3.rd.1.ext e0))<|mP 16383 [13] [.pointer (some ⟨h9.size,39,none⟩)] ?_
    replace jx:=jx.x jy
    refine mO 32767 22568 14 39 (.slice ba q.dt.length bc) jx<|mL 65535 55336 15 (.string (ByteArray.mk q.dt.toArray)) (Calm.str (l:=q.dt) (by kernel_rfl) (xn.1.ext e0))<|m1 131071 16 (.bool true) (.bool (!((ByteArray.mk (aG x).o.dt.toArray).toList ==(ByteArray.mk q.dt.toArray).toList))) (congrArg Value.bool (pX hdt))<|mP 262143 [17] [.bool true]<|mE [(71,.bool true)] fun a hF=>tK<|cT 71 hF ?_
    refine qP [(4,.bool false)] hF fun a hF=>cR (yB (yT (yB (yT ?_))))
    exact rT 4 (.bool false) hF<|⟨congrArg Value.bool (db hns).symm,e0⟩
   ·obtain⟨x2,hx2,hs2,ca,cc,ba,bc,hv2,xn⟩:=gy.at hq3
    refine rS hF ?_
    replace e0:=(e0.ext g7).grew g10 (sep.l 0)
    refine tO 3 0 (e0.blk hm2)<|tC 5 (.tuple #[.agg (bl q.b q.e q.ho q.go (.slice ca 0 cc) (.slice ba q.dt.length bc)).toArray,.bool true]) (iC (t:=81) 9 101 (by kernel_rfl) (by kernel_rfl) (by kernel_rfl) (.agg (bl aC (0:Int) false false (.slice none 0 0) (.slice none 0 0)).toArray) (by kernel_rfl) (e0.blk hp2) hx2 hs2 gy.nd hv2)<|tN 9 (pV h9.size) ((bl aC (0:Int) false false (.slice none 0 0) (.slice none 0 0)).toArray) 101 fun uA gn zU=> ?_
    replace sep:=(sep.up g10.size).nw e0.size zU
    refine bG 10 (bl q.b q.e q.ho q.go (.slice ca 0 cc) (.slice ba q.dt.length bc)) zU fun h37 lz zq=> ?_
    replace zU:=zq
    refine sE [(7,pV h9.size),(8,.bool true)] fun a hF=>tK<|cS<|cD [0,1,3,7,15,7,63,127,255,511,1023,2047,4095,1023,9215,25599,65535,131071] 7 mixed hF<|mP 7 [0,1,2] [.bool true,.bool false,.bool false] ?_
    replace m8:=(m8.x gn).y lz (sep.bp 1 0)
    refine mR 15 8 3 m8<|mR 47 40 5 zU<|gA 63 31 4 [5] (Does.call (f:=45) (args:= #[.agg (bl ((aN aG x).b) ((aN aG x).e) ((aN aG x).ho) ((aN aG x).go) (.slice (aN aG x).ad ((aN aG x).n) ((aN aG x).cap)) (.slice (aG x).ba ((aG x).o.dt.length) ((aG x).bc))).toArray]) (by kernel_rfl) (eX _ (aN aG x).b ((aN aG x).e) ((aN aG x).ho) ((aN aG x).go) (.slice (aN aG x).ad ((aN aG x).n) ((aN aG x).cap)) (.slice (aG x).ba ((aG x).o.dt.length) ((aG x).bc)))) ?_
    rintro _ AT ⟨rfl,fX⟩
    replace zU:=zU.x fX
    refine⟨?_,?_⟩
    ·intro j hj
     simp only[List.mem_cons,List.not_mem_nil,or_false] at hj
     subst hj
     exact aL (Calm.load (T:=101) (p:=⟨h9.size,0,none⟩) (by kernel_rfl) (Loads.blk (vs:=bl q.b q.e q.ho q.go (.slice ca 0 cc) (.slice ba q.dt.length bc)) (by kernel_rfl) zU rfl))
    refine fW 127 127 6 (eX _ q.b q.e q.ho q.go (.slice ca 0 cc) (.slice ba q.dt.length bc)) ?_
    rintro _ h42 ⟨rfl,jw⟩
    refine mF 255 7 (.bool false) (Calm.AY (q:=false) (r:=true) (by kernel_rfl) fun w=>(ed ((aN aG x).b) ((aN aG x).e) ((aN aG x).ho) ((aN aG x).go) q.b q.e q.ho q.go w).trans (congrArg (fun b=>Result.ok b w) hst))<|mP 2047 [8,9,10] [.bool false,.bool false,.pointer (some ⟨h5.size,39,none⟩)] ?_
    replace m8:=(m8.x fX).x jw
    refine mO 4095 2088 11 39 (.slice (aG x).ba ((aG x).o.dt.length) ((aG x).bc)) m8 ?_
    replace e0:=(((e0.ext gn).grew lz (sep.l 0)).ext fX).ext jw
    refine mL 8191 6184 12 (.string (ByteArray.mk (aG x).o.dt.toArray)) (Calm.str (l:=(aG x).o.dt) (by kernel_rfl) (hh3.rd.1.ext e0))<|mP 16383 [13] [.pointer (some ⟨h9.size,39,none⟩)] ?_
    replace zU:=zU.x jw
    refine mO 32767 22568 14 39 (.slice ba q.dt.length bc) zU<|mL 65535 55336 15 (.string (ByteArray.mk q.dt.toArray)) (Calm.str (l:=q.dt) (by kernel_rfl) (xn.1.ext e0))<|m1 131071 16 (.bool false) (.bool (!((ByteArray.mk (aG x).o.dt.toArray).toList ==(ByteArray.mk q.dt.toArray).toList))) (congrArg Value.bool (pY hdt))<|mP 262143 [17] [.bool false]<|mE [(71,.bool false)] fun a hF=>tK<|cF 71 hF ?_
    refine cN<|bK ?_
    clear m8
    clear zU
    replace hit:=jw.blk (fX.blk (lz.blk (gn.blk (g10.blk (g7.blk hit) (sep.bp 2 1))) (sep.bp 2 0)))
    replace sep:=((sep.up lz.size).up fX.size).up jw.size
    replace sep:=sep.sub (l':=[some (h.size)]) (.cons _ (.cons _ (.cons_cons _ (.slnil))))
    show ∃m',m'<_∧_
    refine⟨_,?_,(D++[x]),R',rfl,e0,hP2,(zS hall (vm hh3.hf hq3 ⟨hst,hdt⟩)),hit,sep,hF.to⟩
    omega
 ·have hns:=tx hEl
  refine cD [0,1,3,7,15,0,32,96,224,511,1023,2047,4095,8191,16383,32767,65535,4095,135167,397311,921599,1970175,4194303,8388607] 1 mixed hF<|mP 7 [0,1,2] [pV mb,pV mb,pV mb]<|mO 15 8 3 0 (.map (some mp)) (e0.blk hm)<|mL 31 24 4 (.int .i64 ((L.length :Nat):Int)) (Calm.mq (by kernel_rfl) (e0.blk hp) rfl)<|mP 255 [5,6,7] [pV nb,pV nb,pV nb]<|mO 511 280 8 0 (.map (some np)) (e0.blk hm2)<|mL 1023 792 9 (.int .i64 ((L2.length :Nat):Int)) (Calm.mq (by kernel_rfl) (e0.blk hp2) rfl) ?_
  refine Nb 2047 10 ((L.length :Nat):Int) ((L2.length :Nat):Int)<|mP 16777215 [11,12,13,14,15,16,17,18,19,20,21,22,23] [.bool true,undef,undef,undef,undef,undef,undef,undef,undef,undef,undef,undef,.bool true]<|mE [(34,.bool true)] fun a hF=>tK<|cT 34 hF<|qP [(4,.bool false)] hF fun a hF=>cR (yT ?_)
  exact rT 4 (.bool false) hF<|⟨congrArg Value.bool (db hns).symm,e0⟩
theorem same_eq{W:Nat→Prop}(h:Heap)(mb mp:Nat)(M:Md)(L:List bY)(ck:Nat)(ea:Option Addr)(ec:Nat)(es:List Value)(md:bI W h mb mp M L ck ea ec es){W2:Nat→Prop}(nb np:Nat)(N:Md)(L2:List bY)(ck2:Nat)(lI:Option Addr)(ke:Nat)(es2:List Value)(gy:bI W2 h nb np N L2 ck2 lI ke es2)(hf:M.f =N.f)(hE:M.E =N.E)(hl:M.E.length ≤1099511627):Sat Tryz.prog 25 #[.pointer (some ⟨mb,0,none⟩),.pointer (some ⟨nb,0,none⟩)] h fun v h'=>v= .bool true∧Ext h h':=by
 have:=nA h mb mp M L ck ea ec es md nb np N L2 ck2 lI ke es2 gy (by omega)
 rwa [ie ⟨fun s=>by rw[hf];exact nz.refl _,hE⟩] at this
theorem CC{W:Nat→Prop}(h:Heap)(mb mp:Nat)(M:Md)(L:List bY)(ck:Nat)(ea:Option Addr)(ec:Nat)(es:List Value)(md:bI W h mb mp M L ck ea ec es){W2:Nat→Prop}(nb np:Nat)(N:Md)(L2:List bY)(ck2:Nat)(lI:Option Addr)(ke:Nat)(es2:List Value)(gy:bI W2 h nb np N L2 ck2 lI ke es2)(hne:M.E.length ≠N.E.length)(hl:M.E.length ≤2199023255552):Sat Tryz.prog 25 #[.pointer (some ⟨mb,0,none⟩),.pointer (some ⟨nb,0,none⟩)] h fun v h'=>v= .bool false∧Ext h h':=by
 have:=nA h mb mp M L ck ea ec es md nb np N L2 ck2 lI ke es2 gy hl
 rwa [db (tx hne)] at this
noncomputable def b19:Code:=Tryz.f19.body.getD .skip
set_option maxHeartbeats 1000000 in
theorem Ff(h:Heap)(A:An)(qa:Option Addr)(qc:Nat)(ia:Option Addr)(ic:Nat)(pa:Option Addr)(pc:Nat)(q1:aR h (.slice qa A.b.length qc) A.b.length 1 (A.b.map bv))(i1:aR h (.slice ia A.i.length ic) A.i.length 1 (A.i.map Value.string))(p1:aR h (.slice pa A.p.length pc) A.p.length 32 (hcs A.p))(qa2:Option Addr)(qc2:Nat)(xo:Option Addr)(wL:Nat)(pe:Option Addr)(pc2:Nat)(q2:aR h (.slice qa2 A.b.length qc2) A.b.length 1 (A.b.map bv))(i2:aR h (.slice xo A.i.length wL) A.i.length 1 (A.i.map Value.string))(p2:aR h (.slice pe A.p.length pc2) A.p.length 32 (hcs A.p))(h32:aB A.p)(hil:A.i.length ≤1099511627776)(hpl:A.p.length ≤1099511627776):Sat Tryz.prog 19 #[.agg (bJ A.c (.slice qa A.b.length qc) A.sx A.se A.sh A.sg (.slice ia A.i.length ic) A.n A.y A.k (.slice pa A.p.length pc)).toArray,.agg (bJ A.c (.slice qa2 A.b.length qc2) A.sx A.se A.sh A.sg (.slice xo A.i.length wL) A.n A.y A.k (.slice pe A.p.length pc2)).toArray] h fun v h'=>v= .bool true∧Ext h h':=by
 have e0:=Ext.refl h
 have sep:Sep h.size h.size []:=Sep.nil _ _
 refine ak Tryz.func19 96 fun a hF=>qS hF<|tN 0 (pV h.size) ((bJ A.c (.slice qa A.b.length qc) A.sx A.se A.sh A.sg (.slice ia A.i.length ic) A.n A.y A.k (.slice pa A.p.length pc)).toArray) 47 fun h1 g2 m3=> ?_
 replace sep:=sep.nw e0.size m3
 refine tN 1 (pV h1.size) ((bJ A.c (.slice qa2 A.b.length qc2) A.sx A.se A.sh A.sg (.slice xo A.i.length wL) A.n A.y A.k (.slice pe A.p.length pc2)).toArray) 47 fun h4 g5 m6=> ?_
 replace e0:=e0.ext g2
 replace sep:=sep.nw e0.size m6
 refine sT [(2,pV h.size),(3,pV h1.size)] fun a hF=>cS<|qS hF ?_
 replace m3:=m3.x g5
 refine tO 1 0 m3<|tO 3 0 m6<|uF 4 A.c A.c <|tO 7 1 m3 ?_
 replace e0:=e0.ext g5
 refine tC 8 (.string (ByteArray.mk A.b.toArray)) (Calm.str (l:=A.b) (by kernel_rfl) (q1.1.ext e0))<|tO 10 1 m6<|tC 11 (.string (ByteArray.mk A.b.toArray)) (Calm.str (l:=A.b) (by kernel_rfl) (q2.1.ext e0))<|t1 12 (.bool false) (.bool (!((ByteArray.mk A.b.toArray).toList ==(ByteArray.mk A.b.toArray).toList))) (congrArg Value.bool (by simp))<|tQ 16 2 (uX A.sx A.se A.sh A.sg) m3<|tQ 18 2 (uX A.sx A.se A.sh A.sg) m6<|tC 19 (.bool false) ((Calm.AY (q:=false) (r:=true) (by kernel_rfl) fun w=>(ed A.sx A.se A.sh A.sg A.sx A.se A.sh A.sg w).trans (congrArg (fun b=>Result.ok b w) (fH A.sx A.se A.sh A.sg))) _) ?_
 refine tQ 23 40 (hdc A.n A.y) m3<|tQ 25 40 (hdc A.n A.y) m6<|tC 26 (.bool false) ((Calm.AY (q:=false) (r:=true) (by kernel_rfl) fun w=>(q9 A.n A.y A.n A.y w).trans (congrArg (fun b=>Result.ok b w) (iI A.n A.y))) _)<|tO 30 73 m3<|tO 32 73 m6<|uF 33 A.k A.k <|tO 37 39 m3 ?_
 refine tO 40 39 m6<|uF 42 ((A.i.length :Nat):Int) ((A.i.length :Nat):Int)<|tO 46 74 m3<|tO 49 74 m6<|uF 51 ((A.p.length :Nat):Int) ((A.p.length :Nat):Int)<|sT [(59,.bool false)] fun a hF=>cF 59 hF ?_
 refine cN<|tK<|cS<|qP [(5,.int .i64 0)] hF fun a hF=>cB 0<|cL (fun m a h'=>∃k:Nat,m=A.i.length - k∧(Ext h h')∧(h'[h.size]? =some (.cells (bJ A.c (.slice qa A.b.length qc) A.sx A.se A.sh A.sg (.slice ia A.i.length ic) A.n A.y A.k (.slice pa A.p.length pc)).toArray 47))∧(h'[h1.size]? =some (.cells (bJ A.c (.slice qa2 A.b.length qc2) A.sx A.se A.sh A.sg (.slice xo A.i.length wL) A.n A.y A.k (.slice pe A.p.length pc2)).toArray 47))∧(k≤A.i.length)∧(Fr a 96 [(2,.pointer (some ⟨h.size,0,none⟩)),(3,.pointer (some ⟨h1.size,0,none⟩)),(5,.int .i64 ((k:Nat):Int))])) (A.i.length - 0) ⟨0,rfl,e0,m3,m6,(by omega),hF.to⟩ ?_
 clear hF a
 clear e0
 clear m3
 clear m6
 rintro m a h7 ⟨k,rfl,e0,m3,m6,hk,hF⟩
 refine cS<|qS hF<|tO 2 39 m3<|sT [(64,.bool (decide (((k:Nat):Int)<((A.i.length :Nat):Int))))] fun a hF=>cJ 64 hF (fun hc8=> ?_) fun hc8=> ?_
 ·have hkn:k<A.i.length :=by omega
  have hFn:=hF
  obtain⟨aa,rfl,b3⟩:=i1.1.a6 (by omega)
  have hF:=hFn;clear hFn
  have hFn:=hF
  obtain⟨lX,rfl,nB⟩:=i2.1.a6 (by omega)
  have hF:=hFn;clear hFn
  refine cN<|tK<|cS<|cB 1<|cS<|cD [0,1,0,7,15,0,32,0,224,480,1023] 6 mixed hF<|mP 1 [0] [.pointer (some ⟨h.size,39,none⟩)] ?_
  refine mO 3 2 1 39 (.slice (some aa) A.i.length ic) m3<|mP 7 [2] [nV k]<|mI 15 3 aa A.i.length 1 k k<|mL 31 18 4 (.string (A.i.getD k ByteArray.empty)) (Calm.load (T:=9) (p:=(Addr.add aa k)) (by kernel_rfl) (Loads.one (k:=1) (by kernel_rfl) (Row.str (i1.1.ext e0) hkn)))<|mP 63 [5] [.pointer (some ⟨h1.size,39,none⟩)]<|mO 127 82 6 39 (.slice (some lX) A.i.length wL) m6<|mP 255 [7] [nV k] ?_
  refine mI 511 8 lX A.i.length 1 k k<|mL 1023 594 9 (.string (A.i.getD k ByteArray.empty)) (Calm.load (T:=9) (p:=(Addr.add lX k)) (by kernel_rfl) (Loads.one (k:=1) (by kernel_rfl) (Row.str (i2.1.ext e0) hkn)))<|m1 2047 10 (.bool false) (.bool (!((A.i.getD k ByteArray.empty).toList ==(A.i.getD k ByteArray.empty).toList))) (congrArg Value.bool (by simp))<|mE [(77,.bool false)] fun a hF=>tK<|cF 77 hF<|cN ?_
  refine bK<|tK<|rS hF<|tA 1 k 1<|sE [(5,nV (k+1))] fun a hF=> ?_
  show ∃m',m'<_∧_
  refine⟨_,?_,(k+1),rfl,e0,m3,m6,(by omega),hF.to⟩
  omega
 ·refine cX 0 (xT (xT (xB ?_)))
  refine tK<|cS<|qP [(6,.int .i64 0)] hF fun a hF=>cB 2<|cL (fun m a h'=>∃k:Nat,m=A.p.length - k∧(Ext h h')∧(h'[h.size]? =some (.cells (bJ A.c (.slice qa A.b.length qc) A.sx A.se A.sh A.sg (.slice ia A.i.length ic) A.n A.y A.k (.slice pa A.p.length pc)).toArray 47))∧(h'[h1.size]? =some (.cells (bJ A.c (.slice qa2 A.b.length qc2) A.sx A.se A.sh A.sg (.slice xo A.i.length wL) A.n A.y A.k (.slice pe A.p.length pc2)).toArray 47))∧(k≤A.p.length)∧(Fr a 96 [(2,.pointer (some ⟨h.size,0,none⟩)),(3,.pointer (some ⟨h1.size,0,none⟩)),(6,.int .i64 ((k:Nat):Int))])) (A.p.length - 0) ⟨0,rfl,e0,m3,m6,(by omega),hF.to⟩ ?_
  clear hF a
  clear e0
  clear m3
  clear m6
  rintro m a h9 ⟨k,rfl,e0,m3,m6,hk,hF⟩
  refine cS<|qS hF<|tO 2 74 m3<|sT [(82,.bool (decide (((k:Nat):Int)<((A.p.length :Nat):Int))))] fun a hF=>cJ 82 hF (fun nv=> ?_) fun nv=> ?_
  ·have hkn:k<A.p.length :=by omega
   have hFn:=hF
   obtain⟨aa,rfl,b3⟩:=p1.1.a6 (by omega)
   have hF:=hFn;clear hFn
   have hFn:=hF
   obtain⟨lX,rfl,nB⟩:=p2.1.a6 (by omega)
   have hF:=hFn;clear hFn
   refine cN<|tK<|cS<|cB 3<|cS<|cD [0,1,0,7,15,0,32,0,224,480,1023] 11 mixed hF<|mP 1 [0] [.pointer (some ⟨h.size,74,none⟩)] ?_
   refine mO 3 2 1 74 (.slice (some aa) A.p.length pc) m3<|mP 7 [2] [nV k]<|mI 15 3 aa A.p.length 32 k (k*32)<|mH 31 18 4 k ((⟨p1.1.ext e0,h32,rfl⟩:HR _ _ _ _ _))<|mP 63 [5] [.pointer (some ⟨h1.size,74,none⟩)]<|mO 127 82 6 74 (.slice (some lX) A.p.length pc2) m6<|mP 255 [7] [nV k] ?_
   refine mI 511 8 lX A.p.length 32 k (k*32)<|mH 1023 594 9 k ((⟨p2.1.ext e0,h32,rfl⟩:HR _ _ _ _ _))<|mF 2047 10 (.bool false) (Kz (q:=false) (l:=(A.p.getD k [])) (r:=(A.p.getD k [])) (n:=32) (by kernel_rfl) ((⟨p2.1.ext e0,h32,rfl⟩:HR _ (some lX) _ _ _).2.1.get (k:=k) (by rw[(⟨p2.1.ext e0,h32,rfl⟩:HR _ (some lX) _ _ _).2.2];omega)) ((⟨p2.1.ext e0,h32,rfl⟩:HR _ (some lX) _ _ _).2.1.get (k:=k) (by rw[(⟨p2.1.ext e0,h32,rfl⟩:HR _ (some lX) _ _ _).2.2];omega)) rfl)<|mE [(95,.bool false)] fun a hF=>tK<|cF 95 hF<|cN ?_
   refine bK<|tK<|rS hF<|tA 1 k 1<|sE [(6,nV (k+1))] fun a hF=> ?_
   show ∃m',m'<_∧_
   refine⟨_,?_,(k+1),rfl,e0,m3,m6,(by omega),hF.to⟩
   omega
  ·refine cX 2 (xT (xT (xB ?_)))
   exact tK<|qP [(4,.bool true)] hF fun a hF=>cR<|rT 4 (.bool true) hF<|⟨rfl,e0⟩
theorem kf(h:Heap)(v w:Value)(A:An)(a:AnsAt h v A)(b:AnsAt h w A)(hil:A.i.length ≤1099511627776)(hpl:A.p.length ≤1099511627776):Sat Tryz.prog 19 #[v,w] h fun v h'=>v= .bool true∧Ext h h':=by
 obtain⟨qa,qc,ia,ic,pa,pc,rfl,q1,i1,p1,h32⟩:=a
 obtain⟨qa2,qc2,xo,wL,pe,pc2,rfl,q2,i2,p2,_⟩:=b
 exact Ff h A qa qc ia ic pa pc q1 i1 p1 qa2 qc2 xo wL pe pc2 q2 i2 p2 h32 hil hpl
end Go.Proofs.YtegkejcglfgpmaaGreatDoor
end
section
namespace Go.Proofs.YtegkejcglfgpmaaGreatDoor
open Go Go.an Go.aT
noncomputable def b55:Code:=Tryz.f55.body.getD .skip
theorem zV(h:Heap)(kd n:Int)(s:ByteArray)(oa:Option Addr)(on oc:Nat)(ka:Option Addr)(kn kc:Nat):Sat Tryz.prog 55 #[.agg #[.int .i64 kd,.string s,.slice oa on oc,.int .i64 n,.slice ka kn kc]] h fun v h'=>v= .tuple #[.bool (ee kd).1,.bool (ee kd).2]∧Ext h h':=by
 have e0:=Ext.refl h
 have sep:Sep h.size h.size []:=Sep.nil _ _
 refine ak Tryz.func55 20 fun a hF=>qS hF<|tN 0 (pV h.size) #[.int .i64 kd,.string s,.slice oa on oc,.int .i64 n,.slice ka kn kc] 35 fun h1 g2 m3=> ?_
 replace sep:=sep.nw e0.size m3
 refine sT [(1,pV h.size)] fun a hF=>cS<|qS hF<|tO 1 0 m3<|sT [(5,.int .i64 kd)] fun a hF=>cB 0<|cS ?_
 refine qP [(6,.bool (decide (kd=(1:Int))))] hF fun a hF=>cJ 6 hF (fun hc4=> ?_) fun hc4=> ?_
 ·refine cN<|tK<|cJ 6 hF (fun hx5=> ?_) fun hx5=>absurd hc4 hx5
  refine qP [(2,.bool true),(3,.bool true)] hF fun a hF=>cR (yB (yT ?_))
  refine aK [.tmp 2,.tmp 3] [.bool true,.bool true] (.tuple #[.bool true,.bool true]) rfl hF ⟨rfl,rfl,trivial⟩ rfl ?_
  replace e0:=e0.ext g2
  rw[iJ (by omega)];exact⟨rfl,e0⟩
 ·refine qP [(6,.bool (decide (kd=(4:Int))))] hF fun a hF=>cJ 6 hF (fun hc6=> ?_) fun hc6=> ?_
  ·refine cN<|tK<|cJ 6 hF (fun hx7=> ?_) fun hx7=>absurd hc6 hx7
   refine qP [(2,.bool true),(3,.bool true)] hF fun a hF=>cR (yB (yT ?_))
   refine aK [.tmp 2,.tmp 3] [.bool true,.bool true] (.tuple #[.bool true,.bool true]) rfl hF ⟨rfl,rfl,trivial⟩ rfl ?_
   replace e0:=e0.ext g2
   rw[iJ (by omega)];exact⟨rfl,e0⟩
  ·refine qP [(6,.bool (decide (kd=(5:Int))))] hF fun a hF=>cJ 6 hF (fun hc8=> ?_) fun hc8=> ?_
   ·refine cN<|tK<|cJ 6 hF (fun NT=> ?_) fun NT=>absurd hc8 NT
    refine qP [(2,.bool true),(3,.bool true)] hF fun a hF=>cR (yB (yT ?_))
    refine aK [.tmp 2,.tmp 3] [.bool true,.bool true] (.tuple #[.bool true,.bool true]) rfl hF ⟨rfl,rfl,trivial⟩ rfl ?_
    replace e0:=e0.ext g2
    rw[iJ (by omega)];exact⟨rfl,e0⟩
   ·refine rP [(6,.bool (decide (kd=(6:Int))))] hF fun a hF=>tK<|cJ 6 hF (fun nv=> ?_) fun nv=> ?_
    ·refine qP [(2,.bool true),(3,.bool true)] hF fun a hF=>cR (yB (yT ?_))
     refine aK [.tmp 2,.tmp 3] [.bool true,.bool true] (.tuple #[.bool true,.bool true]) rfl hF ⟨rfl,rfl,trivial⟩ rfl ?_
     replace e0:=e0.ext g2
     rw[iJ (by omega)];exact⟨rfl,e0⟩
    ·refine cS<|qP [(11,.bool (decide (kd=(2:Int))))] hF fun a hF=>cJ 11 hF (fun iR=> ?_) fun iR=> ?_
     ·refine cN<|tK<|cJ 11 hF (fun HU=> ?_) fun HU=>absurd iR HU
      refine qP [(2,.bool true),(3,.bool false)] hF fun a hF=>cR (yB (yT ?_))
      refine aK [.tmp 2,.tmp 3] [.bool true,.bool false] (.tuple #[.bool true,.bool false]) rfl hF ⟨rfl,rfl,trivial⟩ rfl ?_
      replace e0:=e0.ext g2
      rw[da (by omega) (by omega)];exact⟨rfl,e0⟩
     ·refine qP [(11,.bool (decide (kd=(3:Int))))] hF fun a hF=>cJ 11 hF (fun hc13=> ?_) fun hc13=> ?_
      ·refine cN<|tK<|cJ 11 hF (fun HV=> ?_) fun HV=>absurd hc13 HV
       refine qP [(2,.bool true),(3,.bool false)] hF fun a hF=>cR (yB (yT ?_))
       refine aK [.tmp 2,.tmp 3] [.bool true,.bool false] (.tuple #[.bool true,.bool false]) rfl hF ⟨rfl,rfl,trivial⟩ rfl ?_
       replace e0:=e0.ext g2
       rw[da (by omega) (by omega)];exact⟨rfl,e0⟩
      ·refine qP [(11,.bool (decide (kd=(7:Int))))] hF fun a hF=>cJ 11 hF (fun kT=> ?_) fun kT=> ?_
       ·refine cN<|tK<|cJ 11 hF (fun hx16=> ?_) fun hx16=>absurd kT hx16
        refine qP [(2,.bool true),(3,.bool false)] hF fun a hF=>cR (yB (yT ?_))
        refine aK [.tmp 2,.tmp 3] [.bool true,.bool false] (.tuple #[.bool true,.bool false]) rfl hF ⟨rfl,rfl,trivial⟩ rfl ?_
        replace e0:=e0.ext g2
        rw[da (by omega) (by omega)];exact⟨rfl,e0⟩
       ·refine qP [(11,.bool (decide (kd=(8:Int))))] hF fun a hF=>cJ 11 hF (fun hc17=> ?_) fun hc17=> ?_
        ·refine cN<|tK<|cJ 11 hF (fun zO=> ?_) fun zO=>absurd hc17 zO
         refine qP [(2,.bool true),(3,.bool false)] hF fun a hF=>cR (yB (yT ?_))
         refine aK [.tmp 2,.tmp 3] [.bool true,.bool false] (.tuple #[.bool true,.bool false]) rfl hF ⟨rfl,rfl,trivial⟩ rfl ?_
         replace e0:=e0.ext g2
         rw[da (by omega) (by omega)];exact⟨rfl,e0⟩
        ·refine qP [(11,.bool (decide (kd=(9:Int))))] hF fun a hF=>cJ 11 hF (fun hc19=> ?_) fun hc19=> ?_
         ·refine cN<|tK<|cJ 11 hF (fun HW=> ?_) fun HW=>absurd hc19 HW
          refine qP [(2,.bool true),(3,.bool false)] hF fun a hF=>cR (yB (yT ?_))
          refine aK [.tmp 2,.tmp 3] [.bool true,.bool false] (.tuple #[.bool true,.bool false]) rfl hF ⟨rfl,rfl,trivial⟩ rfl ?_
          replace e0:=e0.ext g2
          rw[da (by omega) (by omega)];exact⟨rfl,e0⟩
         ·refine qP [(11,.bool (decide (kd=(11:Int))))] hF fun a hF=>cJ 11 hF (fun hc21=> ?_) fun hc21=> ?_
          ·refine cN<|tK<|cJ 11 hF (fun HX=> ?_) fun HX=>absurd hc21 HX
           refine qP [(2,.bool true),(3,.bool false)] hF fun a hF=>cR (yB (yT ?_))
           refine aK [.tmp 2,.tmp 3] [.bool true,.bool false] (.tuple #[.bool true,.bool false]) rfl hF ⟨rfl,rfl,trivial⟩ rfl ?_
           replace e0:=e0.ext g2
           rw[da (by omega) (by omega)];exact⟨rfl,e0⟩
          ·refine qP [(11,.bool (decide (kd=(15:Int))))] hF fun a hF=>cJ 11 hF (fun qU=> ?_) fun qU=> ?_
           ·refine cN<|tK<|cJ 11 hF (fun hx24=> ?_) fun hx24=>absurd qU hx24
            refine qP [(2,.bool true),(3,.bool false)] hF fun a hF=>cR (yB (yT ?_))
            refine aK [.tmp 2,.tmp 3] [.bool true,.bool false] (.tuple #[.bool true,.bool false]) rfl hF ⟨rfl,rfl,trivial⟩ rfl ?_
            replace e0:=e0.ext g2
            rw[da (by omega) (by omega)];exact⟨rfl,e0⟩
           ·refine rP [(11,.bool (decide (kd=(16:Int))))] hF fun a hF=>tK<|cJ 11 hF (fun hc25=> ?_) fun hc25=> ?_
            ·refine qP [(2,.bool true),(3,.bool false)] hF fun a hF=>cR (yB (yT ?_))
             refine aK [.tmp 2,.tmp 3] [.bool true,.bool false] (.tuple #[.bool true,.bool false]) rfl hF ⟨rfl,rfl,trivial⟩ rfl ?_
             replace e0:=e0.ext g2
             rw[da (by omega) (by omega)];exact⟨rfl,e0⟩
            ·refine cN<|bK<|tK<|qP [(2,.bool false),(3,.bool false)] hF fun a hF=>cR<|aK [.tmp 2,.tmp 3] [.bool false,.bool false] (.tuple #[.bool false,.bool false]) rfl hF ⟨rfl,rfl,trivial⟩ rfl ?_
             replace e0:=e0.ext g2
             rw[pR (by omega) (by omega)];exact⟨rfl,e0⟩
noncomputable def b94:Code:=Tryz.f94.body.getD .skip
theorem CD(h:Heap)(l r:List ByteArray)(va:Option Addr)(vc:Nat)(vb:Option Addr)(vd:Nat)(hl1:aR h (.slice va l.length vc) l.length 1 (l.map Value.string))(hr1:aR h (.slice vb r.length vd) r.length 1 (r.map Value.string))(hlb:l.length ≤1099511627776):Sat Tryz.prog 94 #[.slice va l.length vc,.slice vb r.length vd] h fun v h'=>v= .bool (decide (l=r))∧h'=h:=by
 refine ak Tryz.func94 26 fun a hF=>qP [] hF fun a hF=>cS<|cS ?_
 rcases Nat.decEq l.length r.length with hle|hle
 ·refine rS hF<|uT 4 ((l.length :Nat):Int) ((r.length :Nat):Int)<|sE [(10,.bool true)] fun a hF=>tK<|cT 10 hF<|qP [(4,.bool false)] hF fun a hF=>cR (yT ?_)
  exact rT 4 (.bool false) hF<|⟨by rw[decide_eq_false (fun e=>hle (by rw[e]))],rfl⟩
 ·refine rS hF<|uF 4 ((l.length :Nat):Int) ((r.length :Nat):Int)<|sE [(10,.bool false)] fun a hF=>tK<|cF 10 hF<|cN<|tK ?_
  refine cS<|qP [(12,nV l.length),(13,.int .i64 0)] hF fun a hF=>cB 0<|cL (fun m a h'=>∃k:Nat,m=l.length - k∧(h'=h)∧(k≤l.length)∧(l.take k=r.take k)∧(Fr a 26 [(0,.slice va l.length vc),(1,.slice vb r.length vd),(12,.int .i64 ((l.length :Nat):Int)),(13,.int .i64 ((k:Nat):Int))])) (l.length - 0) ⟨0,rfl,rfl,(by omega),rfl,hF.to⟩ ?_
  clear hF a
  rintro m a h1 ⟨k,rfl,hh,hk,ht,hF⟩
  refine qP [(14,.bool (decide (((k:Nat):Int)<((l.length :Nat):Int))))] hF fun a hF=>cS<|cJ 14 hF (fun hc2=> ?_) fun hc2=> ?_
  ·have hkn:k<l.length :=by omega
   have hFn:=hF
   obtain⟨aa,rfl,b3⟩:=hl1.1.a6 (by omega)
   have hF:=hFn;clear hFn
   have hFn:=hF
   obtain⟨ab,rfl,pW⟩:=hr1.1.a6 (by omega)
   have hF:=hFn;clear hFn
   refine cN<|tK<|cS<|cB 1<|qP [(5,nV k)] hF fun a hF=>cS<|cD [0,0,3,7,0,0,48,112,255] 6 mixed hF ?_
   refine mP 3 [0,1] [.slice (some aa) l.length vc,nV k]<|mI 7 2 aa l.length 1 k k<|mL 15 8 3 (.string (l.getD k ByteArray.empty)) (Calm.load (T:=9) (p:=(Addr.add aa k)) (by kernel_rfl) (Loads.one (k:=1) (by kernel_rfl) (hh▸Row.str hl1.1 (by omega))))<|mP 63 [4,5] [.slice (some ab) r.length vd,nV k]<|mI 127 6 ab r.length 1 k k<|mL 255 136 7 (.string (r.getD k ByteArray.empty)) (Calm.load (T:=9) (p:=(Addr.add ab k)) (by kernel_rfl) (Loads.one (k:=1) (by kernel_rfl) (hh▸Row.str hr1.1 (by omega))))<|m1 511 8 (.bool (!decide ((l.getD k ByteArray.empty)=(r.getD k ByteArray.empty)))) (.bool (!((l.getD k ByteArray.empty).toList ==(r.getD k ByteArray.empty).toList))) (congrArg (fun b=>Value.bool (!b)) (eH _ _)) ?_
   refine mE [(24,.bool (!decide ((l.getD k ByteArray.empty)=(r.getD k ByteArray.empty))))] fun a hF=>tK<|cI 24 hF (fun hc3=> ?_) fun hc3=> ?_
   ·have hno:=mZ hc3
    refine qP [(4,.bool false)] hF fun a hF=>cR (yB (yT (yT (yB (yT ?_)))))
    exact rT 4 (.bool false) hF<|⟨by rw[decide_eq_false hno],hh⟩
   ·have hee:=hc3
    refine cN<|bK<|tK<|rS hF<|tA 0 k 1<|sE [(13,nV (k+1))] fun a hF=> ?_
    show ∃m',m'<_∧_
    refine⟨_,?_,(k+1),rfl,hh,(by omega),(q_ (d:=ByteArray.empty) ht hkn (by omega) hee),hF.to⟩
    omega
  ·refine cX 0 (xT (xT (xB ?_)))
   refine tK<|qP [(4,.bool true)] hF fun a hF=>cR<|rT 4 (.bool true) hF ?_
   obtain rfl:k=l.length :=by omega
   rw[List.take_length,hle,List.take_length] at ht
   exact⟨by rw[decide_eq_true ht],hh⟩
noncomputable def b95:Code:=Tryz.f95.body.getD .skip
theorem zW(h:Heap)(l r:List (List UInt8))(va:Option Addr)(vc:Nat)(vb:Option Addr)(vd:Nat)(hl1:aR h (.slice va l.length vc) l.length 32 (hcs l))(hr1:aR h (.slice vb r.length vd) r.length 32 (hcs r))(h32:aB l)(zc:aB r)(hlb:l.length ≤1099511627776):Sat Tryz.prog 95 #[.slice va l.length vc,.slice vb r.length vd] h fun v h'=>v= .bool (decide (l=r))∧h'=h:=by
 refine ak Tryz.func95 26 fun a hF=>qP [] hF fun a hF=>cS<|cS ?_
 rcases Nat.decEq l.length r.length with hle|hle
 ·refine rS hF<|uT 4 ((l.length :Nat):Int) ((r.length :Nat):Int)<|sE [(10,.bool true)] fun a hF=>tK<|cT 10 hF<|qP [(4,.bool false)] hF fun a hF=>cR (yT ?_)
  exact rT 4 (.bool false) hF<|⟨by rw[decide_eq_false (fun e=>hle (by rw[e]))],rfl⟩
 ·refine rS hF<|uF 4 ((l.length :Nat):Int) ((r.length :Nat):Int)<|sE [(10,.bool false)] fun a hF=>tK<|cF 10 hF<|cN<|tK ?_
  refine cS<|qP [(12,nV l.length),(13,.int .i64 0)] hF fun a hF=>cB 0<|cL (fun m a h'=>∃k:Nat,m=l.length - k∧(h'=h)∧(k≤l.length)∧(l.take k=r.take k)∧(Fr a 26 [(0,.slice va l.length vc),(1,.slice vb r.length vd),(12,.int .i64 ((l.length :Nat):Int)),(13,.int .i64 ((k:Nat):Int))])) (l.length - 0) ⟨0,rfl,rfl,(by omega),rfl,hF.to⟩ ?_
  clear hF a
  rintro m a h1 ⟨k,rfl,hh,hk,ht,hF⟩
  refine qP [(14,.bool (decide (((k:Nat):Int)<((l.length :Nat):Int))))] hF fun a hF=>cS<|cJ 14 hF (fun hc2=> ?_) fun hc2=> ?_
  ·have hkn:k<l.length :=by omega
   have hFn:=hF
   obtain⟨aa,rfl,b3⟩:=hl1.1.a6 (by omega)
   have hF:=hFn;clear hFn
   have hFn:=hF
   obtain⟨ab,rfl,pW⟩:=hr1.1.a6 (by omega)
   have hF:=hFn;clear hFn
   refine cN<|tK<|cS<|cB 1<|qP [(5,nV k)] hF fun a hF=>cS<|cD [0,0,3,7,0,0,48,112,255] 6 mixed hF ?_
   refine mP 3 [0,1] [.slice (some aa) l.length vc,nV k]<|mI 7 2 aa l.length 32 k (k*32)<|mH 15 8 3 k ((⟨hh.symm ▸hl1.1,h32,rfl⟩:HR _ _ _ _ _))<|mP 63 [4,5] [.slice (some ab) r.length vd,nV k]<|mI 127 6 ab r.length 32 k (k*32)<|mH 255 136 7 k ((⟨hh.symm ▸hr1.1,zc,rfl⟩:HR _ _ _ _ _))<|mF 511 8 (.bool (!decide ((l.getD k [])=(r.getD k [])))) (KA (l:=(l.getD k [])) (r:=(r.getD k [])) (n:=32) (by kernel_rfl) ((⟨hl1.1,h32,rfl⟩:HR _ (some aa) _ _ _).2.1.get (k:=k) (by rw[(⟨hl1.1,h32,rfl⟩:HR _ (some aa) _ _ _).2.2];omega)) ((⟨hr1.1,zc,rfl⟩:HR _ (some ab) _ _ _).2.1.get (k:=k) (by rw[(⟨hr1.1,zc,rfl⟩:HR _ (some ab) _ _ _).2.2];omega))) ?_
   refine mE [(24,.bool (!decide ((l.getD k [])=(r.getD k []))))] fun a hF=>tK<|cI 24 hF (fun hc3=> ?_) fun hc3=> ?_
   ·have hno:=mZ hc3
    refine qP [(4,.bool false)] hF fun a hF=>cR (yB (yT (yT (yB (yT ?_)))))
    exact rT 4 (.bool false) hF<|⟨by rw[decide_eq_false hno],hh⟩
   ·have hee:=hc3
    refine cN<|bK<|tK<|rS hF<|tA 0 k 1<|sE [(13,nV (k+1))] fun a hF=> ?_
    show ∃m',m'<_∧_
    refine⟨_,?_,(k+1),rfl,hh,(by omega),(q_ (d:=[]) ht hkn (by omega) hee),hF.to⟩
    omega
  ·refine cX 0 (xT (xT (xB ?_)))
   refine tK<|qP [(4,.bool true)] hF fun a hF=>cR<|rT 4 (.bool true) hF ?_
   obtain rfl:k=l.length :=by omega
   rw[List.take_length,hle,List.take_length] at ht
   exact⟨by rw[decide_eq_true ht],hh⟩
noncomputable def b56:Code:=Tryz.f56.body.getD .skip
set_option maxHeartbeats 1000000 in
theorem nC(h:Heap)(A B:An)(LI:Option Addr)(qc1:Nat)(JI:Option Addr)(JJ:Nat)(JK:Option Addr)(pc1:Nat)(q1:aR h (.slice LI A.b.length qc1) A.b.length 1 (A.b.map bv))(i1:aR h (.slice JI A.i.length JJ) A.i.length 1 (A.i.map Value.string))(p1:aR h (.slice JK A.p.length pc1) A.p.length 32 (hcs A.p))(qa2:Option Addr)(qc2:Nat)(xo:Option Addr)(wL:Nat)(pe:Option Addr)(pc2:Nat)(q2:aR h (.slice qa2 B.b.length qc2) B.b.length 1 (B.b.map bv))(i2:aR h (.slice xo B.i.length wL) B.i.length 1 (B.i.map Value.string))(p2:aR h (.slice pe B.p.length pc2) B.p.length 32 (hcs B.p))(h32:aB A.p)(zc:aB B.p)(LJ:A.i.length ≤1099511627776)(LK:A.p.length ≤1099511627776):Sat Tryz.prog 56 #[.agg (bJ A.c (.slice LI A.b.length qc1) A.sx A.se A.sh A.sg (.slice JI A.i.length JJ) A.n A.y A.k (.slice JK A.p.length pc1)).toArray,.agg (bJ B.c (.slice qa2 B.b.length qc2) B.sx B.se B.sh B.sg (.slice xo B.i.length wL) B.n B.y B.k (.slice pe B.p.length pc2)).toArray] h fun v h'=>v= .int .i64 (bO A B)∧Ext h h':=by
 have e0:=Ext.refl h
 have sep:Sep h.size h.size []:=Sep.nil _ _
 refine ak Tryz.func56 52 fun a hF=>qS hF<|tN 0 (pV h.size) ((bJ A.c (.slice LI A.b.length qc1) A.sx A.se A.sh A.sg (.slice JI A.i.length JJ) A.n A.y A.k (.slice JK A.p.length pc1)).toArray) 47 fun h1 g2 m3=> ?_
 replace sep:=sep.nw e0.size m3
 refine tN 1 (pV h1.size) ((bJ B.c (.slice qa2 B.b.length qc2) B.sx B.se B.sh B.sg (.slice xo B.i.length wL) B.n B.y B.k (.slice pe B.p.length pc2)).toArray) 47 fun h4 g5 m6=> ?_
 replace e0:=e0.ext g2
 replace sep:=sep.nw e0.size m6
 refine sT [(2,pV h.size),(3,pV h1.size)] fun a hF=>cS<|cB 0<|qS hF ?_
 replace m3:=m3.x g5
 refine tO 1 0 m3<|tO 3 0 m6<|sT [(5,.bool (!decide (A.c =B.c)))] fun a hF=>cI 5 hF (fun B5=> ?_) fun B5=> ?_
 ·have Qk:=B5
  refine qP [(4,.int .i64 1)] hF fun a hF=>cR (yB (yT ?_))
  refine rT 4 (.int .i64 1) hF ?_
  replace e0:=e0.ext g5
  exact⟨by rw[Dp Qk],e0⟩
 ·have Fg:=B5
  refine qS hF<|tO 1 1 m3 ?_
  replace e0:=e0.ext g5
  refine tC 2 (.string (ByteArray.mk A.b.toArray)) (Calm.str (l:=A.b) (by kernel_rfl) (q1.1.ext e0))<|tO 4 1 m6<|tC 5 (.string (ByteArray.mk B.b.toArray)) (Calm.str (l:=B.b) (by kernel_rfl) (q2.1.ext e0))<|t1 6 (.bool (!decide (A.b =B.b))) (.bool (!((ByteArray.mk A.b.toArray).toList ==(ByteArray.mk B.b.toArray).toList))) (congrArg (fun b=>Value.bool (!b)) (zo _ _))<|sT [(11,.bool (!decide (A.b =B.b)))] fun a hF=>cI 11 hF (fun hc8=> ?_) fun hc8=> ?_
  ·have Ql:=hc8
   refine qP [(4,.int .i64 2)] hF fun a hF=>cR (yB (yT ?_))
   exact rT 4 (.int .i64 2) hF<|⟨by rw[rule2 Fg Ql],e0⟩
  ·have F0:=hc8
   refine qS hF<|tQ 1 2 (uX A.sx A.se A.sh A.sg) m3<|tQ 3 2 (uX B.sx B.se B.sh B.sg) m6<|tC 4 (.bool (!(ep A.sx A.se A.sh A.sg B.sx B.se B.sh B.sg))) ((Calm.AY (q:=false) (by kernel_rfl) (ed A.sx A.se A.sh A.sg B.sx B.se B.sh B.sg)) _)<|sT [(19,.bool (!(ep A.sx A.se A.sh A.sg B.sx B.se B.sh B.sg)))] fun a hF=>cC 19 (!(ep A.sx A.se A.sh A.sg B.sx B.se B.sh B.sg)) hF (fun Fh=> ?_) (fun Fh=> ?_)
   ·have Qm:=Fh
    refine qP [(4,.int .i64 3)] hF fun a hF=>cR (yB (yT ?_))
    exact rT 4 (.int .i64 3) hF<|⟨by rw[Hi Fg F0 (by simpa using Qm)],e0⟩
   ·have HY:=Fh
    refine qS hF<|tO 1 39 m3<|tO 3 39 m6<|tC 4 (.bool (decide (A.i =B.i))) (Does.call (f:=94) (args:= #[.slice JI A.i.length JJ,.slice xo B.i.length wL]) (by kernel_rfl) (CD _ A.i B.i _ _ _ _ (i1.ext e0) (i2.ext e0) LJ))<|sT [(25,.bool (!decide (A.i =B.i)))] fun a hF=>cI 25 hF (fun nv=> ?_) fun nv=> ?_
    ·have Qn:=nv
     refine qP [(4,.int .i64 4)] hF fun a hF=>cR (yB (yT ?_))
     exact rT 4 (.int .i64 4) hF<|⟨by rw[Hj Fg F0 (by simpa using HY) Qn],e0⟩
    ·have JL:=nv
     refine qS hF<|tQ 1 40 (hdc A.n A.y) m3<|tQ 3 40 (hdc B.n B.y) m6<|tC 4 (.bool (!(oo A.n A.y B.n B.y))) ((Calm.AY (q:=false) (by kernel_rfl) (q9 A.n A.y B.n B.y)) _)<|sT [(32,.bool (!(oo A.n A.y B.n B.y)))] fun a hF=>cC 32 (!(oo A.n A.y B.n B.y)) hF (fun iR=> ?_) (fun iR=> ?_)
     ·have Qo:=iR
      refine qP [(4,.int .i64 5)] hF fun a hF=>cR (yB (yT ?_))
      exact rT 4 (.int .i64 5) hF<|⟨by rw[Hk Fg F0 (by simpa using HY) JL (by simpa using Qo)],e0⟩
     ·have LL:=iR
      refine cS ?_
      rcases Int.decEq A.k B.k with hk|hk
      ·refine rS hF<|tO 1 73 m3<|tO 3 73 m6<|uT 4 A.k B.k <|sE [(38,.bool true)] fun a hF=>tK<|cT 38 hF ?_
       refine qP [(4,.int .i64 6)] hF fun a hF=>cR (yB (yT ?_))
       exact rT 4 (.int .i64 6) hF<|⟨by rw[Dq Fg F0 (by simpa using HY) JL (by simpa using LL) (by first|exact .inl hk|exact .inr NU)],e0⟩
      ·refine rS hF<|tO 1 73 m3<|tO 3 73 m6<|uF 4 A.k B.k <|tO 7 74 m3<|tO 9 74 m6<|tC 10 (.bool (decide (A.p =B.p))) (Does.call (f:=95) (args:= #[.slice JK A.p.length pc1,.slice pe B.p.length pc2]) (by kernel_rfl) (zW _ A.p B.p _ _ _ _ (p1.ext e0) (p2.ext e0) h32 zc LK)) ?_
       refine sE [(38,.bool (!decide (A.p =B.p)))] fun a hF=>tK<|cI 38 hF (fun hc12=> ?_) fun hc12=> ?_
       ·have NU:=hc12
        refine qP [(4,.int .i64 6)] hF fun a hF=>cR (yB (yT ?_))
        exact rT 4 (.int .i64 6) hF<|⟨by rw[Dq Fg F0 (by simpa using HY) JL (by simpa using LL) (by first|exact .inl hk|exact .inr NU)],e0⟩
       ·have Qp:=hc12
        exact cN<|bK<|tK<|qP [(4,.int .i64 0)] hF fun a hF=>cR<|rT 4 (.int .i64 0) hF<|⟨by rw[u9 Fg F0 (by simpa using HY) JL (by simpa using LL) hk Qp],e0⟩
end Go.Proofs.YtegkejcglfgpmaaGreatDoor
end
section
namespace Go.Proofs.YtegkejcglfgpmaaGreatDoor
open Go Go.an Go.aT
noncomputable def b61:Code:=Tryz.f61.body.getD .skip
theorem Fi(h:Heap)(mb mp:Nat)(M:Md)(m:Mod h mb mp M)(kd n:Int)(s:ByteArray)(l:List UInt8)(oa:Option Addr)(oc:Nat)(ka:Option Addr)(kn kc:Nat)(hr:Row h (.slice oa l.length oc) l.length 1 (l.map bv))(hsz:s.size ≤9223372036854775807)(kt:bH h)(hE:M.E.length ≤1099511627)(W:An)(hW:(step M kd n s l).2 =W):Sat Tryz.prog 17 #[.pointer (some ⟨mb,0,none⟩),.agg #[.int .i64 kd,.string s,.slice oa l.length oc,.int .i64 n,.slice ka kn kc]] h fun v h'=>∃qa qc ia ic pa pc,v=wk W (.slice qa W.b.length qc) (.slice ia W.i.length ic) (.slice pa W.p.length pc)∧aR h' (.slice qa W.b.length qc) W.b.length 1 (W.b.map bv)∧aR h' (.slice ia W.i.length ic) W.i.length 1 (W.i.map Value.string)∧aR h' (.slice pa W.p.length pc) W.p.length 32 (hcs W.p)∧aB W.p ∧Mod h' mb mp (step M kd n s l).1 ∧MG mb mp h h':=by
 subst hW
 exact(Fc h mb mp M m kd n s l oa oc ka kn kc hr hsz kt hE).mono fun v h' ⟨⟨qa,qc,ia,ic,pa,pc,e,r1,r2,r3,r4⟩,g⟩=>⟨qa,qc,ia,ic,pa,pc,e,r1,r2,r3,r4,g⟩
set_option maxHeartbeats 1000000 in
theorem zX(h:Heap)(jb mb mp:Nat)(M:Md)(m:Mod h mb mp M)(cv:Value)(o1 o2 o4:Bool)(hj:h[jb]? =some (.cells #[cv,.bool o1,.bool o2,.bool false,.bool o4] 77))(kd n:Int)(s:ByteArray)(l:List UInt8)(oa:Option Addr)(oc:Nat)(ka:Option Addr)(kn kc:Nat)(hr:aR h (.slice oa l.length oc) l.length 1 (l.map bv))(hsz:s.size ≤9223372036854775807)(X:An)(ga:Option Addr)(gd:Nat)(gf:Option Addr)(gg:Nat)(gh:Option Addr)(gl:Nat)(xq:aR h (.slice ga X.b.length gd) X.b.length 1 (X.b.map bv))(xi:aR h (.slice gf X.i.length gg) X.i.length 1 (X.i.map Value.string))(xp:aR h (.slice gh X.p.length gl) X.p.length 32 (hcs X.p))(x32:aB X.p)(k11:kd≠11)(k15:kd≠15)(kt:bH h)(hE:M.E.length ≤1099511627):Sat Tryz.prog 61 #[.pointer (some ⟨jb,0,none⟩),.pointer (some ⟨mb,0,none⟩),.agg #[.int .i64 kd,.string s,.slice oa l.length oc,.int .i64 n,.slice ka kn kc],.agg (bJ X.c (.slice ga X.b.length gd) X.sx X.se X.sh X.sg (.slice gf X.i.length gg) X.n X.y X.k (.slice gh X.p.length gl)).toArray] h fun v h'=>v= .int .i64 (bQ kd n s l X M).2 ∧Mod h' mb mp (bQ kd n s l X M).1 ∧MG mb mp h h':=by
 have hbj:=ag hj
 obtain⟨hjm,hjp⟩:=m.FY hj (by decide)
 have e0:=Ext.refl h
 have dL:=kt.lt
 have sep:Sep h.size h.size []:=Sep.nil _ _
 refine ak Tryz.func61 59 fun a hF=>qS hF<|tN 0 (pV h.size) #[.int .i64 kd,.string s,.slice oa l.length oc,.int .i64 n,.slice ka kn kc] 35 fun h1 g2 m3=> ?_
 have oH:=ag m3
 have oI:=e0.size
 replace sep:=sep.nw e0.size m3
 refine tN 1 (pV h1.size) ((bJ X.c (.slice ga X.b.length gd) X.sx X.se X.sh X.sg (.slice gf X.i.length gg) X.n X.y X.k (.slice gh X.p.length gl)).toArray) 47 fun h6 g7 m8=> ?_
 have D9:=ag m8
 replace e0:=e0.ext g2
 have qt:=e0.size
 replace sep:=sep.nw e0.size m8
 refine sT [(6,pV h.size),(7,pV h1.size)] fun a hF=>qS hF ?_
 replace m3:=m3.x g7
 refine tR 1 m3 ?_
 obtain⟨W,hW⟩:∃W,(step M kd n s l).2 =W:=⟨_,rfl⟩
 replace e0:=e0.ext g7
 have mE:=m.ext e0;have hwb:=g_ m kd n s l;rw[hW] at hwb
 replace kt:=(kt.ext g2).ext g7
 replace hr:=(hr.ext g2).ext g7
 refine tG 2 (Fi _ mb mp M mE kd n s l oa oc ka kn kc hr.1 hsz kt hE W hW) ?_
 rintro _ h11 ⟨qa,qc,ia,ic,pa,pc,rfl,r1,r2,r3,r4,hmod,gm⟩
 have gk:MG mb mp h h11:=(MG.aS e0).trans gm
 have hbk:=m.kb
 replace hj:=(hj.x g2).x g7
 replace hj:=gm.blk hj (by omega) (by omega)
 replace m3:=gm.blk m3 (by omega) (by omega)
 replace m8:=gm.blk m8 (by omega) (by omega)
 replace xq:=(xq.ext g2).ext g7
 replace xq:=xq.AZ gm mE
 replace xi:=(xi.ext g2).ext g7
 replace xi:=xi.AZ gm mE
 replace xp:=(xp.ext g2).ext g7
 replace xp:=xp.AZ gm mE
 replace sep:=sep.up gm.1
 refine tN 3 (pV h11.size) ((bJ (0:Int) (.slice none 0 0) aC (0:Int) false false (.slice none 0 0) (0:Int) aC (0:Int) (.slice none 0 0)).toArray) 47 fun h12 g13 m14=> ?_
 have Qq:=ag m14
 have LM:=gk.1
 replace sep:=sep.nw gk.1 m14
 refine bG 4 (bJ W.c (.slice qa W.b.length qc) W.sx W.se W.sh W.sg (.slice ia W.i.length ic) W.n W.y W.k (.slice pa W.p.length pc)) m14 fun h17 g18 zq=> ?_
 replace xq:=xq.ext g13
 replace xq:=xq.bE g18 m14 (by decide)
 replace xi:=xi.ext g13
 replace xi:=xi.bE g18 m14 (by decide)
 replace xp:=xp.ext g13
 replace xp:=xp.bE g18 m14 (by decide)
 replace r1:=r1.ext g13
 replace r1:=r1.bE g18 m14 (by decide)
 replace r2:=r2.ext g13
 replace r2:=r2.bE g18 m14 (by decide)
 replace r3:=r3.ext g13
 replace r3:=r3.bE g18 m14 (by decide)
 replace hmod:=hmod.ext g13
 replace hmod:=hmod.bE g18 m14 (by decide) (by omega)
 replace hj:=hj.x g13
 replace hj:=hj.y g18
 replace m14:=zq
 refine sT [(9,pV h11.size)] fun a hF=>qP [(10,.int .i64 0)] hF fun a hF=>cS<|qS hF ?_
 replace m3:=(m3.x g13).y g18 (sep.bp 2 0)
 refine tO 1 0 m3<|sT [(15,.int .i64 kd)] fun a hF=>cB 0<|qS hF<|eF 0 kd 11<|sT [(16,.bool false)] fun a hF=>cF 16 hF ?_
 refine qS hF<|eF 0 kd 15<|sT [(18,.bool false)] fun a hF=>cF 18 hF<|qP [(23,.bool (decide (kd=(2:Int))))] hF fun a hF=>cJ 23 hF (fun hc19=> ?_) fun hc19=> ?_
 ·refine qS hF<|tO 3 3 hj<|sT [(39,.bool false)] fun a hF=>cF 39 hF<|cN<|bK<|tK ?_
  refine cS<|qP [(52,.bool false)] hF fun a hF=>cF 52 hF<|cN<|tK<|qS hF<|tR 0 m14 ?_
  replace m8:=(m8.x g13).y g18 (sep.bp 1 0)
  refine tR 1 m8<|tG 2 (nC _ W X _ _ _ _ _ _ r1 r2 r3 _ _ _ _ _ _ xq xi xp r4 x32 (by omega) (by omega)) ?_
  rintro _ h21 ⟨rfl,g20⟩
  refine sT [(8,.int .i64 (bO W X))] fun a hF=>cR<|rT 8 (.int .i64 (bO W X)) hF ?_
  replace gk:=((gk.ext g13).yK g18 (fun x e=>by cases e;omega)).ext g20
  replace hmod:=hmod.ext g20
  exact⟨by unfold bQ;rw[hW],hmod,gk⟩
 ·refine cN<|bK<|tK<|cS<|qP [(52,.bool false)] hF fun a hF=>cF 52 hF<|cN ?_
  refine tK<|qS hF<|tR 0 m14 ?_
  replace m8:=(m8.x g13).y g18 (sep.bp 1 0)
  refine tR 1 m8<|tG 2 (nC _ W X _ _ _ _ _ _ r1 r2 r3 _ _ _ _ _ _ xq xi xp r4 x32 (by omega) (by omega)) ?_
  rintro _ h23 ⟨rfl,g22⟩
  refine sT [(8,.int .i64 (bO W X))] fun a hF=>cR<|rT 8 (.int .i64 (bO W X)) hF ?_
  replace gk:=((gk.ext g13).yK g18 (fun x e=>by cases e;omega)).ext g22
  replace hmod:=hmod.ext g22
  exact⟨by unfold bQ;rw[hW],hmod,gk⟩
noncomputable def b59:Code:=Tryz.f59.body.getD .skip
set_option maxHeartbeats 1000000 in
theorem kg(h:Heap)(jb:Nat)(bs:List (Nat×Nat))(Ms:List Md)(o1 o2 o4:Bool)(ca:Option Addr)(cc:Nat)(ja:JA h jb bs ⟨Ms,o1,o2,false,o4⟩ ca cc)(kd n:Int)(s:ByteArray)(l:List UInt8)(oa:Option Addr)(oc:Nat)(ka:Option Addr)(kn kc:Nat)(hr:aR h (.slice oa l.length oc) l.length 1 (l.map bv))(hsz:s.size ≤9223372036854775807)(X:An)(ga:Option Addr)(gd:Nat)(gf:Option Addr)(gg:Nat)(gh:Option Addr)(gl:Nat)(xq:aR h (.slice ga X.b.length gd) X.b.length 1 (X.b.map bv))(xi:aR h (.slice gf X.i.length gg) X.i.length 1 (X.i.map Value.string))(xp:aR h (.slice gh X.p.length gl) X.p.length 32 (hcs X.p))(x32:aB X.p)(k11:kd≠11)(k15:kd≠15)(kt:bH h)(hE:∀M∈Ms,M.E.length ≤1099511627)(hn:bs.length ≤1099511627):Sat Tryz.prog 59 #[.pointer (some ⟨jb,0,none⟩),.agg #[.int .i64 kd,.string s,.slice oa l.length oc,.int .i64 n,.slice ka kn kc],.agg (bJ X.c (.slice ga X.b.length gd) X.sx X.se X.sh X.sg (.slice gf X.i.length gg) X.n X.y X.k (.slice gh X.p.length gl)).toArray,.func (.func 61) #[.pointer (some ⟨jb,0,none⟩)] #[]] h fun v h'=>v= .int .i64 (cf ⟨Ms,o1,o2,false,o4⟩ (bQ kd n s l X)).2 ∧∃bs' ca cc,JA h' jb bs' (cf ⟨Ms,o1,o2,false,o4⟩ (bQ kd n s l X)).1 ca cc∧(∀x∈bs',x∈bs)∧Gr (JF jb bs) h h':=by
 obtain⟨hj,row,cs0⟩:=ja
 have hj0:=hj
 have hbj:=ag hj
 have hjb:=cs0.Jy hj (by decide)
 have hnr:=cs0.ET hj (by decide) (by decide)
 have e0:=Ext.refl h
 have dL:=kt.lt
 have sep:Sep h.size h.size []:=Sep.nil _ _
 refine ak Tryz.func59 47 fun a hF=>qS hF<|tN 0 (pV h.size) #[.int .i64 kd,.string s,.slice oa l.length oc,.int .i64 n,.slice ka kn kc] 35 fun h1 g2 m3=> ?_
 have oH:=ag m3
 have oI:=e0.size
 replace sep:=sep.nw e0.size m3
 refine tN 1 (pV h1.size) ((bJ X.c (.slice ga X.b.length gd) X.sx X.se X.sh X.sg (.slice gf X.i.length gg) X.n X.y X.k (.slice gh X.p.length gl)).toArray) 47 fun h6 g7 m8=> ?_
 have D9:=ag m8
 replace e0:=e0.ext g2
 have qt:=e0.size
 replace sep:=sep.nw e0.size m8
 refine sT [(5,pV h.size),(6,pV h1.size)] fun a hF=>qP [(9,.slice none 0 0)] hF fun a hF=>qP [(10,.int .i64 0)] hF fun a hF=>cS<|qS hF ?_
 replace hj:=(hj.x g2).x g7
 refine tO 3 0 hj<|sT [(17,.slice ca bs.length cc),(18,nV bs.length),(19,.int .i64 0)] fun a hF=>cB 0 ?_
 have bS:Own h6 (.slice none 0 0) 55 0 1 ((cK (bQ kd n s l X) bs Ms 0).map m_):=Own.nil _ _ _
 replace e0:=e0.ext g7
 have hlo:=e0.size
 replace sep:=sep.none hlo;clear hlo
 have gj:Gr (JF jb bs) h h6:=(Gr.start _ _).ext e0
 have cs:CA h6 bs Ms:=cs0.ext e0
 replace kt:=(kt.ext g2).ext g7
 replace m3:=m3.x g7
 refine cL (fun m a h'=>∃k:Nat,∃ad:Option Addr,∃cap:Nat,m=bs.length - k∧(bH h')∧(h'[jb]? =some (.cells #[.slice ca bs.length cc,.bool o1,.bool o2,.bool false,.bool o4] 77))∧(h'[h.size]? =some (.cells #[.int .i64 kd,.string s,.slice oa l.length oc,.int .i64 n,.slice ka kn kc] 35))∧(h'[h1.size]? =some (.cells (bJ X.c (.slice ga X.b.length gd) X.sx X.se X.sh X.sg (.slice gf X.i.length gg) X.n X.y X.k (.slice gh X.p.length gl)).toArray 47))∧(k≤bs.length)∧(Gr (JF jb bs) h h')∧(CA h' bs ((Ms.take k).map (fun M=>((bQ kd n s l X) M).1)++Ms.drop k))∧(Own h' (.slice ad ((cK (bQ kd n s l X) bs Ms k).length) cap) 55 ((cK (bQ kd n s l X) bs Ms k).length) 1 ((cK (bQ kd n s l X) bs Ms k).map m_))∧(Sep h.size h'.size [ad.map (·.block),some (h1.size),some (h.size)])∧(Fr a 47 [(0,.pointer (some ⟨jb,0,none⟩)),(3,.func (.func 61) #[.pointer (some ⟨jb,0,none⟩)] #[]),(5,.pointer (some ⟨h.size,0,none⟩)),(6,.pointer (some ⟨h1.size,0,none⟩)),(9,.slice ad ((cK (bQ kd n s l X) bs Ms k).length) cap),(10,.int .i64 (s_ (bQ kd n s l X) Ms k)),(17,.slice ca bs.length cc),(18,.int .i64 ((bs.length :Nat):Int)),(19,.int .i64 ((k:Nat):Int))])) (bs.length - 0) ⟨0,none,0,rfl,kt,hj,m3,m8,(by omega),gj,cs,bS,sep,hF.to⟩ ?_
 clear hF a
 clear kt
 clear hj
 clear m3
 clear m8
 clear gj
 clear cs
 clear bS
 clear sep
 rintro m a h11 ⟨k,ad,cap,rfl,kt,hj,m3,m8,hk,gj,cs,bS,sep,hF⟩
 refine qP [(20,.bool (decide (((k:Nat):Int)<((bs.length :Nat):Int))))] hF fun a hF=>cS<|cJ 20 hF (fun hc12=> ?_) fun hc12=> ?_
 ·have hkn:k<bs.length :=by omega
  obtain⟨x,hx⟩:∃x,bs[k]? =some x:=⟨_,List.getElem?_eq_getElem hkn⟩
  obtain⟨M,hM⟩:∃M,Ms[k]? =some M:=⟨_,List.getElem?_eq_getElem (by rw[←cs0.len];exact hkn)⟩
  have hxm:=List.mem_of_getElem? hx
  have m0:=cs0.at_ k x M hx hM
  have mk:=cs.at_ k x M hx (zp (fun M=>((bQ kd n s l X) M).1) hM)
  have hmk:=m0.kb;have LN:=m0.k1
  obtain⟨hjm,hjp⟩:=m0.FY hj0 (by decide)
  have Qr:=hE M (List.mem_of_getElem? hM)
  have hFn:=hF
  obtain⟨aa,rfl,b3⟩:=row.1.a6 (by omega)
  have hF:=hFn;clear hFn
  refine cN<|tK<|cS<|cB 1<|qS hF<|tI 1 aa bs.length 1 k k<|tC 2 (pV x.1) (Calm.load (T:=55) (p:=(Addr.add aa k)) (by kernel_rfl) (Loads.one (k:=1) (by kernel_rfl) ((row.fr gj fun i e=>(hnr i e).2).1.cells k (m_ x) (by rw[List.getElem?_map,hx];rfl)))) ?_
  refine sT [(11,nV k),(12,pV x.1)] fun a hF=>qS hF<|tR 2 m3<|tR 3 m8<|tF 4 (Does.call (f:=61) (args:= #[.pointer (some ⟨jb,0,none⟩),.pointer (some ⟨x.1,0,none⟩),.agg #[.int .i64 kd,.string s,.slice oa l.length oc,.int .i64 n,.slice ka kn kc],.agg (bJ X.c (.slice ga X.b.length gd) X.sx X.se X.sh X.sg (.slice gf X.i.length gg) X.n X.y X.k (.slice gh X.p.length gl)).toArray]) (by kernel_rfl) (zX _ jb x.1 x.2 M mk _ o1 o2 o4 hj kd n s l oa oc ka kn kc (hr.fr gj fun i e=>(hnr i e).1) hsz X ga gd gf gg gh gl (xq.fr gj fun i e=>(hnr i e).1) (xi.fr gj fun i e=>(hnr i e).1) (xp.fr gj fun i e=>(hnr i e).1) x32 k11 k15 kt Qr)) ?_
  rintro _ h13 ⟨rfl,hmod,gm⟩
  replace cs:=cs.set hx (zp (fun M=>((bQ kd n s l X) M).1) hM) gm hmod
  rw[B_ (fun M=>((bQ kd n s l X) M).1) hM] at cs
  replace gj:=gj.Dt gm (by rintro i (e|e);exact .inl (.inr ⟨x,hxm,.inl e⟩);exact .inl (.inr ⟨x,hxm,.inr e⟩))
  replace kt:=kt.gr gm (by rintro(e|e)<;>omega)
  replace hj:=gm.blk hj (by omega) (by omega)
  replace m3:=gm.blk m3 (by omega) (by omega)
  replace m8:=gm.blk m8 (by omega) (by omega)
  replace bS:=Gr.own gm bS (by rw[aj];intro k e;have:=sep.low 0 rfl k e;rintro(e2|e2)<;>omega)
  replace sep:=sep.up gm.1
  refine sT [(13,.int .i64 (((bQ kd n s l X) M).2))] fun a hF=>cS<|qP [(30,.bool (decide ((((bQ kd n s l X) M).2)=(0:Int))))] hF fun a hF=>cJ 30 hF (fun tu=> ?_) fun tu=> ?_
  ·have hfz:=zt (f:=(bQ kd n s l X)) hx hM tu
   have hfl:=Cb (f:=(bQ kd n s l X)) (bs:=bs) (Ms:=Ms) (i:=k)
   refine rS hF<|tN 2 (.slice (some ⟨h13.size,0,none⟩) 1 1) #[pV x.1] 55 fun h15 g16 m17=> ?_
   have tz:=ag m17
   have tB:=gj.1
   replace sep:=sep.nw gj.1 m17
   replace bS:=bS.ext g16
   refine tP 3 ((cK (bQ kd n s l X) bs Ms k).length +1) 8 ((cK (bQ kd n s l X) bs Ms k).map m_++[m_ x]) bS (Row.blk (n:=1) (sz:=1) (l:=[m_ x]) m17 rfl) (List.all_eq_true.1 (by rfl)) (fun pO oY jK aq g22 mG=> ?_)
   replace gj:=gj.ext g16
   replace cs:=cs.ext g16
   replace cs:=cs.Cg g22 bS (aj ..) (by decide) (by decide)
   replace hj:=hj.x g16
   replace hj:=hj.y g22 (fun e=>by have:=sep.low 1 rfl _ e.symm;omega)
   have zl:=sep
   replace sep:=sep.sa g22 1 mG aq gj.1;clear mG
   replace bS:=aq;clear aq
   have zY:(cK (bQ kd n s l X) bs Ms k).length +1=(cK (bQ kd n s l X) bs Ms (k+1)).length :=by rw[hfz,List.length_append];rfl
   rw[zY,show(cK (bQ kd n s l X) bs Ms k).map m_++[m_ x]=(cK (bQ kd n s l X) bs Ms (k+1)).map m_ by rw[hfz,List.map_append];rfl] at bS
   refine sE [(9,.slice pO ((cK (bQ kd n s l X) bs Ms k).length +1) oY)] fun a hF=> ?_
   have hcan:((cK (bQ kd n s l X) bs Ms k).length +1:Nat)=(cK (bQ kd n s l X) bs Ms (k+1)).length :=by first|exact zY| (simp;done)| (simp;omega)
   rw[hcan] at hF;clear hcan
   refine tK<|qP [(36,.bool (decide (((k:Nat):Int)=(0:Int))))] hF fun a hF=>cJ 36 hF (fun LO=> ?_) fun LO=> ?_
   ·have hk0:k=0:=by omega
    have Fj:=rf (f:=(bQ kd n s l X)) hk0 hM
    refine rP [(10,.int .i64 (((bQ kd n s l X) M).2))] hF fun a hF=> ?_
    rw[←Fj] at hF
    refine bK<|tK<|rS hF<|tA 0 k 1<|sE [(19,nV (k+1))] fun a hF=> ?_
    clear m17 tz tB
    replace kt:=(kt.ext g16).grew g22 (zl.zero 1 rfl dL)
    replace m3:=(m3.x g16).y g22 (zl.bp 3 1)
    replace m8:=(m8.x g16).y g22 (zl.bp 2 1)
    replace gj:=gj.ct g22 (fun i e=> .inr (by have:=zl.low 1 rfl i e;omega))
    replace sep:=sep.sub (l':=[pO.map (·.block),some (h1.size),some (h.size)]) (.cons _ (.cons_cons _ (.cons_cons _ (.cons_cons _ (.slnil)))))
    show ∃m',m'<_∧_
    refine⟨_,?_,(k+1),pO,oY,rfl,kt,hj,m3,m8,(by omega),gj,cs,bS,sep,hF.to⟩
    omega
   ·rw[←rh (bQ kd n s l X) Ms (k:=k) (by omega)] at hF
    refine cN<|bK<|tK<|rS hF<|tA 0 k 1<|sE [(19,nV (k+1))] fun a hF=> ?_
    clear m17 tz tB
    replace kt:=(kt.ext g16).grew g22 (zl.zero 1 rfl dL)
    replace m3:=(m3.x g16).y g22 (zl.bp 3 1)
    replace m8:=(m8.x g16).y g22 (zl.bp 2 1)
    replace gj:=gj.ct g22 (fun i e=> .inr (by have:=zl.low 1 rfl i e;omega))
    replace sep:=sep.sub (l':=[pO.map (·.block),some (h1.size),some (h.size)]) (.cons _ (.cons_cons _ (.cons_cons _ (.cons_cons _ (.slnil)))))
    show ∃m',m'<_∧_
    refine⟨_,?_,(k+1),pO,oY,rfl,kt,hj,m3,m8,(by omega),gj,cs,bS,sep,hF.to⟩
    omega
  ·have hfz:=Ca (f:=(bQ kd n s l X)) hx hM tu
   rw[←hfz] at bS hF
   refine cN<|tK<|qP [(36,.bool (decide (((k:Nat):Int)=(0:Int))))] hF fun a hF=>cJ 36 hF (fun hc27=> ?_) fun hc27=> ?_
   ·have hk0:k=0:=by omega
    have Fj:=rf (f:=(bQ kd n s l X)) hk0 hM
    refine rP [(10,.int .i64 (((bQ kd n s l X) M).2))] hF fun a hF=> ?_
    rw[←Fj] at hF
    refine bK<|tK<|rS hF<|tA 0 k 1<|sE [(19,nV (k+1))] fun a hF=> ?_
    replace sep:=sep.sub (l':=[ad.map (·.block),some (h1.size),some (h.size)]) (.cons_cons _ (.cons_cons _ (.cons_cons _ (.slnil))))
    show ∃m',m'<_∧_
    refine⟨_,?_,(k+1),ad,cap,rfl,kt,hj,m3,m8,(by omega),gj,cs,bS,sep,hF.to⟩
    omega
   ·rw[←rh (bQ kd n s l X) Ms (k:=k) (by omega)] at hF
    refine cN<|bK<|tK<|rS hF<|tA 0 k 1<|sE [(19,nV (k+1))] fun a hF=> ?_
    replace sep:=sep.sub (l':=[ad.map (·.block),some (h1.size),some (h.size)]) (.cons_cons _ (.cons_cons _ (.cons_cons _ (.slnil))))
    show ∃m',m'<_∧_
    refine⟨_,?_,(k+1),ad,cap,rfl,kt,hj,m3,m8,(by omega),gj,cs,bS,sep,hF.to⟩
    omega
 ·refine cX 0 (xT (xT (xB ?_)))
  refine tK<|cS<|qP [(41,.bool (decide ((((cK (bQ kd n s l X) bs Ms k).length :Nat):Int)=(0:Int))))] hF fun a hF=>cJ 41 hF (fun hc28=> ?_) fun hc28=> ?_
  ·have hke:k=bs.length :=by omega
   rw[u_ _ _ (hke.trans cs0.len)] at cs
   have hfn:=Cc (f:=(bQ kd n s l X)) (bs:=bs) (Ms:=Ms) cs0.len (by rw[←hke];omega)
   refine qP [(8,.int .i64 (s_ (bQ kd n s l X) Ms k))] hF fun a hF=>cR (yT ?_)
   refine rT 8 (.int .i64 (s_ (bQ kd n s l X) Ms k)) hF ?_
   rw[Ce (f:=(bQ kd n s l X)) hfn];exact⟨by rw[Cd (hke.trans cs0.len)],bs,ca,cc,⟨hj,row.fr gj fun i e=>(hnr i e).2,cs⟩,fun x hx=>hx,gj⟩
  ·have hke:k=bs.length :=by omega
   rw[u_ _ _ (hke.trans cs0.len)] at cs
   have hfn:=ES (f:=(bQ kd n s l X)) (bs:=bs) (Ms:=Ms) cs0.len (by rw[←hke];omega)
   refine cN<|tK<|qS hF<|tW 4 0 ([.slice ad ((cK (bQ kd n s l X) bs Ms k).length) cap]) ([.slice ca bs.length cc,.bool o1,.bool o2,.bool false,.bool o4]) ([.slice ad ((cK (bQ kd n s l X) bs Ms k).length) cap,.bool o1,.bool o2,.bool false,.bool o4]) hj (fun GU gz hjz=> ?_)
   refine sT [] fun a hF=>qP [(8,.int .i64 0)] hF fun a hF=>cR<|rT 8 (.int .i64 0) hF ?_
   have Qs:∀i,i=jb→bf _ i:=fun i e=>e▸bf.cells hj (by decide)
   have hnp:∀i,i=jb→ER _ i:=fun i e cs fr e2=>by rw[e,hj] at e2;cases e2
   rw[zu (f:=(bQ kd n s l X)) hfn];exact⟨rfl,cK (bQ kd n s l X) bs Ms k,_,_,⟨hjz,(nf.of bS).fr gz.yP hnp,(hke▸cs.fit cs0.len).fr gz.yP Qs fun x hx=>by have:=hjb x (re x hx);exact⟨fun e=>this.1 e.symm,fun e=>this.2 e.symm⟩⟩,re,gj.ct gz (fun i e=>by cases e;exact .inl (.inl rfl))⟩
end Go.Proofs.YtegkejcglfgpmaaGreatDoor
end
section
namespace Go.Proofs.YtegkejcglfgpmaaGreatDoor
open Go Go.an Go.aT
theorem zZ(h:Heap)(mb mp nb np:Nat)(M N:Md)(m:Mod h mb mp M)(n:Mod h nb np N)(hne:M.E.length ≠N.E.length)(hl:M.E.length ≤2199023255552):Sat Tryz.prog 25 #[.pointer (some ⟨mb,0,none⟩),.pointer (some ⟨nb,0,none⟩)] h fun v h'=>v= .bool false∧Ext h h':=by
 obtain⟨L,ck,ea,ec,es,m⟩:=m
 obtain⟨L2,ck2,lI,ke,es2,n⟩:=n
 exact CC h mb mp M L ck ea ec es m nb np N L2 ck2 lI ke es2 n hne hl
noncomputable def Qt:Code:=Tryz.f138.body.getD .skip
theorem z1(h:Heap)(bs:List (Nat×Nat))(Ns:List Md)(va:Option Addr)(vc:Nat)(hr:Row h (.slice va bs.length vc) bs.length 1 (bs.map m_))(cs:CA h bs Ns)(mb mp:Nat)(M:Md)(m:Mod h mb mp M)(hne:∀N∈Ns,M.E.length ≠N.E.length)(hn:bs.length ≤1099511627)(hEl:M.E.length ≤2199023255552):Sat Tryz.prog 138 #[.slice va bs.length vc,.func (.func 25) #[.pointer (some ⟨mb,0,none⟩)] #[]] h fun v h'=>v= .int .i64 (-1)∧Ext h h':=by
 have e0:=Ext.refl h
 have sep:Sep h.size h.size []:=Sep.nil _ _
 refine ak Tryz.func138 19 fun a hF=>qP [] hF fun a hF=>cS<|qP [(7,nV bs.length),(8,.int .i64 0)] hF fun a hF=>cB 0<|cL (fun m a h'=>∃k:Nat,m=bs.length - k∧(Ext h h')∧(k≤bs.length)∧(Fr a 19 [(0,.slice va bs.length vc),(1,.func (.func 25) #[.pointer (some ⟨mb,0,none⟩)] #[]),(7,.int .i64 ((bs.length :Nat):Int)),(8,.int .i64 ((k:Nat):Int))])) (bs.length - 0) ⟨0,rfl,e0,(by omega),hF.to⟩ ?_
 clear hF a
 clear e0
 rintro m a h1 ⟨k,rfl,e0,hk,hF⟩
 refine qP [(9,.bool (decide (((k:Nat):Int)<((bs.length :Nat):Int))))] hF fun a hF=>cS<|cJ 9 hF (fun hc2=> ?_) fun hc2=> ?_
 ·have hkn:k<bs.length :=by omega
  obtain⟨x,hx⟩:∃x,bs[k]? =some x:=⟨_,List.getElem?_eq_getElem hkn⟩
  obtain⟨N,hN⟩:∃N,Ns[k]? =some N:=⟨_,List.getElem?_eq_getElem (by rw[←cs.len];exact hkn)⟩
  have hFn:=hF
  obtain⟨aa,rfl,b3⟩:=hr.a6 (by omega)
  have hF:=hFn;clear hFn
  refine cN<|tK<|cS<|cB 1<|qP [(5,nV k)] hF fun a hF=>qS hF<|tI 3 aa bs.length 1 k k ?_
  refine tC 4 (pV x.1) (Calm.load (T:=55) (p:=(Addr.add aa k)) (by kernel_rfl) (Loads.one (k:=1) (by kernel_rfl) ((hr.ext e0).cells k (m_ x) (by rw[List.getElem?_map,hx];rfl)))) ?_
  refine tF 5 (Does.call (f:=25) (args:= #[.pointer (some ⟨mb,0,none⟩),.pointer (some ⟨x.1,0,none⟩)]) (by kernel_rfl) (zZ _ mb mp x.1 x.2 M N (m.ext e0) ((cs.at_ k x N hx hN).ext e0) (hne N (List.mem_of_getElem? hN)) hEl)) ?_
  rintro _ h3 ⟨rfl,g⟩
  replace e0:=e0.ext g
  clear g
  refine sT [(16,.bool false)] fun a hF=>cF 16 hF<|cN<|bK<|tK<|rS hF<|tA 0 k 1 ?_
  refine sE [(8,nV (k+1))] fun a hF=> ?_
  show ∃m',m'<_∧_
  refine⟨_,?_,(k+1),rfl,e0,(by omega),hF.to⟩
  omega
 ·refine cX 0 (xT (xT (xB ?_)))
  exact tK<|qP [(4,.int .i64 (-1))] hF fun a hF=>cR<|rT 4 (.int .i64 (-1)) hF<|⟨rfl,e0⟩
noncomputable def Qu:Code:=Tryz.f120.body.getD .skip
theorem rL(h:Heap)(bs:List (Nat×Nat))(Ns:List Md)(va:Option Addr)(vc:Nat)(hr:Row h (.slice va bs.length vc) bs.length 1 (bs.map m_))(cs:CA h bs Ns)(mb mp:Nat)(M:Md)(m:Mod h mb mp M)(hne:∀N∈Ns,M.E.length ≠N.E.length)(hn:bs.length ≤1099511627)(hEl:M.E.length ≤2199023255552):Sat Tryz.prog 120 #[.slice va bs.length vc,.func (.func 25) #[.pointer (some ⟨mb,0,none⟩)] #[]] h fun v h'=>v= .bool false∧Ext h h':=by
 have e0:=Ext.refl h
 have sep:Sep h.size h.size []:=Sep.nil _ _
 refine ak Tryz.func120 9 fun a hF=>qP [] hF fun a hF=>qS hF<|tG 2 (z1 _ bs Ns va vc (hr.ext e0) (cs.ext e0) mb mp M (m.ext e0) hne hn hEl) ?_
 rintro _ h2 ⟨rfl,g1⟩
 refine sT [(4,.bool false)] fun a hF=>cR<|rT 4 (.bool false) hF ?_
 replace e0:=e0.ext g1
 exact⟨rfl,e0⟩
noncomputable def b96:Code:=Tryz.f96.body.getD .skip
theorem vn(h:Heap)(bs:List (Nat×Nat))(Ns:List Md)(va:Option Addr)(vc:Nat)(own:Own h (.slice va bs.length vc) 55 bs.length 1 (bs.map m_))(cs:CA h bs Ns)(mb mp:Nat)(M:Md)(m:Mod h mb mp M)(hne:∀N∈Ns,M.E.length ≠N.E.length)(hn:bs.length ≤1099511627)(hEl:M.E.length ≤2199023255552):Sat Tryz.prog 96 #[.slice va bs.length vc,.pointer (some ⟨mb,0,none⟩)] h fun v h'=>∃ad cap,v= .slice ad (bs.length +1) cap∧Own h' (.slice ad (bs.length +1) cap) 55 (bs.length +1) 1 ((bs++[(mb,mp)]).map m_)∧Grew (va.map (fun(x:Addr)=>x.block)) h h'∧(ad.map (fun(x:Addr)=>x.block)=va.map (fun(x:Addr)=>x.block)∨∃k,ad.map (fun(x:Addr)=>x.block)=some k∧h.size ≤k):=by
 have e0:=Ext.refl h
 have sep:Sep h.size h.size []:=Sep.nil _ _
 refine ak Tryz.func96 14 fun a hF=>qP [] hF fun a hF=>cS<|qS hF<|tG 3 (rL _ bs Ns va vc (own.row.ext e0) (cs.ext e0) mb mp M (m.ext e0) hne hn hEl) ?_
 rintro _ h2 ⟨rfl,g1⟩
 refine sT [(8,.bool false)] fun a hF=>cF 8 hF<|cN<|tK<|qS hF<|tN 2 (.slice (some ⟨h2.size,0,none⟩) 1 1) #[pV mb] 55 fun h3 g4 m5=> ?_
 have lt6:=ag m5
 replace e0:=e0.ext g1
 have zs7:=e0.size
 replace sep:=(sep.up g1.size).nw e0.size m5
 replace e0:=e0.ext g4
 refine tF 3 (Does.cP (t:=75) (E:=55) (sz:=1) (dT:=8) (n:=bs.length) (m:=1) (v:= .slice va bs.length vc) (x:= .slice (some ⟨h2.size,0,none⟩) 1 1) (xs:=bs.map m_) (ys:=[m_ (mb,mp)]) (by kernel_rfl) (by kernel_rfl) (own.ext e0) (Row.blk (n:=1) (sz:=1) (l:=[m_ (mb,mp)]) m5 rfl) (List.all_eq_true.1 (by rfl)) (by unfold maxLen;omega) (by omega)) ?_
 rintro _ h10 ⟨wF,nt,rfl,aq,gz,hbz⟩
 rw[aj] at gz hbz
 have hse:=e0.size
 exact sT [(4,.slice wF (bs.length +1) nt)] fun a hF=>cR<|rT 4 (.slice wF (bs.length +1) nt) hF<|⟨_,_,rfl,by rw[List.map_append];exact aq,(e0.but _).trans gz,hbz.imp id fun e=>⟨_,e,hse⟩⟩
noncomputable def b58:Code:=Tryz.f58.body.getD .skip
theorem vo(h:Heap)(mb mp:Nat)(M:Md)(m:Mod h mb mp M)(hE:M.E.length ≤1099511627):Sat Tryz.prog 23 #[.pointer (some ⟨mb,0,none⟩)] h fun v h'=>∃c q,v= .pointer (some ⟨c,0,none⟩)∧Mod h' c q M∧h.size ≤c∧h.size ≤q∧Ext h h':=by
 obtain⟨L,ck,ea,ec,es,m⟩:=m
 exact Cz h mb mp M L ck ea ec es m (fun _ e=>e.elim) hE
set_option maxHeartbeats 1000000 in
theorem di(h:Heap)(jb:Nat)(x:Nat×Nat)(M:Md)(o1 o2 o3 o4:Bool)(aa:Addr)(cc:Nat)(ja:JA h jb [x] ⟨[M],o1,o2,o3,o4⟩ (some aa) cc)(kd n:Int)(s:ByteArray)(l:List UInt8)(oa:Option Addr)(oc:Nat)(ka:Option Addr)(kn kc:Nat)(hr:aR h (.slice oa l.length oc) l.length 1 (l.map bv))(hsz:s.size ≤9223372036854775807)(kt:bH h)(hE:M.E.length ≤1099511627)(hc:(step M kd n s l).2.c =0)(hne:(step M kd n s l).1.E.length ≠M.E.length):Sat Tryz.prog 58 #[.pointer (some ⟨jb,0,none⟩),.agg #[.int .i64 kd,.string s,.slice oa l.length oc,.int .i64 n,.slice ka kn kc]] h fun _ h'=>∃y ca cc,JA h' jb [(x.1,x.2),y] ⟨[M,(step M kd n s l).1],o1,o2,o3,false⟩ ca cc∧h.size ≤y.1 ∧h.size ≤y.2 ∧Gr (fun k=>k=jb) h h':=by
 obtain⟨hj,row,cs0⟩:=ja
 have m:=cs0.ta
 have hj0:=hj
 have hbj:=ag hj
 have gj:=Gr.start (fun k=>k=jb) h
 have e0:=Ext.refl h
 have sep:Sep h.size h.size []:=Sep.nil _ _
 refine ak Tryz.func58 41 fun a hF=>qS hF<|tN 0 (pV h.size) #[.int .i64 kd,.string s,.slice oa l.length oc,.int .i64 n,.slice ka kn kc] 35 fun h1 g2 m3=> ?_
 have oH:=ag m3
 have oI:=e0.size
 have AU:=gj.1
 replace sep:=sep.nw e0.size m3
 refine sT [(3,pV h.size)] fun a hF=>qP [(4,.slice none 0 0)] hF fun a hF=>cS<|qS hF ?_
 replace hj:=hj.x g2
 refine tO 3 0 hj<|sT [(11,.slice (some aa) 1 cc),(12,.int .i64 1),(13,.int .i64 0)] fun a hF=>cB 0<|cU 2<|az.step <|qP [(14,.bool true)] hF fun a hF=>cS ?_
 refine cT 14 hF<|cN<|tK<|cS<|cB 1<|qS hF<|tI 0 aa 1 1 0 0 ?_
 replace e0:=e0.ext g2
 refine tC 1 (pV x.1) (Calm.load (T:=55) (p:=aa) (by kernel_rfl) (Loads.one (k:=1) (by kernel_rfl) ((row.1.ext e0).cells 0 (m_ x) rfl)))<|sT [(6,pV x.1)] fun a hF=>qS hF ?_
 have bt:Own h1 (.slice none 0 0) 55 0 1 (([]:List (Nat×Nat)).map m_):=Own.nil _ _ _
 have hlo:=e0.size
 replace sep:=sep.none hlo;clear hlo
 have mx:=m.ext e0
 have hmk:=m.kb;have LN:=m.k1
 obtain⟨hjm,hjp⟩:=m.FY hj0 (by decide)
 refine tG 2 (vn _ [] [] none 0 bt (CA.nil _) x.1 x.2 M mx (by simp) (by decide) (by omega)) ?_
 rintro _ h9 ⟨et,b8,rfl,aq,g,hbz⟩
 have hlo:=e0.size
 have a7:=sep
 replace gj:=gj.ext g2
 replace e0:=e0.grew g (sep.low 0 rfl)
 replace gj:=gj.ct g (fun i e=> .inr (sep.low 0 rfl i e))
 replace mx:=mx.EU g bt (aj ..) (by decide) (by decide)
 replace hj:=hj.y g (fun e=>by have:=sep.low 0 rfl _ e.symm;omega)
 replace m3:=m3.y g (sep.bp 1 0)
 replace sep:=sep.up g.size
 replace sep:Sep h.size h9.size [et.map (·.block),some (h.size)]:=a7.set g.size hlo 0 (y:=et.map (fun(x:Addr)=>x.block)) rfl (hbz.imp id .inr) (fun k e=>aq.lt (by rw[aj];exact e))
 clear bt;have bt:Own h9 (.slice et 1 b8) 55 1 1 ([(x.1,x.2)].map m_):=aq;clear aq g hbz hlo a7
 refine sT [(4,.slice et 1 b8)] fun a hF=>qS hF<|tG 1 (vo _ x.1 x.2 M mx hE) ?_
 rintro _ h10 ⟨c,q,rfl,my,hc1,hq1,g⟩
 have hse:=e0.size;replace hc1:=Nat.le_trans hse hc1;replace hq1:=Nat.le_trans hse hq1;clear hse
 replace e0:=e0.ext g
 replace gj:=gj.ext g
 replace bt:=bt.ext g
 replace mx:=mx.ext g
 replace hj:=hj.x g
 replace m3:=m3.x g
 replace sep:=sep.up g.size
 clear g
 refine sT [(7,pV c)] fun a hF=>qS hF<|tR 1 m3 ?_
 have Fk:=my.EV bt (by decide)
 obtain⟨W,hW⟩:∃W,(step M kd n s l).2 =W:=⟨_,rfl⟩
 have hWc:W.c =0:=by rw[←hW];exact hc
 have Qv:=my.kb
 refine tG 2 (Fi _ c q M my kd n s l oa oc ka kn kc (hr.1.ext e0) hsz (kt.ext e0) hE W hW) ?_
 rintro _ h11 ⟨qa,qc,ia,ic,pa,pc,rfl,_,_,_,_,NV,gm⟩
 replace e0:Ext h h11:=Gr.cY e0 gm (by rintro k (e|e)<;>omega)
 replace gj:=gj.Dt gm (by rintro k (e|e)<;>exact .inr (by omega))
 replace mx:=mx.other my gm (by omega) (by omega)
 clear my;have my:=NV;clear NV
 replace hj:=gm.blk hj (by omega) (by omega)
 clear m3
 replace bt:=Gr.own gm bt (by rw[aj];exact Fk)
 replace sep:=sep.up gm.1
 refine eT 4 W.c 0<|sT [(26,.bool true)] fun a hF=>cT 26 hF<|rS hF<|tG 2 (vn _ [(x.1,x.2)] [M] _ _ bt (CA.one mx) c q (step M kd n s l).1 my (fun N hN=>by rw[List.mem_singleton.1 hN];exact hne) (by simp) (by have:=fl M kd n s l;omega)) ?_
 rintro _ fc ⟨mj,jL,rfl,aq,g,hbz⟩
 have hlo:=e0.size
 have a7:=sep
 replace e0:=e0.grew g (sep.low 0 rfl)
 replace gj:=gj.ct g (fun i e=> .inr (sep.low 0 rfl i e))
 replace mx:=mx.EU g bt (aj ..) (by decide) (by decide)
 replace my:=my.EU g bt (aj ..) (by decide) (by decide)
 replace hj:=hj.y g (fun e=>by have:=sep.low 0 rfl _ e.symm;omega)
 replace sep:=sep.up g.size
 replace sep:Sep h.size fc.size [mj.map (·.block),some (h.size)]:=a7.set g.size hlo 0 (y:=mj.map (fun(x:Addr)=>x.block)) rfl (hbz.imp id .inr) (fun k e=>aq.lt (by rw[aj];exact e))
 clear bt;have bt:Own fc (.slice mj 2 jL) 55 2 1 ([(x.1,x.2),(c,q)].map m_):=aq;clear aq g hbz hlo a7
 refine sE [(4,.slice mj 2 jL)] fun a hF=>bK<|tK<|rP [(13,.int .i64 1)] hF fun a hF=>tK (az.step ?_)
 refine qP [(14,.bool false)] hF fun a hF=>cS<|cF 14 hF<|cX 0 (xT (xT (xB ?_)))
 refine tK<|qS hF<|tV 4 0 [.slice mj 2 jL] [.slice mj 2 jL,.bool o1,.bool o2,.bool o3,.bool o4] hj fun h15 g16 zq=> ?_
 clear e0
 replace gj:=gj.ct g16 (fun i e=>by cases e;exact .inl rfl)
 replace bt:=bt.kept g16 (by rw[aj];right;intro e;have:=sep.low 0 rfl _ e;omega)
 replace mx:=mx.bE g16 hj (by decide) (by omega)
 replace my:=my.bE g16 hj (by decide) (by omega)
 replace sep:=sep.up g16.size
 replace hj:=zq
 refine sT [] fun a hF=>rS hF<|tV 6 4 [.bool false] [.slice mj 2 jL,.bool o1,.bool o2,.bool o3,.bool false] hj fun h17 g18 zq=> ?_
 replace gj:=gj.ct g18 (fun i e=>by cases e;exact .inl rfl)
 replace bt:=bt.kept g18 (by rw[aj];right;intro e;have:=sep.low 0 rfl _ e;omega)
 replace mx:=mx.bE g18 hj (by decide) (by omega)
 replace my:=my.bE g18 hj (by decide) (by omega)
 replace sep:=sep.up g18.size
 replace hj:=zq
 exact sE [] fun a hF=>n0 hF<|⟨(c,q),_,_,⟨hj,nf.of bt,CA.two mx my (by show x.1 ≠c;omega) (by show x.2 ≠q;omega)⟩,hc1,hq1,gj⟩
end Go.Proofs.YtegkejcglfgpmaaGreatDoor
end
section
namespace Go.Proofs.YtegkejcglfgpmaaGreatDoor
open Go Go.an Go.aT
noncomputable def b57:Code:=Tryz.f57.body.getD .skip
theorem tD(h:Heap)(jb:Nat)(bs:List (Nat×Nat))(Ms:List Md)(ca:Option Addr)(cc:Nat)(o2:Bool)(o3:Bool)(o4:Bool)(ja:JA h jb bs ⟨Ms,false,o2,o3,o4⟩ ca cc)(kd n:Int)(s:ByteArray)(l:List UInt8)(oa:Option Addr)(oc:Nat)(ka:Option Addr)(kn kc:Nat)(X:An)(xb xi xp:Value)(hk:kd=12):Sat Tryz.prog 57 #[.pointer (some ⟨jb,0,none⟩),.agg #[.int .i64 kd,.string s,.slice oa l.length oc,.int .i64 n,.slice ka kn kc],.agg (bJ X.c (xb) X.sx X.se X.sh X.sg (xi) X.n X.y X.k (xp)).toArray] h fun v h'=>v=wk ft (.slice none 0 0) (.slice none 0 0) (.slice none 0 0)∧JA h' jb bs ⟨Ms,false,decide (0≤n),o3,o4⟩ ca cc∧Gr (fun k=>k=jb) h h':=by
 have hj:=ja.hj
 have hj0:=ja.hj
 have hbj:=ag hj
 have gj:=Gr.start (fun k=>k=jb) h
 have e0:=Ext.refl h
 have sep:Sep h.size h.size []:=Sep.nil _ _
 refine ak Tryz.func57 79 fun a hF=>qS hF<|tN 0 (pV h.size) #[.int .i64 kd,.string s,.slice oa l.length oc,.int .i64 n,.slice ka kn kc] 35 fun h1 g2 m3=> ?_
 have oH:=ag m3
 have oI:=e0.size
 have AU:=gj.1
 replace sep:=sep.nw gj.1 m3
 refine tN 1 (pV h1.size) ((bJ X.c (xb) X.sx X.se X.sh X.sg (xi) X.n X.y X.k (xp)).toArray) 47 fun h7 g8 m9=> ?_
 have tE:=ag m9
 replace e0:=e0.ext g2
 have qu:=e0.size
 replace gj:=gj.ext g2
 have zs12:=gj.1
 replace sep:=sep.nw gj.1 m9
 refine tN 2 (pV h7.size) ((bJ (0:Int) (.slice none 0 0) aC (0:Int) false false (.slice none 0 0) (0:Int) aC (0:Int) (.slice none 0 0)).toArray) 47 fun h13 g14 m15=> ?_
 have LP:=ag m15
 replace e0:=e0.ext g8
 have LQ:=e0.size
 replace gj:=gj.ext g8
 have LR:=gj.1
 replace sep:=sep.nw gj.1 m15
 refine sT [(4,pV h.size),(5,pV h1.size),(6,pV h7.size)] fun a hF=>cS<|qS hF ?_
 replace m3:=(m3.x g8).x g14
 refine tO 1 0 m3<|sT [(10,.int .i64 kd)] fun a hF=>cB 0<|qS hF<|eT 0 kd 12<|sT [(12,.bool true)] fun a hF=>cT 12 hF ?_
 refine qS hF ?_
 replace hj:=((hj.x g2).x g8).x g14
 refine tO 3 1 hj<|sT [(18,.bool true)] fun a hF=>cT 18 hF<|rS hF<|tO 2 3 m3<|tV 6 2 [.bool (decide ((0:Int)≤n))] [.slice ca bs.length cc,.bool false,.bool (decide ((0:Int)≤n)),.bool o3,.bool o4] hj fun h19 g20 zq=> ?_
 replace e0:=e0.ext g14
 replace gj:=gj.ext g14
 replace m9:=m9.x g14
 clear e0
 replace gj:=gj.ct g20 (fun i e=>by cases e;exact .inl rfl)
 replace m3:=m3.y g20
 replace m9:=m9.y g20
 replace m15:=m15.y g20
 replace sep:=sep.up g20.size
 replace hj:=zq
 refine sE [] fun a hF=>bK<|tK<|qS hF<|tR 0 m15<|bG 1 (bJ (0:Int) (.slice none 0 0) aC (0:Int) false false (.slice none 0 0) (0:Int) aC (0:Int) (.slice none 0 0)) m15 fun h21 g22 zq=> ?_
 replace hj:=hj.y g22
 replace m15:=zq
 refine sT [] fun a hF=>cR<|rB m15 hF ?_
 replace gj:=gj.ct g22 (fun i e=> .inr (sep.low 0 rfl i e))
 exact⟨rfl,ja.turn gj hj rfl,gj⟩
theorem tL(h:Heap)(jb:Nat)(bs:List (Nat×Nat))(Ms:List Md)(ca:Option Addr)(cc:Nat)(o1:Bool)(o2:Bool)(o3:Bool)(o4:Bool)(ja:JA h jb bs ⟨Ms,o1,o2,o3,o4⟩ ca cc)(kd n:Int)(s:ByteArray)(l:List UInt8)(oa:Option Addr)(oc:Nat)(ka:Option Addr)(kn kc:Nat)(X:An)(xb xi xp:Value)(hk:kd=13):Sat Tryz.prog 57 #[.pointer (some ⟨jb,0,none⟩),.agg #[.int .i64 kd,.string s,.slice oa l.length oc,.int .i64 n,.slice ka kn kc],.agg (bJ X.c (xb) X.sx X.se X.sh X.sg (xi) X.n X.y X.k (xp)).toArray] h fun v h'=>v=wk ft (.slice none 0 0) (.slice none 0 0) (.slice none 0 0)∧JA h' jb bs ⟨Ms,false,false,o3,o4⟩ ca cc∧Gr (fun k=>k=jb) h h':=by
 have hj:=ja.hj
 have hj0:=ja.hj
 have hbj:=ag hj
 have gj:=Gr.start (fun k=>k=jb) h
 have e0:=Ext.refl h
 have sep:Sep h.size h.size []:=Sep.nil _ _
 refine ak Tryz.func57 79 fun a hF=>qS hF<|tN 0 (pV h.size) #[.int .i64 kd,.string s,.slice oa l.length oc,.int .i64 n,.slice ka kn kc] 35 fun h1 g2 m3=> ?_
 have oH:=ag m3
 have oI:=e0.size
 have AU:=gj.1
 replace sep:=sep.nw gj.1 m3
 refine tN 1 (pV h1.size) ((bJ X.c (xb) X.sx X.se X.sh X.sg (xi) X.n X.y X.k (xp)).toArray) 47 fun h7 g8 m9=> ?_
 have tE:=ag m9
 replace e0:=e0.ext g2
 have qu:=e0.size
 replace gj:=gj.ext g2
 have zs12:=gj.1
 replace sep:=sep.nw gj.1 m9
 refine tN 2 (pV h7.size) ((bJ (0:Int) (.slice none 0 0) aC (0:Int) false false (.slice none 0 0) (0:Int) aC (0:Int) (.slice none 0 0)).toArray) 47 fun h13 g14 m15=> ?_
 have LP:=ag m15
 replace e0:=e0.ext g8
 have LQ:=e0.size
 replace gj:=gj.ext g8
 have LR:=gj.1
 replace sep:=sep.nw gj.1 m15
 refine sT [(4,pV h.size),(5,pV h1.size),(6,pV h7.size)] fun a hF=>cS<|qS hF ?_
 replace m3:=(m3.x g8).x g14
 refine tO 1 0 m3<|sT [(10,.int .i64 kd)] fun a hF=>cB 0<|qS hF<|eF 0 kd 12<|sT [(12,.bool false)] fun a hF=>cF 12 hF ?_
 refine qS hF<|eF 0 kd 10<|sT [(25,.bool false)] fun a hF=>cF 25 hF<|qS hF<|eF 0 kd 14<|sT [(40,.bool false)] fun a hF=> ?_
 refine cF 40 hF<|qS hF<|eT 0 kd 13<|sT [(70,.bool true)] fun a hF=>cT 70 hF<|rS hF ?_
 replace hj:=((hj.x g2).x g8).x g14
 refine tV 4 1 [.bool false] [.slice ca bs.length cc,.bool false,.bool o2,.bool o3,.bool o4] hj fun h19 g20 zq=> ?_
 replace e0:=e0.ext g14
 replace gj:=gj.ext g14
 replace m9:=m9.x g14
 clear e0
 replace gj:=gj.ct g20 (fun i e=>by cases e;exact .inl rfl)
 replace m3:=m3.y g20
 replace m9:=m9.y g20
 replace m15:=m15.y g20
 replace sep:=sep.up g20.size
 replace hj:=zq
 refine tV 7 2 [.bool false] [.slice ca bs.length cc,.bool false,.bool false,.bool o3,.bool o4] hj fun h21 g22 zq=> ?_
 replace gj:=gj.ct g22 (fun i e=>by cases e;exact .inl rfl)
 replace m3:=m3.y g22
 replace m9:=m9.y g22
 replace m15:=m15.y g22
 replace sep:=sep.up g22.size
 replace hj:=zq
 refine sE [] fun a hF=>bK<|tK<|qS hF<|tR 0 m15<|bG 1 (bJ (0:Int) (.slice none 0 0) aC (0:Int) false false (.slice none 0 0) (0:Int) aC (0:Int) (.slice none 0 0)) m15 fun h23 g24 zq=> ?_
 replace hj:=hj.y g24
 replace m15:=zq
 refine sT [] fun a hF=>cR<|rB m15 hF ?_
 replace gj:=gj.ct g24 (fun i e=> .inr (sep.low 0 rfl i e))
 exact⟨rfl,ja.turn gj hj rfl,gj⟩
noncomputable def b31:Code:=Tryz.f31.body.getD .skip
theorem kh(h:Heap)(kd n:Int)(s:ByteArray)(oa:Option Addr)(on oc:Nat)(ka:Option Addr)(kn kc:Nat)(a b:Bool)(hk:ee kd=(a,b)):Sat Tryz.prog 55 #[.agg #[.int .i64 kd,.string s,.slice oa on oc,.int .i64 n,.slice ka kn kc]] h fun v h'=>v= .tuple #[.bool a,.bool b]∧Ext h h':=by
 have:=zV h kd n s oa on oc ka kn kc
 rwa [hk] at this
set_option maxHeartbeats 1000000 in
theorem z6(h:Heap)(jb:Nat)(bs:List (Nat×Nat))(Ms:List Md)(ca:Option Addr)(cc:Nat)(o2:Bool)(o3:Bool)(ja:JA h jb bs ⟨Ms,false,o2,o3,false⟩ ca cc)(kd n:Int)(s:ByteArray)(l:List UInt8)(oa:Option Addr)(oc:Nat)(ka:Option Addr)(kn kc:Nat)(X:An)(ga:Option Addr)(gd:Nat)(gf:Option Addr)(gg:Nat)(gh:Option Addr)(gl:Nat)(xq:aR h (.slice ga X.b.length gd) X.b.length 1 (X.b.map bv))(xi:aR h (.slice gf X.i.length gg) X.i.length 1 (X.i.map Value.string))(xp:aR h (.slice gh X.p.length gl) X.p.length 32 (hcs X.p))(x32:aB X.p)(hkc:ee kd=(false,false))(hk:kd=12):Sat Tryz.prog 31 #[.pointer (some ⟨jb,0,none⟩),.agg #[.int .i64 kd,.string s,.slice oa l.length oc,.int .i64 n,.slice ka kn kc],.agg (bJ X.c (.slice ga X.b.length gd) X.sx X.se X.sh X.sg (.slice gf X.i.length gg) X.n X.y X.k (.slice gh X.p.length gl)).toArray] h fun v h'=>v= .int .i64 (bO ft X)∧∃bs' ca cc,JA h' jb bs' ⟨Ms,false,decide (0≤n),o3,false⟩ ca cc∧(∀z∈bs',z∈bs∨(h.size ≤z.1 ∧h.size ≤z.2))∧Gr (JF jb bs) h h':=by
 have hj:=ja.hj
 have hj0:=ja.hj
 have hbj:=ag hj
 have gj:=Gr.start (fun k=>k=jb) h
 have e0:=Ext.refl h
 have sep:Sep h.size h.size []:=Sep.nil _ _
 refine ak Tryz.func31 77 fun a hF=>qS hF<|tN 0 (pV h.size) #[.int .i64 kd,.string s,.slice oa l.length oc,.int .i64 n,.slice ka kn kc] 35 fun h1 g2 m3=> ?_
 have oH:=ag m3
 have oI:=e0.size
 have AU:=gj.1
 replace sep:=sep.nw gj.1 m3
 refine tN 1 (pV h1.size) ((bJ X.c (.slice ga X.b.length gd) X.sx X.se X.sh X.sg (.slice gf X.i.length gg) X.n X.y X.k (.slice gh X.p.length gl)).toArray) 47 fun h7 g8 m9=> ?_
 have tE:=ag m9
 replace e0:=e0.ext g2
 have qu:=e0.size
 replace gj:=gj.ext g2
 have zs12:=gj.1
 replace sep:=sep.nw gj.1 m9
 refine sT [(4,pV h.size),(5,pV h1.size)] fun a hF=>qS hF ?_
 replace m3:=m3.x g8
 refine tR 0 m3<|tG 1 (kh _ kd n s oa l.length oc ka kn kc false false hkc) ?_
 rintro _ fc ⟨rfl,g13⟩
 refine sT [(7,.bool false),(8,.bool false)] fun a hF=>qS hF<|tN 1 (pV fc.size) ((bJ (0:Int) (.slice none 0 0) aC (0:Int) false false (.slice none 0 0) (0:Int) aC (0:Int) (.slice none 0 0)).toArray) 47 fun h15 g16 m17=> ?_
 have tz:=ag m17
 replace e0:=(e0.ext g8).ext g13
 have tB:=e0.size
 replace gj:=(gj.ext g8).ext g13
 have wM:=gj.1
 replace sep:=(sep.up g13.size).nw gj.1 m17
 refine bG 2 (bJ (2:Int) (.slice none 0 0) aC (0:Int) false false (.slice none 0 0) (0:Int) aC (0:Int) (.slice none 0 0)) m17 fun h21 g22 zq=> ?_
 replace hj:=(((hj.x g2).x g8).x g13).x g16
 replace hj:=hj.y g22
 replace m17:=zq
 refine sT [(9,pV fc.size)] fun a hF=>cS<|cB 0<|qS hF<|tO 3 4 hj<|sT [(16,.bool false)] fun a hF=>cF 16 hF ?_
 refine qP [(21,.bool true)] hF fun a hF=>cT 21 hF<|cS<|cD [0,0,0,7,0,31,63] 6 mixed hF<|mP 1 [0] [pV jb] ?_
 replace m3:=((m3.x g13).x g16).y g22 (sep.bp 2 0)
 refine mR 3 2 1 m3 ?_
 replace m9:=((m9.x g13).x g16).y g22 (sep.bp 1 0)
 refine mR 7 6 2 m9<|mR 23 22 4 m9 ?_
 replace e0:=(e0.ext g16).grew g22 (sep.low 0 rfl)
 refine gA 31 15 3 [4] (Does.call (f:=57) (args:= #[.pointer (some ⟨jb,0,none⟩),.agg #[.int .i64 kd,.string s,.slice oa l.length oc,.int .i64 n,.slice ka kn kc],.agg (bJ X.c (.slice ga X.b.length gd) X.sx X.se X.sh X.sg (.slice gf X.i.length gg) X.n X.y X.k (.slice gh X.p.length gl)).toArray]) (by kernel_rfl) (tD _ jb bs Ms ca cc o2 o3 false (ja.ext e0) kd n s l oa oc ka kn kc X _ _ _ hk)) ?_
 rintro _ h23 ⟨rfl,nU,gz⟩
 clear hj
 replace gj:=(gj.ext g16).ct g22 (fun i e=> .inr (sep.low 0 rfl i e))
 replace gj:=gj.trans gz
 replace m3:=gz.blk m3 (by omega)
 replace m9:=gz.blk m9 (by omega)
 replace m17:=gz.blk m17 (by omega)
 replace sep:=sep.up g22.size
 replace sep:=sep.up gz.1
 replace xq:=xq.jf gj hj0 (by decide)
 replace xi:=xi.jf gj hj0 (by decide)
 replace xp:=xp.jf gj hj0 (by decide)
 refine⟨?_,?_⟩
 ·intro j hj
  simp only[List.mem_cons,List.not_mem_nil,or_false] at hj
  subst hj
  exact aL (Calm.load (T:=47) (p:=⟨h1.size,0,none⟩) (by kernel_rfl) (Loads.blk (vs:=bJ X.c (.slice ga X.b.length gd) X.sx X.se X.sh X.sg (.slice gf X.i.length gg) X.n X.y X.k (.slice gh X.p.length gl)) (by kernel_rfl) m9 rfl))
 refine fW 63 63 5 (nC _ ft X none 0 none 0 none 0 (aR.nil _ _) (aR.nil _ _) (aR.nil _ _) _ _ _ _ _ _ xq xi xp aB.nil x32 (by decide) (by decide)) ?_
 rintro _ lD ⟨rfl,g24⟩
 refine mP 127 [6] [.int .i64 (bO ft X)]<|mE [(6,.int .i64 (bO ft X))] fun a hF=>tK<|cR (yB (yT ?_))
 refine rT 6 (.int .i64 (bO ft X)) hF ?_
 replace gj:=gj.ext g24
 replace nU:=nU.ext g24
 exact⟨rfl,bs,ca,cc,nU,fun x hx=> .inl hx,gj.EW bs⟩
set_option maxHeartbeats 1000000 in
theorem z7(h:Heap)(jb:Nat)(bs:List (Nat×Nat))(Ms:List Md)(ca:Option Addr)(cc:Nat)(o1:Bool)(o2:Bool)(o3:Bool)(ja:JA h jb bs ⟨Ms,o1,o2,o3,false⟩ ca cc)(kd n:Int)(s:ByteArray)(l:List UInt8)(oa:Option Addr)(oc:Nat)(ka:Option Addr)(kn kc:Nat)(X:An)(ga:Option Addr)(gd:Nat)(gf:Option Addr)(gg:Nat)(gh:Option Addr)(gl:Nat)(xq:aR h (.slice ga X.b.length gd) X.b.length 1 (X.b.map bv))(xi:aR h (.slice gf X.i.length gg) X.i.length 1 (X.i.map Value.string))(xp:aR h (.slice gh X.p.length gl) X.p.length 32 (hcs X.p))(x32:aB X.p)(hkc:ee kd=(false,false))(hk:kd=13):Sat Tryz.prog 31 #[.pointer (some ⟨jb,0,none⟩),.agg #[.int .i64 kd,.string s,.slice oa l.length oc,.int .i64 n,.slice ka kn kc],.agg (bJ X.c (.slice ga X.b.length gd) X.sx X.se X.sh X.sg (.slice gf X.i.length gg) X.n X.y X.k (.slice gh X.p.length gl)).toArray] h fun v h'=>v= .int .i64 (bO ft X)∧∃bs' ca cc,JA h' jb bs' ⟨Ms,false,false,o3,false⟩ ca cc∧(∀z∈bs',z∈bs∨(h.size ≤z.1 ∧h.size ≤z.2))∧Gr (JF jb bs) h h':=by
 have hj:=ja.hj
 have hj0:=ja.hj
 have hbj:=ag hj
 have gj:=Gr.start (fun k=>k=jb) h
 have e0:=Ext.refl h
 have sep:Sep h.size h.size []:=Sep.nil _ _
 refine ak Tryz.func31 77 fun a hF=>qS hF<|tN 0 (pV h.size) #[.int .i64 kd,.string s,.slice oa l.length oc,.int .i64 n,.slice ka kn kc] 35 fun h1 g2 m3=> ?_
 have oH:=ag m3
 have oI:=e0.size
 have AU:=gj.1
 replace sep:=sep.nw gj.1 m3
 refine tN 1 (pV h1.size) ((bJ X.c (.slice ga X.b.length gd) X.sx X.se X.sh X.sg (.slice gf X.i.length gg) X.n X.y X.k (.slice gh X.p.length gl)).toArray) 47 fun h7 g8 m9=> ?_
 have tE:=ag m9
 replace e0:=e0.ext g2
 have qu:=e0.size
 replace gj:=gj.ext g2
 have zs12:=gj.1
 replace sep:=sep.nw gj.1 m9
 refine sT [(4,pV h.size),(5,pV h1.size)] fun a hF=>qS hF ?_
 replace m3:=m3.x g8
 refine tR 0 m3<|tG 1 (kh _ kd n s oa l.length oc ka kn kc false false hkc) ?_
 rintro _ fc ⟨rfl,g13⟩
 refine sT [(7,.bool false),(8,.bool false)] fun a hF=>qS hF<|tN 1 (pV fc.size) ((bJ (0:Int) (.slice none 0 0) aC (0:Int) false false (.slice none 0 0) (0:Int) aC (0:Int) (.slice none 0 0)).toArray) 47 fun h15 g16 m17=> ?_
 have tz:=ag m17
 replace e0:=(e0.ext g8).ext g13
 have tB:=e0.size
 replace gj:=(gj.ext g8).ext g13
 have wM:=gj.1
 replace sep:=(sep.up g13.size).nw gj.1 m17
 refine bG 2 (bJ (2:Int) (.slice none 0 0) aC (0:Int) false false (.slice none 0 0) (0:Int) aC (0:Int) (.slice none 0 0)) m17 fun h21 g22 zq=> ?_
 replace hj:=(((hj.x g2).x g8).x g13).x g16
 replace hj:=hj.y g22
 replace m17:=zq
 refine sT [(9,pV fc.size)] fun a hF=>cS<|cB 0<|qS hF<|tO 3 4 hj<|sT [(16,.bool false)] fun a hF=>cF 16 hF ?_
 refine qP [(21,.bool true)] hF fun a hF=>cT 21 hF<|cS<|cD [0,0,0,7,0,31,63] 6 mixed hF<|mP 1 [0] [pV jb] ?_
 replace m3:=((m3.x g13).x g16).y g22 (sep.bp 2 0)
 refine mR 3 2 1 m3 ?_
 replace m9:=((m9.x g13).x g16).y g22 (sep.bp 1 0)
 refine mR 7 6 2 m9<|mR 23 22 4 m9 ?_
 replace e0:=(e0.ext g16).grew g22 (sep.low 0 rfl)
 refine gA 31 15 3 [4] (Does.call (f:=57) (args:= #[.pointer (some ⟨jb,0,none⟩),.agg #[.int .i64 kd,.string s,.slice oa l.length oc,.int .i64 n,.slice ka kn kc],.agg (bJ X.c (.slice ga X.b.length gd) X.sx X.se X.sh X.sg (.slice gf X.i.length gg) X.n X.y X.k (.slice gh X.p.length gl)).toArray]) (by kernel_rfl) (tL _ jb bs Ms ca cc o1 o2 o3 false (ja.ext e0) kd n s l oa oc ka kn kc X _ _ _ hk)) ?_
 rintro _ h23 ⟨rfl,nU,gz⟩
 clear hj
 replace gj:=(gj.ext g16).ct g22 (fun i e=> .inr (sep.low 0 rfl i e))
 replace gj:=gj.trans gz
 replace m3:=gz.blk m3 (by omega)
 replace m9:=gz.blk m9 (by omega)
 replace m17:=gz.blk m17 (by omega)
 replace sep:=sep.up g22.size
 replace sep:=sep.up gz.1
 replace xq:=xq.jf gj hj0 (by decide)
 replace xi:=xi.jf gj hj0 (by decide)
 replace xp:=xp.jf gj hj0 (by decide)
 refine⟨?_,?_⟩
 ·intro j hj
  simp only[List.mem_cons,List.not_mem_nil,or_false] at hj
  subst hj
  exact aL (Calm.load (T:=47) (p:=⟨h1.size,0,none⟩) (by kernel_rfl) (Loads.blk (vs:=bJ X.c (.slice ga X.b.length gd) X.sx X.se X.sh X.sg (.slice gf X.i.length gg) X.n X.y X.k (.slice gh X.p.length gl)) (by kernel_rfl) m9 rfl))
 refine fW 63 63 5 (nC _ ft X none 0 none 0 none 0 (aR.nil _ _) (aR.nil _ _) (aR.nil _ _) _ _ _ _ _ _ xq xi xp aB.nil x32 (by decide) (by decide)) ?_
 rintro _ lD ⟨rfl,g24⟩
 refine mP 127 [6] [.int .i64 (bO ft X)]<|mE [(6,.int .i64 (bO ft X))] fun a hF=>tK<|cR (yB (yT ?_))
 refine rT 6 (.int .i64 (bO ft X)) hF ?_
 replace gj:=gj.ext g24
 replace nU:=nU.ext g24
 exact⟨rfl,bs,ca,cc,nU,fun x hx=> .inl hx,gj.EW bs⟩
set_option maxHeartbeats 1000000 in
theorem rM(h:Heap)(jb:Nat)(x:Nat×Nat)(M:Md)(aa:Addr)(cc:Nat)(ja:JA h jb [x] ⟨[M],false,true,false,false⟩ (some aa) cc)(kd n:Int)(s:ByteArray)(l:List UInt8)(oa:Option Addr)(oc:Nat)(ka:Option Addr)(kn kc:Nat)(hr:aR h (.slice oa l.length oc) l.length 1 (l.map bv))(hsz:s.size ≤9223372036854775807)(X:An)(ga:Option Addr)(gd:Nat)(gf:Option Addr)(gg:Nat)(gh:Option Addr)(gl:Nat)(xq:aR h (.slice ga X.b.length gd) X.b.length 1 (X.b.map bv))(xi:aR h (.slice gf X.i.length gg) X.i.length 1 (X.i.map Value.string))(xp:aR h (.slice gh X.p.length gl) X.p.length 32 (hcs X.p))(x32:aB X.p)(hkc:ee kd=(true,true))(hX:X.c =2)(kt:bH h)(hk1:0<jb)(hE:M.E.length ≤1099511627)(hc:(step M kd n s l).2.c =0)(hne:(step M kd n s l).1.E.length ≠M.E.length):Sat Tryz.prog 31 #[.pointer (some ⟨jb,0,none⟩),.agg #[.int .i64 kd,.string s,.slice oa l.length oc,.int .i64 n,.slice ka kn kc],.agg (bJ X.c (.slice ga X.b.length gd) X.sx X.se X.sh X.sg (.slice gf X.i.length gg) X.n X.y X.k (.slice gh X.p.length gl)).toArray] h fun v h'=>v= .int .i64 (bO (j4 2) X)∧∃bs' ca cc,JA h' jb bs' ⟨[M,(step M kd n s l).1],true,true,false,false⟩ ca cc∧(∀z∈bs',z∈[x]∨(h.size ≤z.1 ∧h.size ≤z.2))∧Gr (JF jb [x]) h h':=by
 have hj:=ja.hj
 have hj0:=ja.hj
 have hbj:=ag hj
 have gj:=Gr.start (fun k=>k=jb) h
 have e0:=Ext.refl h
 have sep:Sep h.size h.size []:=Sep.nil _ _
 refine ak Tryz.func31 77 fun a hF=>qS hF<|tN 0 (pV h.size) #[.int .i64 kd,.string s,.slice oa l.length oc,.int .i64 n,.slice ka kn kc] 35 fun h1 g2 m3=> ?_
 have oH:=ag m3
 have oI:=e0.size
 have AU:=gj.1
 replace sep:=sep.nw gj.1 m3
 refine tN 1 (pV h1.size) ((bJ X.c (.slice ga X.b.length gd) X.sx X.se X.sh X.sg (.slice gf X.i.length gg) X.n X.y X.k (.slice gh X.p.length gl)).toArray) 47 fun h7 g8 m9=> ?_
 have tE:=ag m9
 replace e0:=e0.ext g2
 have qu:=e0.size
 replace gj:=gj.ext g2
 have zs12:=gj.1
 replace sep:=sep.nw gj.1 m9
 refine sT [(4,pV h.size),(5,pV h1.size)] fun a hF=>qS hF ?_
 replace m3:=m3.x g8
 refine tR 0 m3<|tG 1 (kh _ kd n s oa l.length oc ka kn kc true true hkc) ?_
 rintro _ fc ⟨rfl,g13⟩
 refine sT [(7,.bool true),(8,.bool true)] fun a hF=>qS hF<|tN 1 (pV fc.size) ((bJ (0:Int) (.slice none 0 0) aC (0:Int) false false (.slice none 0 0) (0:Int) aC (0:Int) (.slice none 0 0)).toArray) 47 fun h15 g16 m17=> ?_
 have tz:=ag m17
 replace e0:=(e0.ext g8).ext g13
 have tB:=e0.size
 replace gj:=(gj.ext g8).ext g13
 have wM:=gj.1
 replace sep:=(sep.up g13.size).nw gj.1 m17
 refine bG 2 (bJ (2:Int) (.slice none 0 0) aC (0:Int) false false (.slice none 0 0) (0:Int) aC (0:Int) (.slice none 0 0)) m17 fun h21 g22 zq=> ?_
 replace hj:=(((hj.x g2).x g8).x g13).x g16
 replace hj:=hj.y g22
 replace m17:=zq
 refine sT [(9,pV fc.size)] fun a hF=>cS<|cB 0<|qS hF<|tO 3 4 hj<|sT [(16,.bool false)] fun a hF=>cF 16 hF ?_
 refine qP [(21,.bool false)] hF fun a hF=>cF 21 hF<|qS hF<|tO 3 1 hj<|sT [(30,.bool false)] fun a hF=>cF 30 hF<|qS hF ?_
 replace m9:=((m9.x g13).x g16).y g22 (sep.bp 1 0)
 refine tO 1 0 m9<|eT 2 X.c 2<|tO 7 2 hj<|sT [(38,.bool true)] fun a hF=>cT 38 hF<|qS hF<|tV 3 1 [.bool true] [.slice (some aa) 1 cc,.bool true,.bool true,.bool false,.bool false] hj fun h23 g24 zq=> ?_
 replace m3:=((m3.x g13).x g16).y g22 (sep.bp 2 0)
 replace e0:=(e0.ext g16).grew g22 (sep.low 0 rfl)
 replace gj:=(gj.ext g16).ct g22 (fun i e=> .inr (sep.low 0 rfl i e))
 replace sep:=sep.up g22.size
 clear e0
 replace gj:=gj.ct g24 (fun i e=>by cases e;exact .inl rfl)
 replace m3:=m3.y g24
 replace m9:=m9.y g24
 replace m17:=m17.y g24
 replace sep:=sep.up g24.size
 replace hj:=zq
 refine sT [] fun a hF=>cS<|qP [(51,.bool true)] hF fun a hF=>cT 51 hF<|rS hF<|tR 1 m3 ?_
 have jz:JA h23 jb [x] ⟨[M],true,true,false,false⟩ (some aa) cc:=ja.turn gj hj rfl
 have hrz:=hr.jf gj hj0 (by decide)
 have Qw:=kt.gr gj (by omega)
 refine tG 2 (di _ jb x M true true false false aa cc jz kd n s l oa oc ka kn kc hrz hsz Qw hE hc hne) ?_
 rintro _ lD ⟨y,ca2,xr,nU,hy1,hy2,gz⟩
 have hgs:=gj.1
 clear hj
 replace gj:=gj.trans gz
 replace m3:=gz.blk m3 (by omega)
 replace m9:=gz.blk m9 (by omega)
 replace m17:=gz.blk m17 (by omega)
 replace sep:=sep.up gz.1
 replace xq:=xq.jf gj hj0 (by decide)
 replace xi:=xi.jf gj hj0 (by decide)
 replace xp:=xp.jf gj hj0 (by decide)
 refine sE [] fun a hF=>tK<|qS hF<|tR 0 m17<|tR 1 m9<|tG 2 (nC _ (j4 2) X none 0 none 0 none 0 (aR.nil _ _) (aR.nil _ _) (aR.nil _ _) _ _ _ _ _ _ xq xi xp aB.nil x32 (by decide) (by decide)) ?_
 rintro _ h27 ⟨rfl,gY⟩
 refine sT [(6,.int .i64 (bO (j4 2) X))] fun a hF=>cR (yB (yT ?_))
 refine rT 6 (.int .i64 (bO (j4 2) X)) hF ?_
 replace gj:=gj.ext gY
 replace nU:=nU.ext gY
 exact⟨rfl,[(x.1,x.2),y],ca2,xr,nU,fun z hz=>by rcases List.mem_cons.1 hz with e|e;exact .inl (List.mem_singleton.2 e);exact .inr ⟨by rw[List.mem_singleton.1 e];omega,by rw[List.mem_singleton.1 e];omega⟩,gj.EW [x]⟩
set_option maxHeartbeats 1000000 in
theorem wN(h:Heap)(jb:Nat)(bs:List (Nat×Nat))(Ms:List Md)(ca:Option Addr)(cc:Nat) (ja:JA h jb bs ⟨Ms,false,false,false,false⟩ ca cc)(kd n:Int)(s:ByteArray)(l:List UInt8)(oa:Option Addr)(oc:Nat)(ka:Option Addr)(kn kc:Nat)(hr:aR h (.slice oa l.length oc) l.length 1 (l.map bv))(hsz:s.size ≤9223372036854775807)(X:An)(ga:Option Addr)(gd:Nat)(gf:Option Addr)(gg:Nat)(gh:Option Addr)(gl:Nat)(xq:aR h (.slice ga X.b.length gd) X.b.length 1 (X.b.map bv))(xi:aR h (.slice gf X.i.length gg) X.i.length 1 (X.i.map Value.string))(xp:aR h (.slice gh X.p.length gl) X.p.length 32 (hcs X.p))(x32:aB X.p)(hkc:ee kd=(true,true))(hX3:X.c ≠3)(k11:kd≠11)(k15:kd≠15)(kt:bH h)(hE:∀M∈Ms,M.E.length ≤1099511627)(hn:bs.length ≤1099511627):Sat Tryz.prog 31 #[.pointer (some ⟨jb,0,none⟩),.agg #[.int .i64 kd,.string s,.slice oa l.length oc,.int .i64 n,.slice ka kn kc],.agg (bJ X.c (.slice ga X.b.length gd) X.sx X.se X.sh X.sg (.slice gf X.i.length gg) X.n X.y X.k (.slice gh X.p.length gl)).toArray] h fun v h'=>v= .int .i64 (cf ⟨Ms,false,false,false,false⟩ (bQ kd n s l X)).2 ∧∃bs' ca cc,JA h' jb bs' (cf ⟨Ms,false,false,false,false⟩ (bQ kd n s l X)).1 ca cc∧(∀z∈bs',z∈bs∨(h.size ≤z.1 ∧h.size ≤z.2))∧Gr (JF jb bs) h h':=by
 have hj:=ja.hj
 have hj0:=ja.hj
 have hbj:=ag hj
 have gj:=Gr.start (fun k=>k=jb) h
 have e0:=Ext.refl h
 have sep:Sep h.size h.size []:=Sep.nil _ _
 refine ak Tryz.func31 77 fun a hF=>qS hF<|tN 0 (pV h.size) #[.int .i64 kd,.string s,.slice oa l.length oc,.int .i64 n,.slice ka kn kc] 35 fun h1 g2 m3=> ?_
 have oH:=ag m3
 have oI:=e0.size
 have AU:=gj.1
 replace sep:=sep.nw gj.1 m3
 refine tN 1 (pV h1.size) ((bJ X.c (.slice ga X.b.length gd) X.sx X.se X.sh X.sg (.slice gf X.i.length gg) X.n X.y X.k (.slice gh X.p.length gl)).toArray) 47 fun h7 g8 m9=> ?_
 have tE:=ag m9
 replace e0:=e0.ext g2
 have qu:=e0.size
 replace gj:=gj.ext g2
 have zs12:=gj.1
 replace sep:=sep.nw gj.1 m9
 refine sT [(4,pV h.size),(5,pV h1.size)] fun a hF=>qS hF ?_
 replace m3:=m3.x g8
 refine tR 0 m3<|tG 1 (kh _ kd n s oa l.length oc ka kn kc true true hkc) ?_
 rintro _ fc ⟨rfl,g13⟩
 refine sT [(7,.bool true),(8,.bool true)] fun a hF=>qS hF<|tN 1 (pV fc.size) ((bJ (0:Int) (.slice none 0 0) aC (0:Int) false false (.slice none 0 0) (0:Int) aC (0:Int) (.slice none 0 0)).toArray) 47 fun h15 g16 m17=> ?_
 have tz:=ag m17
 replace e0:=(e0.ext g8).ext g13
 have tB:=e0.size
 replace gj:=(gj.ext g8).ext g13
 have wM:=gj.1
 replace sep:=(sep.up g13.size).nw gj.1 m17
 refine bG 2 (bJ (2:Int) (.slice none 0 0) aC (0:Int) false false (.slice none 0 0) (0:Int) aC (0:Int) (.slice none 0 0)) m17 fun h21 g22 zq=> ?_
 replace hj:=(((hj.x g2).x g8).x g13).x g16
 replace hj:=hj.y g22
 replace m17:=zq
 refine sT [(9,pV fc.size)] fun a hF=>cS<|cB 0<|qS hF<|tO 3 4 hj<|sT [(16,.bool false)] fun a hF=>cF 16 hF ?_
 refine qP [(21,.bool false)] hF fun a hF=>cF 21 hF<|qS hF<|tO 3 1 hj<|sT [(30,.bool false)] fun a hF=>cF 30 hF<|cS ?_
 rcases Int.decEq X.c 2 with hX2|hX2
 ·refine rS hF ?_
  replace m9:=((m9.x g13).x g16).y g22 (sep.bp 1 0)
  refine tO 1 0 m9<|eF 2 X.c 2<|sE [(38,.bool false)] fun a hF=>tK<|cF 38 hF<|qS hF<|tO 3 0 m9 ?_
  refine eF 4 X.c 3<|sT [(58,.bool false)] fun a hF=>cF 58 hF<|cN<|bK<|tK<|qS hF ?_
  replace m3:=((m3.x g13).x g16).y g22 (sep.bp 2 0)
  refine tR 1 m3<|tR 2 m9 ?_
  replace e0:=(e0.ext g16).grew g22 (sep.low 0 rfl)
  have hse:=e0.size
  refine tG 5 (kg _ jb bs Ms false false false ca cc (ja.ext e0) kd n s l oa oc ka kn kc (hr.ext e0) hsz X ga gd gf gg gh gl (xq.ext e0) (xi.ext e0) (xp.ext e0) x32 k11 k15 (kt.ext e0) hE hn) ?_
  rintro _ h23 ⟨rfl,z8,ca2,xr,nU,hsub,gz⟩
  have gw:=(Gr.start (JF jb bs) h).ext e0 |>.trans gz
  exact sT [(6,.int .i64 ((cf ⟨Ms,false,false,false,false⟩ (bQ kd n s l X)).2))] fun a hF=>cR<|rT 6 (.int .i64 ((cf ⟨Ms,false,false,false,false⟩ (bQ kd n s l X)).2)) hF<|⟨rfl,z8,ca2,xr,nU,fun x hx=> .inl (hsub x hx),gw⟩
 ·refine rS hF ?_
  replace m9:=((m9.x g13).x g16).y g22 (sep.bp 1 0)
  refine tO 1 0 m9<|eT 2 X.c 2<|tO 7 2 hj<|sE [(38,.bool false)] fun a hF=>tK<|cF 38 hF<|qS hF ?_
  refine tO 3 0 m9<|eF 4 X.c 3<|sT [(58,.bool false)] fun a hF=>cF 58 hF<|cN<|bK<|tK ?_
  refine qS hF ?_
  replace m3:=((m3.x g13).x g16).y g22 (sep.bp 2 0)
  refine tR 1 m3<|tR 2 m9 ?_
  replace e0:=(e0.ext g16).grew g22 (sep.low 0 rfl)
  have hse:=e0.size
  refine tG 5 (kg _ jb bs Ms false false false ca cc (ja.ext e0) kd n s l oa oc ka kn kc (hr.ext e0) hsz X ga gd gf gg gh gl (xq.ext e0) (xi.ext e0) (xp.ext e0) x32 k11 k15 (kt.ext e0) hE hn) ?_
  rintro _ jK ⟨rfl,z8,ca2,xr,nU,hsub,gz⟩
  have gw:=(Gr.start (JF jb bs) h).ext e0 |>.trans gz
  exact sT [(6,.int .i64 ((cf ⟨Ms,false,false,false,false⟩ (bQ kd n s l X)).2))] fun a hF=>cR<|rT 6 (.int .i64 ((cf ⟨Ms,false,false,false,false⟩ (bQ kd n s l X)).2)) hF<|⟨rfl,z8,ca2,xr,nU,fun x hx=> .inl (hsub x hx),gw⟩
set_option maxHeartbeats 1000000 in
theorem wO(h:Heap)(jb:Nat)(bs:List (Nat×Nat))(Ms:List Md)(ca:Option Addr)(cc:Nat) (ja:JA h jb bs ⟨Ms,false,false,false,false⟩ ca cc)(kd n:Int)(s:ByteArray)(l:List UInt8)(oa:Option Addr)(oc:Nat)(ka:Option Addr)(kn kc:Nat)(hr:aR h (.slice oa l.length oc) l.length 1 (l.map bv))(hsz:s.size ≤9223372036854775807)(X:An)(ga:Option Addr)(gd:Nat)(gf:Option Addr)(gg:Nat)(gh:Option Addr)(gl:Nat)(xq:aR h (.slice ga X.b.length gd) X.b.length 1 (X.b.map bv))(xi:aR h (.slice gf X.i.length gg) X.i.length 1 (X.i.map Value.string))(xp:aR h (.slice gh X.p.length gl) X.p.length 32 (hcs X.p))(x32:aB X.p)(hkc:ee kd=(true,false))(k11:kd≠11)(k15:kd≠15)(kt:bH h)(hE:∀M∈Ms,M.E.length ≤1099511627)(hn:bs.length ≤1099511627):Sat Tryz.prog 31 #[.pointer (some ⟨jb,0,none⟩),.agg #[.int .i64 kd,.string s,.slice oa l.length oc,.int .i64 n,.slice ka kn kc],.agg (bJ X.c (.slice ga X.b.length gd) X.sx X.se X.sh X.sg (.slice gf X.i.length gg) X.n X.y X.k (.slice gh X.p.length gl)).toArray] h fun v h'=>v= .int .i64 (cf ⟨Ms,false,false,false,false⟩ (bQ kd n s l X)).2 ∧∃bs' ca cc,JA h' jb bs' (cf ⟨Ms,false,false,false,false⟩ (bQ kd n s l X)).1 ca cc∧(∀z∈bs',z∈bs∨(h.size ≤z.1 ∧h.size ≤z.2))∧Gr (JF jb bs) h h':=by
 have hj:=ja.hj
 have hj0:=ja.hj
 have hbj:=ag hj
 have gj:=Gr.start (fun k=>k=jb) h
 have e0:=Ext.refl h
 have sep:Sep h.size h.size []:=Sep.nil _ _
 refine ak Tryz.func31 77 fun a hF=>qS hF<|tN 0 (pV h.size) #[.int .i64 kd,.string s,.slice oa l.length oc,.int .i64 n,.slice ka kn kc] 35 fun h1 g2 m3=> ?_
 have oH:=ag m3
 have oI:=e0.size
 have AU:=gj.1
 replace sep:=sep.nw gj.1 m3
 refine tN 1 (pV h1.size) ((bJ X.c (.slice ga X.b.length gd) X.sx X.se X.sh X.sg (.slice gf X.i.length gg) X.n X.y X.k (.slice gh X.p.length gl)).toArray) 47 fun h7 g8 m9=> ?_
 have tE:=ag m9
 replace e0:=e0.ext g2
 have qu:=e0.size
 replace gj:=gj.ext g2
 have zs12:=gj.1
 replace sep:=sep.nw gj.1 m9
 refine sT [(4,pV h.size),(5,pV h1.size)] fun a hF=>qS hF ?_
 replace m3:=m3.x g8
 refine tR 0 m3<|tG 1 (kh _ kd n s oa l.length oc ka kn kc true false hkc) ?_
 rintro _ fc ⟨rfl,g13⟩
 refine sT [(7,.bool true),(8,.bool false)] fun a hF=>qS hF<|tN 1 (pV fc.size) ((bJ (0:Int) (.slice none 0 0) aC (0:Int) false false (.slice none 0 0) (0:Int) aC (0:Int) (.slice none 0 0)).toArray) 47 fun h15 g16 m17=> ?_
 have tz:=ag m17
 replace e0:=(e0.ext g8).ext g13
 have tB:=e0.size
 replace gj:=(gj.ext g8).ext g13
 have wM:=gj.1
 replace sep:=(sep.up g13.size).nw gj.1 m17
 refine bG 2 (bJ (2:Int) (.slice none 0 0) aC (0:Int) false false (.slice none 0 0) (0:Int) aC (0:Int) (.slice none 0 0)) m17 fun h21 g22 zq=> ?_
 replace hj:=(((hj.x g2).x g8).x g13).x g16
 replace hj:=hj.y g22
 replace m17:=zq
 refine sT [(9,pV fc.size)] fun a hF=>cS<|cB 0<|qS hF<|tO 3 4 hj<|sT [(16,.bool false)] fun a hF=>cF 16 hF ?_
 refine qP [(21,.bool false)] hF fun a hF=>cF 21 hF<|qS hF<|tO 3 1 hj<|sT [(30,.bool false)] fun a hF=>cF 30 hF<|cS ?_
 rcases Int.decEq X.c 2 with hX2|hX2
 ·refine rS hF ?_
  replace m9:=((m9.x g13).x g16).y g22 (sep.bp 1 0)
  refine tO 1 0 m9<|eF 2 X.c 2<|sE [(38,.bool false)] fun a hF=>tK<|cF 38 hF<|qP [(58,.bool false)] hF fun a hF=>cF 58 hF ?_
  refine cN<|bK<|tK<|qS hF ?_
  replace m3:=((m3.x g13).x g16).y g22 (sep.bp 2 0)
  refine tR 1 m3<|tR 2 m9 ?_
  replace e0:=(e0.ext g16).grew g22 (sep.low 0 rfl)
  have hse:=e0.size
  refine tG 5 (kg _ jb bs Ms false false false ca cc (ja.ext e0) kd n s l oa oc ka kn kc (hr.ext e0) hsz X ga gd gf gg gh gl (xq.ext e0) (xi.ext e0) (xp.ext e0) x32 k11 k15 (kt.ext e0) hE hn) ?_
  rintro _ h23 ⟨rfl,z8,ca2,xr,nU,hsub,gz⟩
  have gw:=(Gr.start (JF jb bs) h).ext e0 |>.trans gz
  exact sT [(6,.int .i64 ((cf ⟨Ms,false,false,false,false⟩ (bQ kd n s l X)).2))] fun a hF=>cR<|rT 6 (.int .i64 ((cf ⟨Ms,false,false,false,false⟩ (bQ kd n s l X)).2)) hF<|⟨rfl,z8,ca2,xr,nU,fun x hx=> .inl (hsub x hx),gw⟩
 ·refine rS hF ?_
  replace m9:=((m9.x g13).x g16).y g22 (sep.bp 1 0)
  refine tO 1 0 m9<|eT 2 X.c 2<|tO 7 2 hj<|sE [(38,.bool false)] fun a hF=>tK<|cF 38 hF<|qP [(58,.bool false)] hF fun a hF=> ?_
  refine cF 58 hF<|cN<|bK<|tK<|qS hF ?_
  replace m3:=((m3.x g13).x g16).y g22 (sep.bp 2 0)
  refine tR 1 m3<|tR 2 m9 ?_
  replace e0:=(e0.ext g16).grew g22 (sep.low 0 rfl)
  have hse:=e0.size
  refine tG 5 (kg _ jb bs Ms false false false ca cc (ja.ext e0) kd n s l oa oc ka kn kc (hr.ext e0) hsz X ga gd gf gg gh gl (xq.ext e0) (xi.ext e0) (xp.ext e0) x32 k11 k15 (kt.ext e0) hE hn) ?_
  rintro _ jK ⟨rfl,z8,ca2,xr,nU,hsub,gz⟩
  have gw:=(Gr.start (JF jb bs) h).ext e0 |>.trans gz
  exact sT [(6,.int .i64 ((cf ⟨Ms,false,false,false,false⟩ (bQ kd n s l X)).2))] fun a hF=>cR<|rT 6 (.int .i64 ((cf ⟨Ms,false,false,false,false⟩ (bQ kd n s l X)).2)) hF<|⟨rfl,z8,ca2,xr,nU,fun x hx=> .inl (hsub x hx),gw⟩
end Go.Proofs.YtegkejcglfgpmaaGreatDoor
end
section
namespace Go.aT
open Go Go.an
theorem JA.Cg{h h':Heap}{jb:Nat}{bs:List (Nat×Nat)}{J:Jd}{ca:Option Addr}{cc:Nat}{o:Option Nat}{v:Value}{E:TypeId}{n sz:Nat}{xs:List Value}(a:JA h jb bs J ca cc)(g:Grew o h h')(w:Own h v E n sz xs)(ho:bh v=o)(hE:qO E=false)(hM:E≠83)(hP:E≠55)(hJ:E≠77):JA h' jb bs J ca cc:=by
  subst ho
  rcases w.2 with⟨rfl,_⟩|⟨k,off,cap,l,rfl,m,_⟩
  · exact a.ext g
  · have gr : Gr (fun i => i = k) h h' := ⟨g.1, fun i hi hn => g.2 i hi (fun e => hn (Option.some.inj e))⟩
    have hjk:jb≠k:=by rintro rfl;rw[a.hj] at m;cases m;exact hJ rfl
    exact⟨gr.blk a.hj hjk,a.row.fr gr (fun i e cs fr e2=>by rw[e,m] at e2;cases e2;exact hP rfl),a.cs.Cg g w rfl hE hM⟩
theorem JA.EV{h:Heap}{jb:Nat}{bs:List (Nat×Nat)}{J:Jd}{ca:Option Addr}{cc:Nat}{ad:Option Addr}{n cap:Nat}{E:TypeId}{m sz:Nat}{xs:List Value}(a:JA h jb bs J ca cc)(w:Own h (.slice ad n cap) E m sz xs)(hM:E≠83)(hJ:E≠77):∀k,ad.map (fun(x:Addr)=>x.block)=some k→¬JF jb bs k:=fun k e=>by
  rcases w.2 with⟨e2,_⟩|⟨g,off,cap',l,e2,q,_⟩
  · cases e2;cases e
  · cases e2
    simp only[Option.map_some,Option.some.injEq] at e
    subst e
    rintro(rfl|⟨x,hx,e⟩)
    · rw[a.hj] at q;cases q;exact hJ rfl
    · have := a.cs.Jy q hM x hx
      rcases e with e|e
      · exact this.1 e
      · exact this.2 e
/-! ### faults -/
@[reducible] def LS(p:Int×Int):List Value:=[.int .i64 p.1, .int .i64 p.2]
@[reducible] def ez(L:List (Int×Int)):List Value:=L.flatMap LS
theorem vp(p:Int×Int):(LS p).length =2:=rfl
theorem wP(L:List (Int×Int)):∀u∈ez L,u.oneCell' =true:=lO (fun p u hu=>by simp only[LS,List.mem_cons,List.not_mem_nil,or_false] at hu;rcases hu with rfl|rfl<;>rfl) L
def jt(r:Nat→Int)(k:Nat):List (Int×Int):=(List.range k).filterMap fun i=>if r i=0 then none else some (((i:Nat):Int),r i)
theorem z_{r:Nat→Int}{k:Nat}(h:r k=0):jt r (k+1)=jt r k:=by unfold jt;rw[List.range_succ,List.filterMap_append];simp[h]
theorem vq{r:Nat→Int}{k:Nat}(h:r k≠0):jt r (k+1)=jt r k++[(((k:Nat):Int),r k)]:=by unfold jt;rw[List.range_succ,List.filterMap_append];simp[h]
theorem z'(r:Nat→Int):∀k,(jt r k).length ≤k
  |0=>by simp[jt]
  | k + 1 => by
    have:=z' r k
    by_cases h:r k=0
    · rw[z_ h];omega
    · rw[vq h];simp;omega
end Go.aT
end
section
namespace Go.Proofs.YtegkejcglfgpmaaGreatDoor
open Go Go.an Go.aT
/-! ### answers with their slices; what the judge does by one operation -/
structure xt where
  X:An
  qa:Option Addr
  qc:Nat
  ia:Option Addr
  ic:Nat
  pa:Option Addr
  pc:Nat
@[reducible] def CE(r:xt):List Value:=bJ r.X.c (.slice r.qa r.X.b.length r.qc) r.X.sx r.X.se r.X.sh r.X.sg (.slice r.ia r.X.i.length r.ic) r.X.n r.X.y r.X.k (.slice r.pa r.X.p.length r.pc)
def gC:xt:=⟨ft,none,0,none,0,none,0⟩
@[reducible] def ou(A:List xt):List Value:=A.flatMap CE
theorem Aa(r:xt):(CE r).length =75:=rfl
def HZ(h:Heap)(o:lG):Prop:=aR h (.slice o.oa o.l.length o.oc) o.l.length 1 (o.l.map bv)∧o.s.size ≤9223372036854775807
def DB(h:Heap)(x:xt):Prop:=aR h (.slice x.qa x.X.b.length x.qc) x.X.b.length 1 (x.X.b.map bv)∧aR h (.slice x.ia x.X.i.length x.ic) x.X.i.length 1 (x.X.i.map Value.string)∧aR h (.slice x.pa x.X.p.length x.pc) x.X.p.length 32 (hcs x.X.p)∧aB x.X.p
theorem _root_.Go.aT.JA.one{h:Heap}{jb:Nat}{bs:List (Nat×Nat)}{J:Jd}{ca:Option Addr}{cc:Nat}{M:Md}(a:JA h jb bs J ca cc)(hc:J.c =[M]):∃y aa,bs=[y]∧ca=some aa:=by
  have hl:=a.cs.len
  rw[hc] at hl
  obtain⟨y,rfl⟩:=List.length_eq_one_iff.1 hl
  obtain⟨aa,e,_⟩:=a.row.1.a6 (by simp)
  exact⟨y,aa,rfl,e⟩
def cg(h:Heap)(o:lG)(x:xt)(J J':Jd)(r:Int):Prop:=∀(h1:Heap) (jb:Nat) (bs:List (Nat×Nat)) (ca:Option Addr) (cc:Nat),Ext h h1→0<jb→bH h1→JA h1 jb bs J ca cc→
  Sat Tryz.prog 31 #[.pointer (some ⟨jb,0,none⟩), .agg (Hl o).toArray, .agg (CE x).toArray] h1 fun v h'=>v= .int .i64 r∧∃bs' ca cc,JA h' jb bs' J' ca cc∧(∀z∈bs',z∈bs∨(h1.size ≤z.1 ∧h1.size ≤z.2))∧Gr (JF jb bs) h1 h'
section
variable {h:Heap} {o:lG} {x:xt} {Ms:List Md} {M:Md}
theorem cg.fuse{o2 o3:Bool}(hx:DB h x)(hk:o.kd =12):cg h o x ⟨Ms,false,o2,o3,false⟩ ⟨Ms,false,decide (0≤o.n),o3,false⟩ (bO ft x.X):=fun h1 jb bs ca cc g _ _ ja=>
  z6 h1 jb bs Ms ca cc o2 o3 ja o.kd o.n o.s o.l o.oa o.oc o.ka o.kn o.kc x.X x.qa x.qc x.ia x.ic x.pa x.pc (hx.1.ext g) (hx.2.1.ext g) (hx.2.2.1.ext g) hx.2.2.2 (pR (by omega) (by omega)) hk
theorem cg.LU{o1 o2 o3:Bool}(hx:DB h x)(hk:o.kd =13):cg h o x ⟨Ms,o1,o2,o3,false⟩ ⟨Ms,false,false,o3,false⟩ (bO ft x.X):=fun h1 jb bs ca cc g _ _ ja=>
  z7 h1 jb bs Ms ca cc o1 o2 o3 ja o.kd o.n o.s o.l o.oa o.oc o.ka o.kn o.kc x.X x.qa x.qc x.ia x.ic x.pa x.pc (hx.1.ext g) (hx.2.1.ext g) (hx.2.2.1.ext g) hx.2.2.2 (pR (by omega) (by omega)) hk
theorem cg.power(ho:HZ h o)(hx:DB h x)(hkc:ee o.kd =(true,true))(hX:x.X.c =2)(hE:M.E.length ≤1099511627)(hc:(ri M o).2.c =0)(hne:(ri M o).1.E.length ≠M.E.length):cg h o x ⟨[M],false,true,false,false⟩ ⟨[M,(ri M o).1],true,true,false,false⟩ (bO (j4 2) x.X):=fun h1 jb bs ca cc g hk kt ja=>by
  obtain⟨y,aa,rfl,rfl⟩:=ja.one rfl
  exact rM h1 jb y M aa cc ja o.kd o.n o.s o.l o.oa o.oc o.ka o.kn o.kc (ho.1.ext g) ho.2 x.X x.qa x.qc x.ia x.ic x.pa x.pc (hx.1.ext g) (hx.2.1.ext g) (hx.2.2.1.ext g) hx.2.2.2 hkc hX kt hk hE hc hne
theorem cg.H2(ho:HZ h o)(hx:DB h x)(hkc:ee o.kd =(true,true))(hX:x.X.c ≠3)(hE:∀M∈Ms,M.E.length ≤1099511627)(hn:Ms.length ≤1099511627){J:Jd}{r:Int}(e:cf ⟨Ms,false,false,false,false⟩ (bQ o.kd o.n o.s o.l x.X)=(J,r)):cg h o x ⟨Ms,false,false,false,false⟩ J r:=fun h1 jb bs ca cc g hk kt ja=>by
  have hl:=ja.cs.len
  have hh:o.kd ≠11∧o.kd ≠15:=⟨by rintro e;rw[e] at hkc;exact absurd hkc (by decide),by rintro e;rw[e] at hkc;exact absurd hkc (by decide)⟩
  have:=wN h1 jb bs Ms ca cc ja o.kd o.n o.s o.l o.oa o.oc o.ka o.kn o.kc (ho.1.ext g) ho.2 x.X x.qa x.qc x.ia x.ic x.pa x.pc (hx.1.ext g) (hx.2.1.ext g) (hx.2.2.1.ext g) hx.2.2.2 hkc hX hh.1 hh.2 kt hE (by rw[hl];exact hn)
  rwa [e] at this
theorem cg.holdA(ho:HZ h o)(hx:DB h x)(hkc:ee o.kd =(true,false))(k11:o.kd ≠11)(k15:o.kd ≠15)(hE:∀M∈Ms,M.E.length ≤1099511627)(hn:Ms.length ≤1099511627){J:Jd}{r:Int}(e:cf ⟨Ms,false,false,false,false⟩ (bQ o.kd o.n o.s o.l x.X)=(J,r)):cg h o x ⟨Ms,false,false,false,false⟩ J r:=fun h1 jb bs ca cc g hk kt ja=>by
  have hl:=ja.cs.len
  have:=wO h1 jb bs Ms ca cc ja o.kd o.n o.s o.l o.oa o.oc o.ka o.kn o.kc (ho.1.ext g) ho.2 x.X x.qa x.qc x.ia x.ic x.pa x.pc (hx.1.ext g) (hx.2.1.ext g) (hx.2.2.1.ext g) hx.2.2.2 hkc k11 k15 kt hE (by rw[hl];exact hn)
  rwa [e] at this
end
/-! ### the document's examples -/
@[reducible] def sA:ByteArray:=ByteArray.mk #[97]
noncomputable def M1:Md:=(eG M0 sA [97]).1
def Fl(l:List UInt8):An:={ft with b:=l}
theorem pf:aP sA=true:=by decide
theorem H3:eG M0 sA [97]=(M1,0):=by unfold M1;rw[jX pf (by decide) rfl]
theorem H4:M1.f sA=some (sW sA [97] 0):=by
  have:M1=⟨upd M0.f sA (sW sA [97] M0.E.length),M0.E ++[dn sA 1 (bN [97])],M0.t⟩:=by unfold M1;rw[jX pf (by decide) rfl];rfl
  rw[this];show upd M0.f sA (sW sA [97] 0) sA=_;exact jk _ _ _
theorem CF:M1.E.length =1:=by unfold M1;rw[jX pf (by decide) rfl];rfl
theorem Fm(n:Int):step M0 1 n sA [97]=(M1,ft):=by rw[j5 rfl,H3];rfl
theorem bE(n:Int):step M1 1 n sA [97]=(M1,j4 212):=by rw[j5 rfl,jl pf (by decide) H4]
theorem Fo(n:Int)(l:List UInt8):step M0 2 n sA l=(M0,j4 211):=by rw[dq (.inl rfl),kP pf rfl]
theorem ta(n:Int)(l:List UInt8):step M1 2 n sA l=(M1,Fl [97]):=by rw[dq (.inl rfl),mX pf H4 rfl rfl];rfl
theorem LV:bO ft ft=0:=u9 rfl rfl (fH ..) rfl (iI ..) rfl rfl
theorem Fp:bO (Fl [97]) (Fl [98])=2:=rule2 rfl (by decide)
theorem Qx:bO (Fl [97]) (Fl [97])=0:=u9 rfl rfl (fH ..) rfl (iI ..) rfl rfl
theorem NW(c:Int):bO (j4 c) (j4 c)=0:=u9 rfl rfl (fH ..) rfl (iI ..) rfl rfl
theorem rC{A B:An}(h:A.c ≠B.c):bO A B=1:=Dp h
theorem H5{M N:Md}{f:Md→Md×Int}(h:f M=(N,0)){a b c d:Bool}:cf ⟨[M],a,b,c,d⟩ f=(⟨[N],a,b,c,d⟩,0):=by simp[cf,h]
theorem Ab{M N:Md}{r:Int}{f:Md→Md×Int}(h:f M=(N,r))(hr:r≠0){a b c d:Bool}:cf ⟨[M],a,b,c,d⟩ f=(⟨[N],a,b,c,d⟩,r):=by simp[cf,h,hr,hdF]
theorem Fq{M N K L:Md}{r:Int}{f:Md→Md×Int}(h:f M=(K,r))(k:f N=(L,0))(hr:r≠0){a b c d:Bool}:cf ⟨[M,N],a,b,c,d⟩ f=(⟨[L],a,b,c,d⟩,0):=by simp[cf,h,k,hr]
theorem Fs{M N K L:Md}{r:Int}{f:Md→Md×Int}(h:f M=(K,0))(k:f N=(L,r))(hr:r≠0){a b c d:Bool}:cf ⟨[M,N],a,b,c,d⟩ f=(⟨[K],a,b,c,d⟩,0):=by simp[cf,h,k,hr]
theorem ig{M N:Md}{A X:An}{kd n r:Int}{s:ByteArray}{l:List UInt8}(h:step M kd n s l=(N,A))(k:bO A X=r):bQ kd n s l X M=(N,r):=by unfold bQ;rw[h];exact congrArg _ k
def whZ(c:Int):Nat:=(if c<0 then -(c+1) else c).toNat %3
end Go.Proofs.YtegkejcglfgpmaaGreatDoor
end
section
namespace Go.Proofs.YtegkejcglfgpmaaGreatDoor
open Go Go.an Go.aT
noncomputable def b10:Code:=Tryz.f10.body.getD .skip
set_option maxHeartbeats 1000000 in
theorem wQ(h:Heap)(L:List lG)(A:List xt)(n:Nat)(la:Option Addr)(lc:Nat)(xa:Option Addr)(xc:Nat)(Jf:Nat→Jd)(r:Nat→Int)(hl:Row h (.slice la n lc) n 5 (g' L))(hL:L.length =n)(ha:Row h (.slice xa n xc) n 75 (ou A))(hA:A.length =n)(kt:bH h)(hn:n≤1099511627)(hJ0:Jf 0=⟨[M0],false,false,false,false⟩)(see:∀k,k<n→cg h (L.getD k pH) (A.getD k gC) (Jf k) (Jf (k+1)) (r k)):Sat Tryz.prog 10 #[.slice la n lc,.slice xa n xc] h fun v h'=>∃ad cap,v= .slice ad (jt r n).length cap∧Own h' (.slice ad (jt r n).length cap) 52 (jt r n).length 2 (ez (jt r n))∧Ext h h':=by
 have e0:=Ext.refl h
 have dL:=kt.lt
 have sep:Sep h.size h.size []:=Sep.nil _ _
 refine ak Tryz.func10 53 fun a hF=>qP [] hF fun a hF=>qS hF<|tG 0 (zQ _ (by have:=e0.size;omega)) ?_
 rintro _ h1 ⟨mb,mp,rfl,hM,hb1,hp1,g⟩
 have hse:=e0.size;replace hb1:=Nat.le_trans hse hb1;replace hp1:=Nat.le_trans hse hp1;clear hse
 replace e0:=e0.ext g
 replace kt:=kt.ext g
 replace sep:=sep.up g.size
 clear g
 refine tN 1 (.slice (some ⟨h1.size,0,none⟩) 1 1) #[pV mb] 55 fun h2 g3 m4=> ?_
 have Nf:=ag m4
 have AU:=e0.size
 replace sep:=sep.nw e0.size m4
 refine tN 3 (pV h2.size) #[.slice (some ⟨h1.size,0,none⟩) 1 1,.bool false,.bool false,.bool false,.bool false] 77 fun h7 g8 m9=> ?_
 have tE:=ag m9
 replace e0:=e0.ext g3
 have qu:=e0.size
 replace sep:=sep.nw e0.size m9
 refine sT [(5,pV h2.size)] fun a hF=>qP [(6,.slice none 0 0)] hF fun a hF=>qS hF<|t1 4 (.int .i64 ((n:Nat):Int)) (.int .i64 (if ((n:Nat):Int)<((n:Nat):Int) then ((n:Nat):Int) else ((n:Nat):Int))) (congrArg (Value.int .i64) (by split<;>rfl))<|sT [(7,nV n)] fun a hF=>cS<|qP [(19,nV n),(20,.int .i64 0)] hF fun a hF=> ?_
 refine cB 0 ?_
 have hjl:h.size ≤h2.size :=by omega
 replace hM:=(hM.ext g3).ext g8
 replace m4:=m4.x g8
 have ja:JA h7 h2.size [(mb,mp)] (Jf 0) (some ⟨h1.size,0,none⟩) 1:=hJ0▸⟨m9,⟨Row.blk (n:=1) (sz:=1) (l:=[m_ (mb,mp)]) m4 rfl,.inr ⟨_,_,_,rfl,m4⟩⟩,CA.one hM⟩
 have hlow:∀z∈[(mb,mp)],h.size ≤z.1 ∧h.size ≤z.2 :=fun z hz=>by rw[List.mem_singleton.1 hz];exact⟨hb1,hp1⟩
 clear hM m4 m9
 have bS:Own h7 (.slice none 0 0) 52 0 2 (ez (jt r 0)):=Own.nil _ _ _
 replace e0:=e0.ext g8
 have hlo:=e0.size
 replace sep:=(sep.sub (l':=[]) (List.nil_sublist _)).none hlo;clear hlo
 replace kt:=(kt.ext g3).ext g8
 refine cL (fun m a h'=>∃k:Nat,∃ad:Option Addr,∃cap:Nat,∃bs:List (Nat×Nat),∃ca:Option Addr,∃cc:Nat,m=n - k∧(Ext h h')∧(bH h')∧(k≤n)∧(∀z∈bs,h.size ≤z.1 ∧h.size ≤z.2)∧(JA h' h2.size bs (Jf k) ca cc)∧(Own h' (.slice ad ((jt r k).length) cap) 52 ((jt r k).length) 2 (ez (jt r k)))∧(Sep h.size h'.size [ad.map (·.block)])∧(Fr a 53 [(0,.slice la n lc),(1,.slice xa n xc),(5,.pointer (some ⟨h2.size,0,none⟩)),(6,.slice ad ((jt r k).length) cap),(7,.int .i64 ((n:Nat):Int)),(19,.int .i64 ((n:Nat):Int)),(20,.int .i64 ((k:Nat):Int))])) (n - 0) ⟨0,none,0,[(mb,mp)],(some ⟨h1.size,0,none⟩),1,rfl,e0,kt,(by omega),hlow,ja,bS,sep,hF.to⟩ ?_
 clear hF a
 clear e0
 clear kt
 clear hlow
 clear ja
 clear bS
 clear sep
 rintro m a h12 ⟨k,ad,cap,bs,ca,cc,rfl,e0,kt,hk,hlow,ja,bS,sep,hF⟩
 refine qP [(21,.bool (decide (((k:Nat):Int)<((n:Nat):Int))))] hF fun a hF=>cS<|cJ 21 hF (fun hc13=> ?_) fun hc13=> ?_
 ·have hkn:k<n:=by omega
  have hFn:=hF
  obtain⟨al,rfl,CG⟩:=hl.a6 (by omega)
  have hF:=hFn;clear hFn
  have hFn:=hF
  obtain⟨ax,rfl,JM⟩:=ha.a6 (by omega)
  have hF:=hFn;clear hFn
  refine cN<|tK<|cS<|cB 1<|qP [(8,nV k)] hF fun a hF=>cS<|cD [0,0,0,6,14,0,0,96,224,511,1023] 7 mixed hF ?_
  refine mP 7 [0,1,2] [pV h2.size,.slice (some al) n lc,nV k]<|mI 15 3 al n 5 k (k*5)<|mL 31 16 4 (.agg ((Hl (L.getD k pH)).toArray)) (Calm.load (T:=35) (p:=(Addr.add al (k*5))) (by kernel_rfl) (Row.fm (d:=pH) pS (hl.ext e0) (by kernel_rfl) (by omega) rfl))<|mP 127 [5,6] [.slice (some ax) n xc,nV k]<|mI 255 7 ax n 75 k (k*75)<|mL 511 272 8 (.agg ((CE (A.getD k gC)).toArray)) (Calm.load (T:=47) (p:=(Addr.add ax (k*75))) (by kernel_rfl) (Row.fm (d:=gC) Aa (ha.ext e0) (by kernel_rfl) (by omega) rfl))<|fW 1023 1023 9 (see k hkn _ h2.size bs ca cc e0 (by omega) kt ja) ?_
  rintro _ fc ⟨rfl,z8,ca2,xr,nU,hb2,gz⟩
  have hse:=e0.size
  have hlow2:∀z∈z8,h.size ≤z.1 ∧h.size ≤z.2 :=fun z hz=>by rcases hb2 z hz with h9|h9;exact hlow z h9;exact⟨by omega,by omega⟩
  have LW:∀i,JF h2.size bs i→h.size ≤i:=by rintro i (e|⟨x,hx,e|e⟩);omega;have:=hlow x hx;omega;have:=hlow x hx;omega
  replace bS:=Gr.own gz bS (by rw[aj];exact ja.EV bS (by decide) (by decide))
  replace e0:=Gr.cY e0 gz LW
  replace kt:=kt.gr gz (fun e=>by have:=LW _ e;omega)
  replace sep:=sep.up gz.1
  clear ja;have ja:=nU;clear nU LW hse hb2
  refine mP 2047 [10] [.int .i64 (r k)]<|mE [(9,.int .i64 (r k))] fun a hF=>tK<|qP [(34,.bool (!decide ((r k)=(0:Int))))] hF fun a hF=>cI 34 hF (fun kT=> ?_) fun kT=> ?_
  ·have hfz:=vq kT
   have hfl:=z' r k
   refine rS hF<|tN 4 (.slice (some ⟨fc.size,0,none⟩) 1 1) #[nV k,.int .i64 (r k)] 52 fun h16 g17 m18=> ?_
   have LX:=ag m18
   have wM:=e0.size
   replace sep:=sep.nw e0.size m18
   replace bS:=bS.ext g17
   refine tP 5 ((jt r k).length +1) 16 (ez (jt r k++[(((k:Nat):Int),r k)])) bS (Row.blk (n:=1) (sz:=2) (l:=ez [(((k:Nat):Int),r k)]) m18 rfl) (wP _) (fun Ft DC lD aq g23 zk=> ?_) (ys:=(ez ([(((k:Nat):Int),r k)]))) (hZ:=by first|rfl|exact List.flatMap_append.symm |simp[ez])
   replace e0:=e0.ext g17
   replace ja:=ja.ext g17
   replace ja:=ja.Cg g23 bS (aj ..) (by decide) (by decide) (by decide) (by decide)
   have s26:=sep
   replace sep:=sep.sa g23 1 zk aq e0.size;clear zk
   replace bS:=aq;clear aq
   have zY:(jt r k).length +1=(jt r (k+1)).length :=by rw[hfz,List.length_append];rfl
   rw[zY,←hfz] at bS
   refine sE [(6,.slice Ft ((jt r k).length +1) DC)] fun a hF=> ?_
   have hcan:((jt r k).length +1:Nat)=(jt r (k+1)).length :=by first|exact zY| (simp;done)| (simp;omega)
   rw[hcan] at hF;clear hcan
   refine bK<|tK<|rS hF<|tA 0 k 1<|sE [(20,nV (k+1))] fun a hF=> ?_
   clear m18 LX wM
   replace kt:=(kt.ext g17).grew g23 (s26.zero 1 rfl dL)
   replace e0:=e0.grew g23 (s26.l 1)
   replace sep:=sep.sub (l':=[Ft.map (·.block)]) (.cons _ (.cons_cons _ (.slnil)))
   show ∃m',m'<_∧_
   refine⟨_,?_,(k+1),Ft,DC,z8,ca2,xr,rfl,e0,kt,(by omega),hlow2,ja,bS,sep,hF.to⟩
   omega
  ·have hfz:=z_ kT
   rw[←hfz] at bS hF
   refine cN<|bK<|tK<|rS hF<|tA 0 k 1<|sE [(20,nV (k+1))] fun a hF=> ?_
   replace sep:=sep.sub (l':=[ad.map (·.block)]) (.cons_cons _ (.slnil))
   show ∃m',m'<_∧_
   refine⟨_,?_,(k+1),ad,cap,z8,ca2,xr,rfl,e0,kt,(by omega),hlow2,ja,bS,sep,hF.to⟩
   omega
 ·refine cX 0 (xT (xT (xB ?_)))
  refine tK<|cS<|qS hF<|uF 4 ((n:Nat):Int) ((n:Nat):Int)<|sT [(46,.bool false)] fun a hF=>cF 46 hF<|cN ?_
  refine tK<|qP [(4,.slice ad ((jt r k).length) cap)] hF fun a hF=>cR<|rT 4 (.slice ad ((jt r k).length) cap) hF ?_
  have hke:k=n:=by omega
  exact⟨ad,cap,by rw[hke],by rw[←hke];exact bS,e0⟩
noncomputable def b14:Code:=Tryz.f14.body.getD .skip
theorem CH(h:Heap)(p:Int×Int)(aa:Addr)(vc:Nat)(ab:Addr)(vd:Nat)(ra:Row h (.slice (some aa) 1 vc) 1 2 (ez [p]))(rb:Row h (.slice (some ab) 1 vd) 1 2 (ez [p])):Sat Tryz.prog 14 #[.slice (some aa) 1 vc,.slice (some ab) 1 vd] h fun v h'=>v= .bool true∧h'=h:=by
 refine ak Tryz.func14 26 fun a hF=>qP [] hF fun a hF=>cS<|qP [(10,.bool false)] hF fun a hF=>cF 10 hF<|cN<|tK ?_
 refine cS<|qP [(5,.int .i64 0)] hF fun a hF=>cB 0<|cU 2<|az.step <|cS<|qP [(14,.bool true)] hF fun a hF=> ?_
 refine cT 14 hF<|cN<|tK<|cS<|cB 1<|cS<|cD [0,0,3,7,0,0,48,112,255] 6 mixed hF ?_
 refine mP 3 [0,1] [.slice (some aa) 1 vc,.int .i64 0]<|mI 7 2 aa 1 2 0 0<|mL 15 8 3 (.agg #[.int .i64 p.1,.int .i64 p.2]) (Calm.load (T:=52) (p:=aa) (by kernel_rfl) (Row.fm (a:=aa) (q:=0) (L:=[p]) (i:=0) (d:=p) vp ra (by kernel_rfl) (by simp) rfl))<|mP 63 [4,5] [.slice (some ab) 1 vd,.int .i64 0]<|mI 127 6 ab 1 2 0 0<|mL 255 136 7 (.agg #[.int .i64 p.1,.int .i64 p.2]) (Calm.load (T:=52) (p:=ab) (by kernel_rfl) (Row.fm (a:=ab) (q:=0) (L:=[p]) (i:=0) (d:=p) vp rb (by kernel_rfl) (by simp) rfl))<|mF 511 8 (.bool false) (Calm.eqS (q:=false) (xs:= #[.int .i64 p.1,.int .i64 p.2]) (by kernel_rfl)) ?_
 refine mE [(25,.bool false)] fun a hF=>tK<|cF 25 hF<|cN<|bK<|tK<|rP [(5,.int .i64 1)] hF fun a hF=> ?_
 refine tK (az.step ?_)
 refine cS<|qP [(14,.bool false)] hF fun a hF=>cF 14 hF<|cX 0 (xT (xT (xB ?_)))
 exact tK<|qP [(4,.bool true)] hF fun a hF=>cR<|rT 4 (.bool true) hF<|⟨rfl,rfl⟩
theorem kU(h:Heap)(p:Int×Int)(va:Option Addr)(vc:Nat)(vb:Option Addr)(vd:Nat)(ra:Row h (.slice va 1 vc) 1 2 (ez [p]))(rb:Row h (.slice vb 1 vd) 1 2 (ez [p])):Sat Tryz.prog 14 #[.slice va 1 vc,.slice vb 1 vd] h fun v h'=>v= .bool true∧h'=h:=by
 obtain⟨aa,rfl,_⟩:=ra.a6 (by decide)
 obtain⟨ab,rfl,_⟩:=rb.a6 (by decide)
 exact CH h p aa vc ab vd ra rb
noncomputable def b12:Code:=Tryz.f12.body.getD .skip
end Go.Proofs.YtegkejcglfgpmaaGreatDoor
end
section
namespace Go.Proofs.YtegkejcglfgpmaaGreatDoor
open Go Go.an Go.aT
/-! ### the examples: their operations, their answers, what the judge does by each -/
theorem CI{h:Heap}{b:Nat}{x:UInt8}(m:h[b]? =some (.cells #[bv x] 5)):aR h (.slice (some ⟨b,0,none⟩) 1 1) 1 1 ([x].map bv):=
  ⟨Row.blk (n:=1) (sz:=1) (l:=[x].map bv) m rfl, .inr ⟨b,_,_,_,rfl,m,by decide⟩⟩
@[reducible] def ki(b:Nat):lG:=⟨1,sA,[97],some ⟨b,0,none⟩,1,0,none,0,0⟩
@[reducible] def fo:lG:=⟨2,sA,[],none,0,0,none,0,0⟩
@[reducible] def eA(k:Int):lG:=⟨k,ByteArray.empty,[],none,0,0,none,0,0⟩
@[reducible] def cu(c:Int):xt:=⟨j4 c,none,0,none,0,none,0⟩
@[reducible] def aByte(x:UInt8)(b:Nat):xt:=⟨Fl [x],some ⟨b,0,none⟩,1,none,0,none,0⟩
section
variable {h:Heap} {b b2:Nat}
theorem DD(m:h[b]? =some (.cells #[bv 97] 5)):HZ h (ki b):=⟨CI m,(by decide:sA.size ≤9223372036854775807)⟩
theorem rN(h:Heap):HZ h fo:=⟨aR.nil _ _,by decide⟩
theorem Fu(h:Heap):DB h gC:=⟨aR.nil _ _,aR.nil _ _,aR.nil _ _,aB.nil⟩
theorem pZ(h:Heap)(c:Int):DB h (cu c):=⟨aR.nil _ _,aR.nil _ _,aR.nil _ _,aB.nil⟩
theorem Ac{x:UInt8}(m:h[b]? =some (.cells #[bv x] 5)):DB h (aByte x b):=⟨CI m,aR.nil _ _,aR.nil _ _,aB.nil⟩
theorem E0:∀M∈[M0],M.E.length ≤1099511627:=fun M hM=>by rw[List.mem_singleton.1 hM];decide
theorem E1:∀M∈[M1],M.E.length ≤1099511627:=fun M hM=>by rw[List.mem_singleton.1 hM,CF];decide
theorem NX:∀M∈[M0,M1],M.E.length ≤1099511627:=fun M hM=>by
  rcases List.mem_cons.1 hM with rfl|hM
  · decide
  · exact E1 M hM
noncomputable def JD:Nat→Jd
  |0=>⟨[M0],false,false,false,false⟩
  |_=>⟨[M1],false,false,false,false⟩
def rD:Nat→Int
  |1=>2
  |_=>0
theorem LY(m:h[b]? =some (.cells #[bv 97] 5))(m2:h[b2]? =some (.cells #[bv 98] 5))(k:Nat)(hk:k<2):cg h ([ki b,fo].getD k pH) ([gC,aByte 98 b2].getD k gC) (JD k) (JD (k+1)) (rD k):=by
  match k,hk with
  |0,_=>exact cg.H2 (o:=ki b) (x:=gC) (DD m) (Fu h) (iJ (.inl rfl)) (by decide) E0 (by decide) (H5 (ig (Fm _) LV))
  |1,_=>exact cg.holdA (o:=fo) (x:=aByte 98 b2) (rN h) (Ac m2) (da (by decide) (.inl rfl)) (by decide) (by decide) E1 (by decide) (Ab (ig (ta _ _) Fp) (by decide))
def JE:Nat→Jd
  |0=>⟨[M0],false,false,false,false⟩
  |_=>⟨[M0],false,false,false,false⟩
def rE:Nat→Int:=fun _=>1
theorem LZ(h:Heap)(k:Nat)(hk:k<1):cg h ([fo].getD k pH) ([cu 2].getD k gC) (JE k) (JE (k+1)) (rE k):=by
  match k,hk with
  |0,_=>exact cg.holdA (o:=fo) (x:=cu 2) (rN h) (pZ h 2) (da (by decide) (.inl rfl)) (by decide) (by decide) E0 (by decide) (Ab (ig (Fo _ _) (rC (by decide))) (by decide))
noncomputable def CJ:Nat→Jd
  |0=>⟨[M0],false,false,false,false⟩
  |1=>⟨[M0],false,true,false,false⟩
  |2=>⟨[M0,M1],true,true,false,false⟩
  |3=>⟨[M0,M1],false,false,false,false⟩
  |_=>⟨[M1],false,false,false,false⟩
def rF:Nat→Int
  |4=>1
  |_=>0
theorem H6(x:xt)(hx:x=gC):cg h (eA 12) x (CJ 0) (CJ 1) 0:=by
  subst hx
  have:=cg.fuse (h:=h) (o:=eA 12) (x:=gC) (Ms:=[M0]) (o2:=false) (o3:=false) (Fu h) rfl
  rw[show bO ft gC.X =0 from LV] at this
  exact this
theorem H7(m:h[b]? =some (.cells #[bv 97] 5)):cg h (ki b) (cu 2) (CJ 1) (CJ 2) 0:=by
  have e:ri M0 (ki b)=(M1,ft):=Fm 0
  have:=cg.power (h:=h) (o:=ki b) (x:=cu 2) (M:=M0) (DD m) (pZ h 2) (iJ (.inl rfl)) rfl (by decide) (by rw[e];rfl) (by rw[e,CF];decide)
  rw[e,NW] at this
  exact this
theorem H8:cg h (eA 13) gC (CJ 2) (CJ 3) 0:=by
  have:=cg.LU (h:=h) (o:=eA 13) (x:=gC) (Ms:=[M0,M1]) (o1:=true) (o2:=true) (o3:=false) (Fu h) rfl
  rw[show bO ft gC.X =0 from LV] at this
  exact this
theorem L0(m:h[b]? =some (.cells #[bv 97] 5))(m2:h[b2]? =some (.cells #[bv 97] 5))(k:Nat)(hk:k<5):cg h ([eA 12,ki b,eA 13,fo,fo].getD k pH) ([gC,cu 2,gC,aByte 97 b2,cu 211].getD k gC) (CJ k) (CJ (k+1)) (rF k):=by
  match k,hk with
  |0,_=>exact H6 _ rfl
  |1,_=>exact H7 m
  |2,_=>exact H8
  |3,_=>exact cg.holdA (o:=fo) (x:=aByte 97 b2) (rN h) (Ac m2) (da (by decide) (.inl rfl)) (by decide) (by decide) NX (by decide) (Fq (ig (Fo _ _) (rC (by decide))) (ig (ta _ _) Qx) (by decide))
  |4,_=>exact cg.holdA (o:=fo) (x:=cu 211) (rN h) (pZ h 211) (da (by decide) (.inl rfl)) (by decide) (by decide) E1 (by decide) (Ab (ig (ta _ _) (rC (by decide))) (by decide))
noncomputable def JG:Nat→Jd
  |0=>⟨[M0],false,false,false,false⟩
  |1=>⟨[M0],false,true,false,false⟩
  |2=>⟨[M0,M1],true,true,false,false⟩
  |3=>⟨[M0,M1],false,false,false,false⟩
  |_=>⟨[M0],false,false,false,false⟩
def rG:Nat→Int:=fun _=>0
theorem L1(m:h[b]? =some (.cells #[bv 97] 5))(k:Nat)(hk:k<4):cg h ([eA 12,ki b,eA 13,fo].getD k pH) ([gC,cu 2,gC,cu 211].getD k gC) (JG k) (JG (k+1)) (rG k):=by
  match k,hk with
  |0,_=>exact H6 _ rfl
  |1,_=>exact H7 m
  |2,_=>exact H8
  |3,_=>exact cg.holdA (o:=fo) (x:=cu 211) (rN h) (pZ h 211) (da (by decide) (.inl rfl)) (by decide) (by decide) NX (by decide) (Fs (ig (Fo _ _) (NW 211)) (ig (ta _ _) (rC (by decide))) (by decide))
theorem L3:jt rD 2=[(1,2)]:=by decide
theorem L4:jt rE 1=[(0,1)]:=by decide
theorem L5:jt rF 5=[(4,1)]:=by decide
theorem L6:jt rG 4=[]:=by decide
end
theorem kj(h:Heap)(L:List lG)(A:List xt)(n:Nat)(la:Option Addr)(lc:Nat)(xa:Option Addr)(xc:Nat)(Jf:Nat→Jd)(r:Nat→Int)(hl:Row h (.slice la n lc) n 5 (g' L))(hL:L.length =n)(ha:Row h (.slice xa n xc) n 75 (ou A))(hA:A.length =n)(kt:bH h)(hn:n≤1099511627)(hJ0:Jf 0=⟨[M0],false,false,false,false⟩)
    (see:∀k,k<n→cg h (L.getD k pH) (A.getD k gC) (Jf k) (Jf (k+1)) (r k)) (F:List (Int×Int)) (hF:jt r n=F):Sat Tryz.prog 10 #[.slice la n lc, .slice xa n xc] h fun v h'=>∃ad cap,v= .slice ad F.length cap∧Row h' (.slice ad F.length cap) F.length 2 (ez F)∧Ext h h':=by
  subst hF
  exact(wQ h L A n la lc xa xc Jf r hl hL ha hA kt hn hJ0 see).mono fun v h' ⟨ad,cap,e,o,g⟩=>⟨ad,cap,e,o.row,g⟩
theorem lj(h:Heap)(mb mp:Nat)(M:Md)(m:Mod h mb mp M)(kd n:Int)(s:ByteArray)(l:List UInt8)(oa:Option Addr)(oc:Nat)(ka:Option Addr)(kn kc:Nat)(hr:Row h (.slice oa l.length oc) l.length 1 (l.map bv))(hsz:s.size ≤9223372036854775807)(kt:bH h)(hE:M.E.length ≤1099511627)(N:Md)(W:An)(hs:step M kd n s l=(N,W)):
    Sat Tryz.prog 17 #[.pointer (some ⟨mb,0,none⟩), .agg #[.int .i64 kd, .string s, .slice oa l.length oc, .int .i64 n, .slice ka kn kc]] h fun v h'=>∃qa qc ia ic pa pc,v=wk W (.slice qa W.b.length qc) (.slice ia W.i.length ic) (.slice pa W.p.length pc)∧aR h' (.slice qa W.b.length qc) W.b.length 1 (W.b.map bv)∧aR h' (.slice ia W.i.length ic) W.i.length 1 (W.i.map Value.string)∧aR h' (.slice pa W.p.length pc) W.p.length 32 (hcs W.p)∧aB W.p ∧Mod h' mb mp N∧MG mb mp h h':=by
  have:=Fi h mb mp M m kd n s l oa oc ka kn kc hr hsz kt hE W (by rw[hs])
  rw[hs] at this
  exact this
def kz(k:Nat):Int:=4+k
theorem cV{P:Program}{h:Heap}{a:Addr}{L:List lG}{n c k q:Nat}{x:lG}(hx:L.getD k pH=x)(r:Row h (.slice (some a) n c) L.length 5 (g' L)){T:TypeId}(ht:cO P T=some (true,5))(hk:k<L.length)(hq:q=k*5):
    Loads P h T (a.add q) (.agg #[.int .i64 x.kd, .string x.s, .slice x.oa x.l.length x.oc, .int .i64 x.n, .slice x.ka x.kn x.kc]):=by
  subst hx;exact Row.fm (d:=pH) pS r ht hk hq
theorem tM(h:Heap)(mb mp:Nat)(M:Md)(m:Mod h mb mp M)(nb np:Nat)(n:Mod h nb np M)(hl:M.E.length ≤1099511627):Sat Tryz.prog 25 #[.pointer (some ⟨mb,0,none⟩), .pointer (some ⟨nb,0,none⟩)] h fun v h'=>v= .bool true∧Ext h h':=by
  obtain⟨L,ck,ea,ec,es,m⟩:=m
  obtain⟨L2,ck2,lI,ke,es2,n⟩:=n
  exact same_eq h mb mp M L ck ea ec es m nb np M L2 ck2 lI ke es2 n rfl rfl hl
theorem DE(h:Heap)(mb mp:Nat)(M:Md)(m:Mod h mb mp M):Sat Tryz.prog 20 #[.pointer (some ⟨mb,0,none⟩)] h fun v h'=>v= .int .i64 M.t ∧h'=h:=by
  obtain⟨L,ck,ea,ec,es,m⟩:=m
  exact HM h mb mp M L ck ea ec es m
end Go.Proofs.YtegkejcglfgpmaaGreatDoor
end
