/- The walks and the plain laws, part 5: MdlShow, MdlO, RB, TreeF, ChkH, RC, RetU, RetD, RD, RE, RF, RSame, RS, ClonesL, Plays, MdlPlay, PlayL, ReadP, ReadT, TurnL, CountL, RW, RT. Conditions: those that each theorem names. -/
import Derived.Test.YtegkejcglfgpmaaGreatDoorPt4
section
namespace Go.Proofs.YtegkejcglfgpmaaGreatDoor
open Go Go.ai Go.aL
/-! ### the examples: their operations, their answers, what the judge does by each -/
theorem Ak{h:Heap}{b:Nat}{x:UInt8}(m:h[b]? =some (.cells #[bv x] 5)):ay h (.slice (some ⟨b,0,none⟩) 1 1) 1 1 ([x].map bv):=
  ⟨Row.blk (n:=1) (sz:=1) (l:=[x].map bv) m rfl, .inr ⟨b,_,_,_,rfl,m,by decide⟩⟩
@[reducible] def jV(b:Nat):dJ:=⟨1,sA,[97],some ⟨b,0,none⟩,1,0,none,0,0⟩
@[reducible] def fK:dJ:=⟨2,sA,[],none,0,0,none,0,0⟩
@[reducible] def eS(k:Int):dJ:=⟨k,ByteArray.empty,[],none,0,0,none,0,0⟩
@[reducible] def aW(c:Int):dM:=⟨cm c,none,0,none,0,none,0⟩
@[reducible] def aByte(x:UInt8)(b:Nat):dM:=⟨BQ [x],some ⟨b,0,none⟩,1,none,0,none,0⟩
section
variable {h:Heap} {b b2:Nat}
theorem A8(m:h[b]? =some (.cells #[bv 97] 5)):mr h (jV b):=⟨⟨(Ak m).1, .inr fun k e=>by simp only[aZ,Option.some.injEq] at e;subst e;exact aj m⟩,(by decide:sA.size ≤9223372036854775807)⟩
theorem qy(h:Heap):mr h fK:=⟨⟨Row.nil _ _, .inl rfl⟩,by decide⟩
theorem BX(h:Heap):je h eB:=⟨ay.nil _ _,ay.nil _ _,ay.nil _ _,aq.nil⟩
theorem gu(h:Heap)(c:Int):je h (aW c):=⟨ay.nil _ _,ay.nil _ _,ay.nil _ _,aq.nil⟩
theorem yl{x:UInt8}(m:h[b]? =some (.cells #[bv x] 5)):je h (aByte x b):=⟨Ak m,ay.nil _ _,ay.nil _ _,aq.nil⟩
theorem E0:∀M∈[M0],M.E.length ≤1099511627:=fun M hM=>by rw[List.mem_singleton.1 hM];decide
theorem E1:∀M∈[M1],M.E.length ≤1099511627:=fun M hM=>by rw[List.mem_singleton.1 hM,Ai];decide
theorem EX:∀M∈[M0,M1],M.E.length ≤1099511627:=fun M hM=>by
  rcases List.mem_cons.1 hM with rfl|hM
  · decide
  · exact E1 M hM
noncomputable def JD:Nat→Jd
  |0=>⟨[M0],false,false,false,false⟩
  |_=>⟨[M1],false,false,false,false⟩
def rD:Nat→Int
  |1=>2
  |_=>0
theorem Eh(m:h[b]? =some (.cells #[bv 97] 5))(m2:h[b2]? =some (.cells #[bv 98] 5))(k:Nat)(hk:k<2):aU h ([jV b,fK].getD k dX) ([eB,aByte 98 b2].getD k eB) (JD k) (JD (k+1)) (rD k):=by
  match k,hk with
  |0,_=>exact aU.C6 (o:=jV b) (x:=eB) (A8 m) (BX h) (bS (.inl rfl)) (by decide) E0 (by decide) (A7 (g' (BS _) Eg))
  |1,_=>exact aU.holdA (o:=fK) (x:=aByte 98 b2) (qy h) (yl m2) (bO (by decide) (.inl rfl)) E1 (by decide) (uA (g' (yk _ _) BU) (by decide))
def JE:Nat→Jd
  |0=>⟨[M0],false,false,false,false⟩
  |_=>⟨[M0],false,false,false,false⟩
def rE:Nat→Int:=fun _=>1
theorem Ei(h:Heap)(k:Nat)(hk:k<1):aU h ([fK].getD k dX) ([aW 2].getD k eB) (JE k) (JE (k+1)) (rE k):=by
  match k,hk with
  |0,_=>exact aU.holdA (o:=fK) (x:=aW 2) (qy h) (gu h 2) (bO (by decide) (.inl rfl)) E0 (by decide) (uA (g' (BT _ _) (rC (by decide))) (by decide))
noncomputable def Al:Nat→Jd
  |0=>⟨[M0],false,false,false,false⟩
  |1=>⟨[M0],false,true,false,false⟩
  |2=>⟨[M0,M1],true,true,false,false⟩
  |3=>⟨[M0,M1],false,false,false,false⟩
  |_=>⟨[M1],false,false,false,false⟩
def rF:Nat→Int
  |4=>1
  |_=>0
theorem C9(x:dM)(hx:x=eB):aU h (eS 12) x (Al 0) (Al 1) 0:=by
  subst hx
  have:=aU.fuse (h:=h) (o:=eS 12) (x:=eB) (Ms:=[M0]) (o2:=false) (o3:=false) (BX h) rfl
  rw[show au dy eB.X =0 from Eg] at this
  exact this
theorem C_(m:h[b]? =some (.cells #[bv 97] 5)):aU h (jV b) (aW 2) (Al 1) (Al 2) 0:=by
  have e:aG M0 (jV b)=(M1,dy):=BS 0
  have:=aU.power (h:=h) (o:=jV b) (x:=aW 2) (M:=M0) (A8 m) (gu h 2) (bS (.inl rfl)) rfl (by decide) (by rw[e];rfl) (by rw[e,Ai];decide)
  rw[e,EW] at this
  exact this
theorem C':aU h (eS 13) eB (Al 2) (Al 3) 0:=by
  have:=aU.C4 (h:=h) (o:=eS 13) (x:=eB) (Ms:=[M0,M1]) (o1:=true) (o2:=true) (o3:=false) (BX h) rfl
  rw[show au dy eB.X =0 from Eg] at this
  exact this
theorem Ej(m:h[b]? =some (.cells #[bv 97] 5))(m2:h[b2]? =some (.cells #[bv 97] 5))(k:Nat)(hk:k<5):aU h ([eS 12,jV b,eS 13,fK,fK].getD k dX) ([eB,aW 2,eB,aByte 97 b2,aW 211].getD k eB) (Al k) (Al (k+1)) (rF k):=by
  match k,hk with
  |0,_=>exact C9 _ rfl
  |1,_=>exact C_ m
  |2,_=>exact C'
  |3,_=>exact aU.holdA (o:=fK) (x:=aByte 97 b2) (qy h) (yl m2) (bO (by decide) (.inl rfl)) EX (by decide) (BV (g' (BT _ _) (rC (by decide))) (g' (yk _ _) FT) (by decide))
  |4,_=>exact aU.holdA (o:=fK) (x:=aW 211) (qy h) (gu h 211) (bO (by decide) (.inl rfl)) E1 (by decide) (uA (g' (yk _ _) (rC (by decide))) (by decide))
noncomputable def JG:Nat→Jd
  |0=>⟨[M0],false,false,false,false⟩
  |1=>⟨[M0],false,true,false,false⟩
  |2=>⟨[M0,M1],true,true,false,false⟩
  |3=>⟨[M0,M1],false,false,false,false⟩
  |_=>⟨[M0],false,false,false,false⟩
def rG:Nat→Int:=fun _=>0
theorem Ek(m:h[b]? =some (.cells #[bv 97] 5))(k:Nat)(hk:k<4):aU h ([eS 12,jV b,eS 13,fK].getD k dX) ([eB,aW 2,eB,aW 211].getD k eB) (JG k) (JG (k+1)) (rG k):=by
  match k,hk with
  |0,_=>exact C9 _ rfl
  |1,_=>exact C_ m
  |2,_=>exact C'
  |3,_=>exact aU.holdA (o:=fK) (x:=aW 211) (qy h) (gu h 211) (bO (by decide) (.inl rfl)) EX (by decide) (BW (g' (BT _ _) (EW 211)) (g' (yk _ _) (rC (by decide))) (by decide))
theorem El:fC rD 2=[(1,2)]:=by decide
theorem Em:fC rE 1=[(0,1)]:=by decide
theorem En:fC rF 5=[(4,1)]:=by decide
theorem Eo:fC rG 4=[]:=by decide
end
theorem d_(h:Heap)(L:List dJ)(A:List dM)(n:Nat)(la:Option Addr)(lc:Nat)(xa:Option Addr)(xc:Nat)(Jf:Nat→Jd)(r:Nat→Int)(hl:Row h (.slice la n lc) n 5 (dZ L))(hL:L.length =n)(ha:Row h (.slice xa n xc) n 75 (bI A))(hA:A.length =n)(kt:bq h)(hn:n≤1099511627)(hJ0:Jf 0=⟨[M0],false,false,false,false⟩)
    (see:∀k,k<n→aU h (L.getD k dX) (A.getD k eB) (Jf k) (Jf (k+1)) (r k)) (F:List (Int×Int)) (hF:fC r n=F):Sat Tryz.prog 10 #[.slice la n lc, .slice xa n xc] h fun v h'=>∃ad cap,v= .slice ad F.length cap∧Row h' (.slice ad F.length cap) F.length 2 (dA F)∧Ext h h':=by
  subst hF
  refine(vL h L A n n n la lc xa xc Jf r hl hL ha hA kt hn hn ⟨Nat.le_refl _,Nat.le_refl _, .inl rfl⟩ hJ0 see).mono fun v h' ⟨ad,cap,e,o,g⟩=> ?_
  rw[if_pos rfl,List.append_nil] at e o
  exact⟨ad,cap,e,o.row,g⟩
theorem ym(h:Heap)(mb mp:Nat)(M:Md)(m:Mod h mb mp M)(kd n:Int)(s:ByteArray)(l:List UInt8)(oa:Option Addr)(oc:Nat)(ka:Option Addr)(kn kc:Nat)(hr:Row h (.slice oa l.length oc) l.length 1 (l.map bv))(hsz:s.size ≤9223372036854775807)(kt:bq h)(hE:M.E.length ≤1099511627)(N:Md)(W:An)(hs:step M kd n s l=(N,W)):
    Sat Tryz.prog 17 #[.pointer (some ⟨mb,0,none⟩), .agg #[.int .i64 kd, .string s, .slice oa l.length oc, .int .i64 n, .slice ka kn kc]] h fun v h'=>∃qa qc ia ic pa pc,v=pX W (.slice qa W.b.length qc) (.slice ia W.i.length ic) (.slice pa W.p.length pc)∧ay h' (.slice qa W.b.length qc) W.b.length 1 (W.b.map bv)∧ay h' (.slice ia W.i.length ic) W.i.length 1 (W.i.map Value.string)∧ay h' (.slice pa W.p.length pc) W.p.length 32 (hcs W.p)∧aq W.p ∧Mod h' mb mp N∧MG mb mp h h':=by
  have:=qv h mb mp M m kd n s l oa oc ka kn kc hr hsz kt hE W (by rw[hs])
  rw[hs] at this
  exact this
def kz(k:Nat):Int:=4+k
theorem lu{P:Program}{h:Heap}{a:Addr}{L:List dJ}{n c k q:Nat}{x:dJ}(hx:L.getD k dX=x)(r:Row h (.slice (some a) n c) L.length 5 (dZ L)){T:TypeId}(ht:cM P T=some (true,5))(hk:k<L.length)(hq:q=k*5):
    Loads P h T (a.add q) (.agg #[.int .i64 x.kd, .string x.s, .slice x.oa x.l.length x.oc, .int .i64 x.n, .slice x.ka x.kn x.kc]):=by
  subst hx;exact Row.fm (d:=dX) lr r ht hk hq
noncomputable def b9:Code:=Tryz.f9.body.getD .skip
set_option maxHeartbeats 1000000 in
set_option maxRecDepth 10000 in
theorem vM(h:Heap)(kt:bq h):Sat Tryz.prog 9 #[] h fun v h'=>v= .bool true∧Ext h h':=by
 have j:=Ext.refl h
 have a2:=kt.lt
 have b:Sep h.size h.size []:=Sep.nil _ _
 refine ag Tryz.func9 103 fun a B=>qP [] B fun a B=>qS B<|tG 0 (A6 _ (by have:=j.size;omega)) ?_
 rintro _ P ⟨mb,mp,rfl,D,g7,g8,g⟩
 replace j:=j.ext g
 replace kt:=kt.ext g
 replace b:=b.up g.size
 clear g
 have g9:=D.kb
 have o:P.size ≤P.size :=Nat.le_refl _
 refine sT [(1,pV mb)] fun a B=>cS<|qP [(14,.bool false)] B fun a B=>cF 14 B<|cN<|tK<|qS B ?_
 refine tN 0 (.slice (some ⟨P.size,0,none⟩) 1 1) #[.int .u8 97] 5 fun h5 g6 w=> ?_
 have i0:=aj w
 replace b:=b.nw j.size w
 replace o:=Nat.le_trans o g6.size
 refine tN 2 (pV h5.size) #[.int .i64 0,.string ByteArray.empty,.slice none 0 0,.int .i64 0,.slice none 0 0] 35 fun i1 a3 c=> ?_
 replace j:=j.ext g6
 replace b:=b.nw j.size c
 replace o:=Nat.le_trans o a3.size
 refine bt 3 [.int .i64 1,.string (ByteArray.mk #[97]),.slice (some ⟨P.size,0,none⟩) 1 1,.int .i64 0,.slice none 0 0] c fun c5 a0 zq=> ?_
 replace o:=Nat.le_trans o a0.1
 replace D:=(D.ext g6).ext a3
 replace D:=D.aM a0 c (by decide) (by omega)
 replace c:=zq
 refine sT [(2,pV h5.size)] fun a B=>qS B<|tN 1 (pV c5.size) #[.int .i64 0,.string ByteArray.empty,.slice none 0 0,.int .i64 0,.slice none 0 0] 35 fun i2 a1 d=> ?_
 replace j:=(j.ext a3).grew a0 (b.l 0)
 have f9:=o
 replace b:=(b.up a0.size).nw j.size d
 replace o:=Nat.le_trans o a1.size
 refine bt 2 [.int .i64 2,.string (ByteArray.mk #[97]),.slice none 0 0,.int .i64 0,.slice none 0 0] d fun i3 Q zq=> ?_
 replace o:=Nat.le_trans o Q.1
 replace D:=D.ext a1
 replace D:=D.aM Q d (by decide) (by omega)
 replace d:=zq
 refine sT [(3,pV c5.size)] fun a B=>qS B ?_
 replace c:=(c.x a1).y Q (b.bp 1 0)
 refine tR 1 c ?_
 replace kt:=((((kt.ext g6).ext a3).grew a0 (b.zero 1 rfl a2)).ext a1).grew Q (b.zero 0 rfl a2)
 replace w:=(((w.x a3).y a0 (b.bp 2 1)).x a1).y Q (b.bp 2 0)
 refine tG 2 (ym _ mb mp M0 D 1 0 sA [97] (some ⟨P.size,0,none⟩) 1 none 0 0 (Ak w).1 (by decide) kt (by decide) M1 dy (BS 0)) ?_
 rintro _ c6 ⟨c7,c8,c9,d0,d1,d2,rfl,_,_,_,_,m2,C⟩
 replace w:=C.blk w (by omega) (by omega)
 replace c:=C.blk c (by omega) (by omega)
 replace d:=C.blk d (by omega) (by omega)
 replace j:=(j.ext a1).grew Q (b.l 0)
 replace j:=Gr.dD j C (by rintro i (e|e)<;>omega)
 replace kt:=kt.gr C (by rintro(e|e)<;>omega)
 replace b:=b.up Q.size
 replace b:=b.up C.1
 replace o:=Nat.le_trans o C.1
 clear D;have D:=m2;clear m2 C
 refine tN 3 (pV c6.size) ((bY 0).toArray) 47 fun i4 R k=> ?_
 have g0:=o
 replace b:=b.nw j.size k
 replace o:=Nat.le_trans o R.size
 refine bt 4 (bb (0:Int) (.slice c7 0 c8) dF 0 false false (.slice c9 0 d0) (0:Int) dF (0:Int) (.slice d1 0 d2)) k fun i5 M zq=> ?_
 replace o:=Nat.le_trans o M.1
 replace D:=D.ext R
 replace D:=D.aM M k (by decide) (by omega)
 replace k:=zq
 refine sT [(4,pV c6.size)] fun a B=>qS B ?_
 replace d:=(d.x R).y M (b.bp 1 0)
 refine tR 1 d ?_
 replace kt:=(kt.ext R).grew M (b.zero 0 rfl a2)
 refine tG 2 (ym _ mb mp M1 D 2 0 sA [] none 0 none 0 0 (Row.nil _ _) (by decide) kt (by rw[Ai];decide) M1 (BQ [97]) (yk 0 [])) ?_
 rintro _ d3 ⟨d4,d5,d6,d7,d8,d9,rfl,E,_,_,_,m2,C⟩
 replace w:=(w.x R).y M (b.bp 3 0)
 replace w:=C.blk w (by omega) (by omega)
 replace c:=(c.x R).y M (b.bp 2 0)
 replace c:=C.blk c (by omega) (by omega)
 replace d:=C.blk d (by omega) (by omega)
 replace k:=C.blk k (by omega) (by omega)
 replace j:=(j.ext R).grew M (b.l 0)
 replace j:=Gr.dD j C (by rintro i (e|e)<;>omega)
 replace kt:=kt.gr C (by rintro(e|e)<;>omega)
 replace b:=b.up M.size
 replace b:=b.up C.1
 replace o:=Nat.le_trans o C.1
 clear D;have D:=m2;clear m2 C
 refine tN 3 (pV d3.size) ((bY 0).toArray) 47 fun i6 N m=> ?_
 have g1:=o
 replace b:=b.nw j.size m
 refine bt 4 (bb (0:Int) (.slice d4 1 d5) dF 0 false false (.slice d6 0 d7) (0:Int) dF (0:Int) (.slice d8 0 d9)) m fun i7 J zq=> ?_
 replace D:=D.ext N
 replace D:=D.aM J m (by decide) (by omega)
 replace E:=E.ext N
 replace E:=E.aM J m (by decide)
 replace m:=zq
 refine sT [(5,pV d3.size)] fun a B=>qS B ?_
 replace c:=(c.x N).y J (b.bp 3 0)
 refine tR 1 c ?_
 replace kt:=(kt.ext N).grew J (b.zero 0 rfl a2)
 replace w:=(w.x N).y J (b.bp 4 0)
 refine tG 2 (ym _ mb mp M1 D 1 0 sA [97] (some ⟨P.size,0,none⟩) 1 none 0 0 (Ak w).1 (by decide) kt (by rw[Ai];decide) M1 (cm 212) (aM 0)) ?_
 rintro _ e1 ⟨e2,e3,e4,e5,e6,e7,rfl,_,_,_,_,m2,C⟩
 replace w:=C.blk w (by omega) (by omega)
 replace c:=C.blk c (by omega) (by omega)
 replace d:=(d.x N).y J (b.bp 2 0)
 replace d:=C.blk d (by omega) (by omega)
 replace k:=(k.x N).y J (b.bp 1 0)
 replace k:=C.blk k (by omega) (by omega)
 replace m:=C.blk m (by omega) (by omega)
 replace E:=E.vk C D
 replace j:=(j.ext N).grew J (b.l 0)
 replace j:=Gr.dD j C (by rintro i (e|e)<;>omega)
 replace kt:=kt.gr C (by rintro(e|e)<;>omega)
 replace b:=b.up J.size
 replace b:=b.up C.1
 clear D;have D:=m2;clear m2 C
 refine tN 3 (pV e1.size) ((bY 0).toArray) 47 fun i8 O p=> ?_
 replace b:=b.nw j.size p
 refine bt 4 (bb (212:Int) (.slice e2 0 e3) dF 0 false false (.slice e4 0 e5) (0:Int) dF (0:Int) (.slice e6 0 e7)) p fun f5 K zq=> ?_
 replace E:=E.ext O
 replace E:=E.aM K p (by decide)
 replace p:=zq
 refine sT [(6,pV e1.size)] fun a B=>qS B ?_
 replace c:=(c.x O).y K (b.bp 4 0)
 refine tR 0 c ?_
 replace d:=(d.x O).y K (b.bp 3 0)
 refine tR 1 d<|tN 2 (.slice (some ⟨f5.size,0,none⟩) 2 2) #[.int .i64 1,.string (ByteArray.mk #[97]),.slice (some ⟨P.size,0,none⟩) 1 1,.int .i64 0,.slice none 0 0,.int .i64 2,.string (ByteArray.mk #[97]),.slice none 0 0,.int .i64 0,.slice none 0 0] 35 fun b0 L a4=> ?_
 replace j:=(j.ext O).grew K (b.l 0)
 replace b:=(b.up K.size).nw j.size a4
 refine tN 4 (.slice (some ⟨b0.size,0,none⟩) 1 1) #[.int .u8 98] 5 fun f6 H a5=> ?_
 replace j:=j.ext L
 replace b:=b.nw j.size a5
 refine tN 6 (.slice (some ⟨f6.size,0,none⟩) 2 2) ((bI [eB,aByte 98 b0.size]).toArray) 47 fun i9 F c3=> ?_
 replace j:=j.ext H
 replace b:=b.nw j.size c3
 replace kt:=((((kt.ext O).grew K (b.zero 3 rfl a2)).ext L).ext H).ext F
 replace w:=((((w.x O).y K (b.bp 8 3)).x L).x H).x F
 replace a4:=(a4.x H).x F
 replace a5:=a5.x F
 refine tG 7 (d_ _ [jV P.size,fK] [eB,aByte 98 b0.size] 2 _ _ _ _ JD rD (Row.blk (n:=2) (sz:=5) (l:=dZ [jV P.size,fK]) a4 rfl) rfl (Row.blk (n:=2) (sz:=75) (l:=bI [eB,aByte 98 b0.size]) c3 rfl) rfl kt (by decide) rfl (Eh w a5) [(1,2)] El) ?_
 rintro _ f7 ⟨b3,a6,rfl,A,g⟩
 replace k:=((((k.x O).y K (b.bp 5 3)).x L).x H).x F
 replace m:=((((m.x O).y K (b.bp 4 3)).x L).x H).x F
 replace E:=((E.ext L).ext H).ext F
 replace c:=((c.x L).x H).x F
 replace d:=((d.x L).x H).x F
 replace p:=((p.x L).x H).x F
 replace j:=j.ext F
 replace j:=j.ext g
 replace kt:=kt.ext g
 replace E:=E.ext g
 replace w:=w.x g
 replace c:=c.x g
 replace d:=d.x g
 replace k:=k.x g
 replace m:=m.x g
 replace p:=p.x g
 clear g
 clear a4
 clear a5
 clear c3
 clear D
 refine sT [(7,.slice b3 1 a6)] fun a B=>qS B<|tR 0 d<|tN 1 (.slice (some ⟨f7.size,0,none⟩) 1 1) #[.int .i64 2,.string (ByteArray.mk #[97]),.slice none 0 0,.int .i64 0,.slice none 0 0] 35 fun f8 I b1=>tN 3 (.slice (some ⟨f8.size,0,none⟩) 1 1) ((bI [aW 2]).toArray) 47 fun g2 s b5=> ?_
 replace j:=j.ext I
 replace kt:=(kt.ext I).ext s
 replace b1:=b1.x s
 refine tG 4 (d_ _ [fK] [aW 2] 1 _ _ _ _ JE rE (Row.blk (n:=1) (sz:=5) (l:=dZ [fK]) b1 rfl) rfl (Row.blk (n:=1) (sz:=75) (l:=bI [aW 2]) b5 rfl) rfl kt (by decide) rfl (Ei _) [(0,1)] Em) ?_
 rintro _ e8 ⟨a7,T,rfl,G,g⟩
 replace E:=(E.ext I).ext s
 replace A:=(A.ext I).ext s
 replace w:=(w.x I).x s
 replace c:=(c.x I).x s
 replace d:=(d.x I).x s
 replace k:=(k.x I).x s
 replace m:=(m.x I).x s
 replace p:=(p.x I).x s
 replace j:=j.ext s
 replace j:=j.ext g
 replace kt:=kt.ext g
 replace E:=E.ext g
 replace A:=A.ext g
 replace w:=w.x g
 replace c:=c.x g
 replace d:=d.x g
 replace k:=k.x g
 replace m:=m.x g
 replace p:=p.x g
 clear g
 clear b1
 clear b5
 refine sT [(8,.slice a7 1 T)] fun a B=>qS B<|tR 1 c<|tR 3 d<|tR 4 d<|tN 5 (.slice (some ⟨e8.size,0,none⟩) 5 5) #[.int .i64 12,.string ByteArray.empty,.slice none 0 0,.int .i64 0,.slice none 0 0,.int .i64 1,.string (ByteArray.mk #[97]),.slice (some ⟨P.size,0,none⟩) 1 1,.int .i64 0,.slice none 0 0,.int .i64 13,.string ByteArray.empty,.slice none 0 0,.int .i64 0,.slice none 0 0,.int .i64 2,.string (ByteArray.mk #[97]),.slice none 0 0,.int .i64 0,.slice none 0 0,.int .i64 2,.string (ByteArray.mk #[97]),.slice none 0 0,.int .i64 0,.slice none 0 0] 35 fun U t V=>tN 9 (.slice (some ⟨U.size,0,none⟩) 1 1) #[.int .u8 97] 5 fun e9 r W=> ?_
 replace j:=j.ext t
 refine tN 12 (.slice (some ⟨e9.size,0,none⟩) 5 5) ((bI [eB,aW 2,eB,aByte 97 U.size,aW 211]).toArray) 47 fun g3 q b6=> ?_
 replace j:=j.ext r
 replace kt:=((kt.ext t).ext r).ext q
 replace w:=((w.x t).x r).x q
 replace V:=(V.x r).x q
 replace W:=W.x q
 refine tG 13 (d_ _ [eS 12,jV P.size,eS 13,fK,fK] [eB,aW 2,eB,aByte 97 U.size,aW 211] 5 _ _ _ _ Al rF (Row.blk (n:=5) (sz:=5) (l:=dZ [eS 12,jV P.size,eS 13,fK,fK]) V rfl) rfl (Row.blk (n:=5) (sz:=75) (l:=bI [eB,aW 2,eB,aByte 97 U.size,aW 211]) b6 rfl) rfl kt (by decide) rfl (Ej w W) [(4,1)] En) ?_
 rintro _ f0 ⟨a8,X,rfl,S,g⟩
 replace E:=((E.ext t).ext r).ext q
 replace A:=((A.ext t).ext r).ext q
 replace G:=((G.ext t).ext r).ext q
 replace c:=((c.x t).x r).x q
 replace d:=((d.x t).x r).x q
 replace k:=((k.x t).x r).x q
 replace m:=((m.x t).x r).x q
 replace p:=((p.x t).x r).x q
 replace j:=j.ext q
 replace j:=j.ext g
 replace kt:=kt.ext g
 replace E:=E.ext g
 replace A:=A.ext g
 replace G:=G.ext g
 replace w:=w.x g
 replace c:=c.x g
 replace d:=d.x g
 replace k:=k.x g
 replace m:=m.x g
 replace p:=p.x g
 clear g
 clear V
 clear W
 clear b6
 refine sT [(9,.slice a8 1 X)] fun a B=>qS B<|tR 1 c<|tR 3 d<|tN 4 (.slice (some ⟨f0.size,0,none⟩) 4 4) #[.int .i64 12,.string ByteArray.empty,.slice none 0 0,.int .i64 0,.slice none 0 0,.int .i64 1,.string (ByteArray.mk #[97]),.slice (some ⟨P.size,0,none⟩) 1 1,.int .i64 0,.slice none 0 0,.int .i64 13,.string ByteArray.empty,.slice none 0 0,.int .i64 0,.slice none 0 0,.int .i64 2,.string (ByteArray.mk #[97]),.slice none 0 0,.int .i64 0,.slice none 0 0] 35 fun f1 z Y=>tN 9 (.slice (some ⟨f1.size,0,none⟩) 4 4) ((bI [eB,aW 2,eB,aW 211]).toArray) 47 fun g4 u b7=> ?_
 replace j:=j.ext z
 replace kt:=(kt.ext z).ext u
 replace w:=(w.x z).x u
 replace Y:=Y.x u
 refine tG 10 (d_ _ [eS 12,jV P.size,eS 13,fK] [eB,aW 2,eB,aW 211] 4 _ _ _ _ JG rG (Row.blk (n:=4) (sz:=5) (l:=dZ [eS 12,jV P.size,eS 13,fK]) Y rfl) rfl (Row.blk (n:=4) (sz:=75) (l:=bI [eB,aW 2,eB,aW 211]) b7 rfl) rfl kt (by decide) rfl (Ek w) [] Eo) ?_
 rintro _ b8 ⟨c4,b2,rfl,j0,g⟩
 replace E:=(E.ext z).ext u
 replace A:=(A.ext z).ext u
 replace G:=(G.ext z).ext u
 replace S:=(S.ext z).ext u
 replace k:=(k.x z).x u
 replace m:=(m.x z).x u
 replace p:=(p.x z).x u
 replace j:=j.ext u
 replace j:=j.ext g
 replace E:=E.ext g
 replace A:=A.ext g
 replace G:=G.ext g
 replace S:=S.ext g
 replace k:=k.x g
 replace m:=m.x g
 replace p:=p.x g
 clear g
 clear Y
 clear b7
 refine sT [(10,.slice c4 0 b2)] fun a B=>qS B<|tO 1 0 k<|tO 5 1 m<|tC 6 (.string (ByteArray.mk #[97])) (Calm.str (l:=[97]) (by kernel_rfl) E.1)<|t1 7 (.bool true) (.bool ((ByteArray.mk #[97]).toList ==(ByteArray.mk #[97]).toList)) (congrArg Value.bool (by simp))<|tO 11 0 p ?_
 refine sT [(11,.bool true)] fun a B=>qS B<|tN 4 (.slice (some ⟨b8.size,0,none⟩) 1 1) #[.int .i64 1,.int .i64 2] 52 fun c0 Z f2=> ?_
 replace A:=A.ext Z
 refine tC 5 (.bool true) (Does.call (f:=14) (args:= #[.slice b3 1 a6,.slice (some ⟨b8.size,0,none⟩) 1 1]) (by kernel_rfl) (fV _ (1,2) _ _ _ _ A (Row.blk (n:=1) (sz:=2) (l:=dA [(1,2)]) f2 rfl)))<|tN 10 (.slice (some ⟨c0.size,0,none⟩) 1 1) #[.int .i64 0,.int .i64 1] 52 fun c1 a9 f3=> ?_
 replace j:=j.ext Z
 replace G:=(G.ext Z).ext a9
 refine tC 11 (.bool true) (Does.call (f:=14) (args:= #[.slice a7 1 T,.slice (some ⟨c0.size,0,none⟩) 1 1]) (by kernel_rfl) (fV _ (0,1) _ _ _ _ G (Row.blk (n:=1) (sz:=2) (l:=dA [(0,1)]) f3 rfl)))<|tN 16 (.slice (some ⟨c1.size,0,none⟩) 1 1) #[.int .i64 4,.int .i64 1] 52 fun g5 c2 f4=> ?_
 replace j:=j.ext a9
 replace S:=((S.ext Z).ext a9).ext c2
 refine tC 17 (.bool true) (Does.call (f:=14) (args:= #[.slice a8 1 X,.slice (some ⟨c1.size,0,none⟩) 1 1]) (by kernel_rfl) (fV _ (4,1) _ _ _ _ S (Row.blk (n:=1) (sz:=2) (l:=dA [(4,1)]) f4 rfl)))<|sT [(0,.bool true)] fun a B=>cR<|rT 0 (.bool true) B ?_
 replace j:=j.ext c2
 exact⟨rfl,j⟩
noncomputable def b16:Code:=Tryz.f16.body.getD .skip
theorem BY(h:Heap)(hk0:0<h.size):Sat Tryz.prog 16 #[] h fun v h'=>∃b,v= .pointer (some ⟨b,0,none⟩)∧bC (fun _=>False) h' b ⟨fun _=>none,[],0⟩∧h.size ≤b∧Ext h h':=by
 have d:=Ext.refl h
 refine ag Tryz.func16 3 fun a c=>qP [] c fun a c=>qS c<|tN 1 (pV h.size) #[.slice none 0 0,.slice none 0 0,.int .i64 0] 86 fun g e f=>sT [(0,pV h.size)] fun a c=>cR<|rT 0 (pV h.size) c ?_
 replace d:=d.ext e
 exact⟨_,rfl,bE.new f hk0,Nat.le_refl _,d⟩
noncomputable def b21:Code:=Tryz.f21.body.getD .skip
noncomputable def b46:Code:=Tryz.f46.body.getD .skip
theorem vN(h:Heap)(x:RB)(e:Int)(ho go:Bool)(c:Value):Sat Tryz.prog 46 #[.agg (rc x e ho go (c)).toArray] h fun v h'=>v= .agg (wa x e ho go).toArray ∧Ext h h':=by
 have f:=Ext.refl h
 have b:Sep h.size h.size []:=Sep.nil _ _
 refine ag Tryz.func46 16 fun a g=>qS g<|tN 0 (pV h.size) ((rc x e ho go (c)).toArray) 95 fun j m d=> ?_
 replace b:=b.nw f.size d
 refine tN 1 (pV j.size) ((wa dF 0 false false).toArray) 41 fun p k i=> ?_
 replace f:=f.ext m
 replace b:=b.nw f.size i
 refine sT [(1,pV h.size),(2,pV j.size)] fun a g=>qS g ?_
 replace d:=d.x k
 refine tO 1 1 d<|tQ 3 2 ((hl x).map bv) d<|tO 5 34 d<|tO 7 35 d<|tO 9 36 d<|tO 11 37 d<|bt 13 (wa x e ho go) i fun q n o=> ?_
 replace i:=o
 refine sT [] fun a g=>cR<|rB i g ?_
 replace f:=(f.ext k).grew n (b.l 0)
 exact⟨rfl,f⟩
noncomputable def b78:Code:=Tryz.f78.body.getD .skip
theorem lv {W:Nat→Prop}(h:Heap)(rb:Nat)(M:Md)(T:List RO)(oa:Option Addr)(oc:Nat)(ea:Option Addr)(ec:Nat)(es:List Value)(md:bE W h rb M T oa oc ea ec es)(s:ByteArray)(k:Nat)(r:Bool)(hat:AtP T s k r)(hE:M.E.length ≤1099511627):Sat Tryz.prog 78 #[.pointer (some ⟨rb,0,none⟩),.string s] h fun v h'=>v= .tuple #[.int .i64 ((k:Nat):Int),.bool r]∧h'=h:=by
 have hm:=md.hm
 have t:=md.ln
 refine ag Tryz.func78 50 fun a c=>qP [] c fun a c=>qP [(6,.int .i64 0)] c fun a c=>cS<|cB 0<|cL (fun m a h'=>∃i:Nat,m=k - i∧(h=h')∧(i≤k)∧(Fr a 50 [(0,.pointer (some ⟨rb,0,none⟩)),(1,.string s),(6,.int .i64 ((i:Nat):Int))])) (k - 0) ⟨0,rfl,rfl,(Nat.zero_le _),c.to⟩ ?_
 clear c a
 rintro m a y ⟨i,rfl,u,w,c⟩
 subst u
 refine cS<|cS ?_
 rcases hat.step w with⟨g,l,x,n,j⟩|⟨g,l,q⟩|⟨g,l,x,n,j,q⟩
 ·have e:=c
  obtain⟨d,rfl,f⟩:=md.row.1.bf (by omega)
  have c:=e;clear e
  refine rS c<|tO 4 0 (md.hm)<|tT 6 (((i:Nat):Int)<((T.length :Nat):Int))<|tO 11 0 (md.hm)<|tI 13 d T.length 40 i (i*40)<|t1 14 (.pointer (some (Addr.add d (i*40)))) (.pointer (some ((Addr.add d (i*40)).add 0))) (by rw[add_add,Nat.add_zero])<|t1 15 (.pointer (some (Addr.add d (i*40)))) (.pointer (some ((Addr.add d (i*40)).add 0))) (by rw[add_add,Nat.add_zero]) ?_
  refine tC 16 (.string x.o.b.id) (Calm.load (T:=9) (p:=(Addr.add d (i*40))) (by kernel_rfl) (Loads.one (k:=1) (by kernel_rfl) (Row.xt (md.row.1) n)))<|t1 18 (.bool true) (.bool (Op.bytesLess x.o.b.id.toList s.toList)) (congrArg Value.bool (wR j))<|sE [(26,.bool true)] fun a c=>tK<|cT 26 c<|cN<|tK ?_
  refine cB 1<|rS c<|tA 1 i 1<|sE [(6,nV (i+1))] fun a c=>bK ?_
  show ∃m',m'<_∧_
  refine⟨_,?_,(i+1),rfl,rfl,(by omega),c.to⟩
  omega
 ·refine rS c<|tO 4 0 (md.hm)<|tX 6 (((i:Nat):Int)<((T.length :Nat):Int))<|sE [(26,.bool false)] fun a c=>tK<|cF 26 c<|cX 0 (xT (xT (xB ?_)))
  refine tK<|cS<|cD [0,0,0,4,12,28,60,126,254,510,1022,2046,4094,510,16382,32766,65534,131070,510,524286,1048574,511,4194303] 4 mixed c<|mP 31 [0,1,2,3,4] [nV i,nV i,pV rb,pV rb,pV rb]<|mO 63 32 5 0 (.slice oa T.length oc) (md.hm)<|mP 127 [6] [nV T.length]<|Ex 255 7 (((i:Nat):Int)<((T.length :Nat):Int)) ?_
  refine mP 8388607 [8,9,10,11,12,13,14,15,16,17,18,19,20,21,22] [.bool false,undef,undef,undef,undef,undef,undef,undef,undef,undef,undef,undef,.bool false,nV i,.bool false]<|mE [(4,nV i),(5,.bool false)] fun a c=>tK<|cR<|aA [.tmp 4,.tmp 5] [.int .i64 ((i:Nat):Int),.bool false] (.tuple #[.int .i64 ((i:Nat):Int),.bool false]) rfl c ⟨rfl,rfl,trivial⟩ rfl ?_
  subst g
  exact⟨by rw[q],rfl⟩
 ·have e:=c
  obtain⟨d,rfl,f⟩:=md.row.1.bf (by omega)
  have c:=e;clear e
  refine rS c<|tO 4 0 (md.hm)<|tT 6 (((i:Nat):Int)<((T.length :Nat):Int))<|tO 11 0 (md.hm)<|tI 13 d T.length 40 i (i*40)<|t1 14 (.pointer (some (Addr.add d (i*40)))) (.pointer (some ((Addr.add d (i*40)).add 0))) (by rw[add_add,Nat.add_zero])<|t1 15 (.pointer (some (Addr.add d (i*40)))) (.pointer (some ((Addr.add d (i*40)).add 0))) (by rw[add_add,Nat.add_zero]) ?_
  refine tC 16 (.string x.o.b.id) (Calm.load (T:=9) (p:=(Addr.add d (i*40))) (by kernel_rfl) (Loads.one (k:=1) (by kernel_rfl) (Row.xt (md.row.1) n)))<|t1 18 (.bool false) (.bool (Op.bytesLess x.o.b.id.toList s.toList)) (congrArg Value.bool (tB j))<|sE [(26,.bool false)] fun a c=>tK<|cF 26 c<|cX 0 (xT (xT (xB ?_)))
  refine tK<|cS<|cD [0,0,0,4,12,28,60,126,254,510,1022,2046,4094,510,16382,32766,65534,131070,510,524286,1048574,511,4194303] 4 mixed c<|mP 31 [0,1,2,3,4] [nV i,nV i,pV rb,pV rb,pV rb]<|mO 63 32 5 0 (.slice (some d) T.length oc) (md.hm)<|mP 127 [6] [nV T.length]<|Ew 255 7 (((i:Nat):Int)<((T.length :Nat):Int)) ?_
  refine mP 4095 [8,9,10,11] [.bool true,pV rb,pV rb,pV rb]<|mO 8191 4128 12 0 (.slice (some d) T.length oc) (md.hm)<|mP 16383 [13] [nV i]<|mI 32767 14 d T.length 40 i (i*40)<|m1 65535 15 (.pointer (some (Addr.add d (i*40)))) (.pointer (some ((Addr.add d (i*40)).add 0))) (by rw[add_add,Nat.add_zero])<|m1 131071 16 (.pointer (some (Addr.add d (i*40)))) (.pointer (some ((Addr.add d (i*40)).add 0))) (by rw[add_add,Nat.add_zero])<|mL 262143 135200 17 (.string x.o.b.id) (Calm.load (T:=9) (p:=(Addr.add d (i*40))) (by kernel_rfl) (Loads.one (k:=1) (by kernel_rfl) (Row.xt (md.row.1) n))) ?_
  refine mP 524287 [18] [.string s]<|m1 1048575 19 (.bool r) (.bool (x.o.b.id.toList ==s.toList)) (congrArg Value.bool ((jE _ _).trans q))<|mP 8388607 [20,21,22] [.bool r,nV i,.bool r]<|mE [(4,nV i),(5,.bool r)] fun a c=>tK<|cR<|aA [.tmp 4,.tmp 5] [.int .i64 ((i:Nat):Int),.bool r] (.tuple #[.int .i64 ((i:Nat):Int),.bool r]) rfl c ⟨rfl,rfl,trivial⟩ rfl ?_
  subst g
  exact⟨rfl,rfl⟩
noncomputable def b80:Code:=Tryz.f80.body.getD .skip
theorem ew {W:Nat→Prop}(h:Heap)(rb:Nat)(M:Md)(T:List RO)(oa:Option Addr)(oc:Nat)(ea:Option Addr)(ec:Nat)(es:List Value)(md:bE W h rb M T oa oc ea ec es)(s:ByteArray)(hsz:s.size ≤9223372036854775807)(q:Nat)(e:Int)(hq:Fz T s q e)(hE:M.E.length ≤1099511627):Sat Tryz.prog 80 #[.pointer (some ⟨rb,0,none⟩),.string s] h fun v h'=>v= .tuple #[.int .i64 ((q:Nat):Int),.int .i64 e]∧h'=h:=by
 refine ag Tryz.func80 20 fun a b=>qP [] b fun a b=>cS<|cS ?_
 rcases hq with⟨c,rfl,rfl⟩|⟨c,⟨k,d⟩,rfl,rfl⟩|⟨c,d,rfl⟩
 ·refine rS b<|tC 1 (.bool false) (Does.call (f:=27) (args:= #[.string s]) (by kernel_rfl) (ml _ s hsz c))<|sE [(10,.bool true)] fun a b=>tK<|cT 10 b<|qP [(4,.int .i64 0),(5,.int .i64 210)] b fun a b=>cR (yT ?_)
  exact aA [.tmp 4,.tmp 5] [.int .i64 0,.int .i64 210] (.tuple #[.int .i64 0,.int .i64 210]) rfl b ⟨rfl,rfl,trivial⟩ rfl<|⟨rfl,rfl⟩
 ·refine rS b<|tC 1 (.bool true) (Does.call (f:=27) (args:= #[.string s]) (by kernel_rfl) (eu _ s c))<|sE [(10,.bool false)] fun a b=>tK<|cF 10 b<|cN<|tK ?_
  refine qS b<|tC 2 (.tuple #[nV k,.bool false]) (Does.call (f:=78) (args:= #[pV rb,.string s]) (by kernel_rfl) (lv _ rb M T oa oc ea ec es md s k false d hE))<|sT [(6,nV k),(7,.bool false)] fun a b=>cS<|qP [(18,.bool true)] b fun a b=>cT 18 b<|qP [(4,.int .i64 0),(5,.int .i64 211)] b fun a b=> ?_
  refine cR (yT ?_)
  exact aA [.tmp 4,.tmp 5] [.int .i64 0,.int .i64 211] (.tuple #[.int .i64 0,.int .i64 211]) rfl b ⟨rfl,rfl,trivial⟩ rfl<|⟨rfl,rfl⟩
 ·refine rS b<|tC 1 (.bool true) (Does.call (f:=27) (args:= #[.string s]) (by kernel_rfl) (eu _ s c))<|sE [(10,.bool false)] fun a b=>tK<|cF 10 b<|cN<|tK ?_
  refine qS b<|tC 2 (.tuple #[nV q,.bool true]) (Does.call (f:=78) (args:= #[pV rb,.string s]) (by kernel_rfl) (lv _ rb M T oa oc ea ec es md s q true d hE))<|sT [(6,nV q),(7,.bool true)] fun a b=>cS<|qP [(18,.bool false)] b fun a b=>cF 18 b<|cN ?_
  exact tK<|qP [(4,nV q),(5,.int .i64 0)] b fun a b=>cR<|aA [.tmp 4,.tmp 5] [.int .i64 ((q:Nat):Int),.int .i64 0] (.tuple #[.int .i64 ((q:Nat):Int),.int .i64 0]) rfl b ⟨rfl,rfl,trivial⟩ rfl<|⟨rfl,rfl⟩
noncomputable def b84:Code:=Tryz.f84.body.getD .skip
theorem mu {W:Nat→Prop}(h:Heap)(rb:Nat)(M:Md)(A B:List RO)(x:RO)(oa:Option Addr)(oc:Nat)(ea:Option Addr)(ec:Nat)(es:List Value)(md:bE W h rb M (A++x::B) oa oc ea ec es)(e:Int)(ho go:Bool)(ca:Option Addr)(cc:Nat)(hr:Row h (.slice ca 0 cc) 0 4 (dr []))(hE:M.E.length ≤1099511627):Sat Tryz.prog 84 #[.pointer (some ⟨rb,0,none⟩),.int .i64 ((A.length :Nat):Int),.agg (rc x.o.b e ho go (.slice ca 0 cc)).toArray] h fun _ h'=>bC W h' rb ⟨upd M.f x.o.b.id ⟨x.o.b,e,ho,go,x.o.dt⟩,M.E,M.t⟩∧RG rb h h':=by
 have hm:=md.hm
 have L:=aj hm
 have N:=md.ln
 have O:A.length <(A++x::B).length :=xr
 have g:=Ext.refl h
 have d:Sep h.size h.size []:=Sep.nil _ _
 refine ag Tryz.func84 23 fun a k=>qS k<|tN 0 (pV h.size) ((rc x.o.b e ho go (.slice ca 0 cc)).toArray) 95 fun F P n=> ?_
 replace d:=d.nw g.size n
 refine sT [(5,pV h.size)] fun a k=>qS k<|tN 1 (.slice (some ⟨F.size,0,none⟩) 0 0) #[] 97 fun J K G=> ?_
 replace g:=g.ext P
 replace d:=d.nw g.size G
 have c:Own J (.slice (some ⟨F.size,0,none⟩) 0 0) 97 ([]:List RO).length 40 (bB []):=Own.empty 40 G
 replace d:Sep h.size J.size [(some ⟨F.size,0,none⟩:Option Addr).map (·.block),some (h.size)]:=d
 replace g:=g.ext K
 replace n:=n.x K
 clear G
 refine tO 5 0 (g.blk hm)<|tP 6 ((A++x::B).length) 128 (bB (A++x::B)) c (md.row.1.ext g) (et _) (fun Q j R c H p=> ?_) (ys:=(bB (A++x::B))) (hZ:=by first|rfl|exact List.flatMap_append.symm |simp[bB])
 have s:=d
 replace d:=d.sa H 0 p c g.size;clear p
 have u:=k
 obtain⟨r,rfl,v⟩:=c.bf BG
 have k:=u;clear u
 replace g:=g.grew H (s.l 0)
 replace n:=n.y H (s.bp 1 0)
 refine tW 9 0 [.slice (some r) ((A++x::B).length) j] [.slice oa ((A++x::B).length) oc,.slice ea M.E.length ec,.int .i64 M.t] [.slice (some r) ((A++x::B).length) j,.slice ea M.E.length ec,.int .i64 M.t] (g.blk hm) (fun I w z=> ?_)
 have D:RG rb h I:=RG.one g w
 replace c:=c.kept w (by rw[ae];right;intro e;have:=d.low 0 rfl _ e;omega)
 replace n:=w.blk n (fun e=>by have:=d.low 1 rfl _ rfl;cases e;omega)
 replace d:=d.up w.1
 have m:=z;clear z w
 refine sT [] fun a k=>cD [0,1,3,7,0,0,63,127,255] 2 mixed k<|mP 7 [0,1,2] [pV rb,pV rb,pV rb]<|mO 15 8 3 0 (.slice (some r) ((A++x::B).length) j) m<|mP 31 [4] [nV A.length]<|mR 63 40 5 n<|mI 127 6 r ((A++x::B).length) 40 A.length (A.length *40) ?_
 refine m1 255 7 (.pointer (some (Addr.add r (A.length *40)))) (.pointer (some ((Addr.add r (A.length *40)).add 0))) (by rw[add_add,Nat.add_zero])<|i' 511 511 8 (Does.cH (a:=r) (q:=A.length *40) (vs:=(rc x.o.b e ho go (.slice ca 0 cc))) (by kernel_rfl) c (by show A.length *40+39≤(A++x::B).length *40;simp;omega) (dU ⟨x.o.b,e,ho,go,ca,0,cc⟩)) ?_
 rintro _ S ⟨rfl,c,C⟩
 rw[vq] at c
 refine mE [] fun a k=>n0 k ?_
 replace D:=D.bX C (fun i e=> .inr (by have:=d.low 0 rfl i e;omega))
 replace m:=C.blk m (fun e=>by have:=d.low 0 rfl _ e.symm;omega)
 exact⟨md.set D m (jN.of c) rfl rfl rfl rfl (hr.zero rfl),D⟩
noncomputable def b42:Code:=Tryz.f42.body.getD .skip
theorem mv(h:Heap)(L:List Hs)(va:Option Addr)(vc n:Nat)(hL:HR h va vc n L)(hn:n≤1099511627000)(ih:∀(h':Heap) (L':List Hs) (Da:Option Addr) (Db n':Nat),n'<n→HR h' Da Db n' L'→Sat Tryz.prog 42 #[.slice Da n' Db] h' fun v k=>v=hv (root L')∧Ext h' k):Sat Tryz.prog 42 #[.slice va n vc] h fun v h'=>v=hv (root L)∧Ext h h':=by
 have z:=hL.2.2
 have c:=Ext.refl h
 have g:Sep h.size h.size []:=Sep.nil _ _
 refine ag Tryz.func42 26 fun a d=>qS d<|tN 0 (pV h.size) ((z32.map bv).toArray) 39 fun I A e=> ?_
 replace g:=g.nw c.size e
 refine sT [(2,pV h.size)] fun a d=>cS<|qP [(6,.bool (decide (((n:Nat):Int)=(0:Int))))] d fun a d=>cJ 6 d (fun B=> ?_) fun B=> ?_
 ·refine qS d<|tG 0 (rV _ [] 0 none 0 (Row.nil _ 1) rfl (by decide)) ?_
  rintro _ J ⟨rfl,G⟩
  replace e:=e.x G
  refine tF 1 (Does.store (b:=h.size) (off:=0) (vs:=(sha []).map bv) (l:=z32.map bv) (bw (by kernel_rfl) (hlm rfl)) e (hfit rfl rfl) (aB _)) ?_
  rintro _ H ⟨rfl,i⟩
  have K:Grew (some (h.size)) J H:=bD i
  replace e:H[h.size]? =some (.cells ((sha []).map bv).toArray 39):=bR (off:=0) (vs:=(sha []).map bv) (l:=(z32.map bv)) i (cA rfl rfl) e
  clear i
  refine sT [] fun a d=>cR (yT ?_)
  refine aA [.cell 2 39] [.agg ((sha []).map bv).toArray] (.agg ((sha []).map bv).toArray) rfl d ⟨⟨_,rfl,Loads.hash (by kernel_rfl) rfl e⟩,trivial⟩ rfl ?_
  replace c:=((c.ext A).ext G).grew K (g.l 0)
  exact⟨congrArg hv (uY (by omega)),c⟩
 ·refine cN<|tK<|cS<|qP [(10,.bool (decide (((n:Nat):Int)=(1:Int))))] d fun a d=>cJ 10 d (fun C=> ?_) fun C=> ?_
  ·obtain⟨j,rfl,o⟩:=hL.bf (by omega)
   refine qS d<|tI 1 j n 32 0 0 ?_
   replace c:=c.ext A
   refine tC 2 (.agg ((L.getD 0 []).map bv).toArray) (Calm.load (T:=39) (p:=j) (by kernel_rfl) (HR.loads (k:=0) (q:=0) (hL.ext c) (by kernel_rfl) (by omega) (by omega)))<|tF 3 (Does.store (b:=h.size) (off:=0) (vs:=(L.getD 0 []).map bv) (l:=z32.map bv) (bw (by kernel_rfl) (hlm (hL.2.1.get (k:=0) (by rw[hL.2.2];omega)))) e (hfit rfl (hL.2.1.get (k:=0) (by rw[hL.2.2];omega))) (aB _)) ?_
   rintro _ r ⟨rfl,i⟩
   have D:Grew (some (h.size)) I r:=bD i
   replace e:r[h.size]? =some (.cells ((L.getD 0 []).map bv).toArray 39):=bR (off:=0) (vs:=(L.getD 0 []).map bv) (l:=(z32.map bv)) i (cA rfl (hL.2.1.get (k:=0) (by rw[hL.2.2];omega))) e
   clear i
   refine sT [] fun a d=>cR (yT ?_)
   refine aA [.cell 2 39] [.agg ((L.getD 0 []).map bv).toArray] (.agg ((L.getD 0 []).map bv).toArray) rfl d ⟨⟨_,rfl,Loads.hash (by kernel_rfl) (hL.2.1.get (k:=0) (by rw[hL.2.2];omega)) e⟩,trivial⟩ rfl ?_
   replace c:=c.grew D (g.l 0)
   exact⟨congrArg hv (uZ (by omega)),c⟩
  ·obtain⟨j,rfl,o⟩:=hL.bf (by omega)
   have M:=eA (n:=n) (by omega)
   have N:=dT n
   obtain⟨s,m⟩:∃x,x=if vc=half n then (some j:Option Addr) else (some j:Option Addr).map (·.add (half n*32)):=⟨_,rfl⟩
   refine cN<|tK<|qS d<|tC 2 (nV (half n)) (Does.call (f:=87) (args:= #[nV n]) (by kernel_rfl) (nN _ n (by omega) (by omega)))<|sT [(3,nV (half n))] fun a d=>cS<|cD [0,0,3,7,0,0,48,127,255,511] 6 mixed d ?_
   refine mP 3 [0,1] [.slice (some j) n vc,nV (half n)]<|mF 7 2 (.slice (some j) (half n) vc) (fun h=>Calm.cn (a:=(some j)) (len:=n) (cap:=vc) (sz:=32) (x:=(some j)) 0 (half n) vc (half n) vc (by kernel_rfl) (.inl ⟨rfl,rfl⟩) (.inr rfl) (.inl ⟨rfl,rfl⟩) (by omega) (by omega) (fl _ 32) (by first|rfl|omega) (by first|rfl|omega) h)<|mP 55 [4,5] [.slice (some j) n vc,nV (half n)]<|mF 119 6 (.slice s (n - half n) (vc - half n)) (fun h=>Calm.cn (a:=(some j)) (len:=n) (cap:=vc) (sz:=32) (x:=s) (half n) n vc (n - half n) (vc - half n) (by kernel_rfl) (.inl ⟨rfl,rfl⟩) (.inl ⟨rfl,rfl⟩) (.inr rfl) (by omega) (by omega) m (by first|rfl|omega) (by first|rfl|omega) h) ?_
   replace c:=c.ext A
   refine gC 127 15 3 (ih _ (L.take (half n)) _ _ (half n) (by omega) ((hL.ext c).take (k:=half n) (by omega))) ?_
   rintro _ O ⟨rfl,t⟩
   replace c:=c.ext t
   refine gC 255 255 7 (ih _ (L.drop (half n)) _ _ (n - half n) (by omega) ((hL.ext c).drop (by omega) m)) ?_
   rintro _ P ⟨rfl,u⟩
   refine gC 511 511 8 (u' _ (root (L.take (half n))) (root (L.drop (half n))) (bg (hL.2.1.take _)) (bg (hL.2.1.drop _))) ?_
   rintro _ E ⟨rfl,w⟩
   replace e:=((e.x t).x u).x w
   refine i' 1023 1023 9 (Does.store (b:=h.size) (off:=0) (vs:=(cy (root (L.take (half n))) (root (L.drop (half n)))).map bv) (l:=z32.map bv) (bw (by kernel_rfl) (hlm (dh _ _))) e (hfit rfl (dh _ _)) (aB _)) ?_
   rintro _ y ⟨rfl,i⟩
   have F:Grew (some (h.size)) E y:=bD i
   replace e:y[h.size]? =some (.cells ((cy (root (L.take (half n))) (root (L.drop (half n)))).map bv).toArray 39):=bR (off:=0) (vs:=(cy (root (L.take (half n))) (root (L.drop (half n)))).map bv) (l:=(z32.map bv)) i (cA rfl (dh _ _)) e
   clear i
   refine mE [] fun a d=>tK<|cR<|aA [.cell 2 39] [.agg ((cy (root (L.take (half n))) (root (L.drop (half n)))).map bv).toArray] (.agg ((cy (root (L.take (half n))) (root (L.drop (half n)))).map bv).toArray) rfl d ⟨⟨_,rfl,Loads.hash (by kernel_rfl) (dh _ _) e⟩,trivial⟩ rfl ?_
   replace c:=((c.ext u).ext w).grew F (g.l 0)
   exact⟨congrArg hv (u3 z (by omega)),c⟩
theorem nZ:∀(m n:Nat),n≤m→∀(h:Heap) (L:List Hs) (va:Option Addr) (vc:Nat),HR h va vc n L→n≤1099511627000→Sat Tryz.prog 42 #[.slice va n vc] h fun v h'=>v=hv (root L)∧Ext h h'
 |0,n,hm,h,L,va,vc,hL,hn=>mv h L va vc n hL hn fun _ _ _ _ _ hlt _=>by omega
 |m+1,n,hm,h,L,va,vc,hL,hn=>mv h L va vc n hL hn fun _ _ _ _ _ hlt hL'=>nZ m _ (by omega) _ _ _ _ hL' (by omega)
theorem iH(h:Heap)(L:List Hs)(va:Option Addr)(vc n:Nat)(hL:HR h va vc n L)(hn:n≤1099511627000):Sat Tryz.prog 42 #[.slice va n vc] h fun v h'=>v=hv (root L)∧Ext h h':=nZ n n (Nat.le_refl _) h L va vc hL hn
noncomputable def FU:Code:=Tryz.f115.body.getD .skip
theorem qz(h:Heap)(L:List Hs)(va:Option Addr)(vc n:Nat)(hL:HR h va vc n L)(hn:n≤1099511627000)(m:Nat)(hm:m<n)(ih:∀(h':Heap) (L':List Hs) (Da:Option Addr) (Db n' m':Nat),n'<n→m'<n'→HR h' Da Db n' L'→Sat Tryz.prog 115 #[.slice Da n' Db,.int .i64 ((m':Nat):Int)] h' fun v k=>bU h' k 39 v (incl L' m')):Sat Tryz.prog 115 #[.slice va n vc,.int .i64 ((m:Nat):Int)] h fun v h'=>bU h h' 39 v (incl L m):=by
 have u:=hL.2.2
 have d:=Ext.refl h
 have c:Sep h.size h.size []:=Sep.nil _ _
 refine ag Tryz.func115 39 fun a e=>qP [] e fun a e=>cS<|qP [(8,.bool (decide (((n:Nat):Int)=(1:Int))))] e fun a e=>cJ 8 e (fun P=> ?_) fun P=> ?_
 ·refine qP [(4,.slice none 0 0)] e fun a e=>cR (yT ?_)
  exact rT 4 (.slice none 0 0) e<|bU.cast (fO (by omega)).symm (bU.none d)
 ·obtain⟨r,rfl,Y⟩:=hL.bf (by omega)
  have a1:=eA (n:=n) (by omega)
  have a2:=dT n
  obtain⟨w,j⟩:∃x,x=if vc=half n then (some r:Option Addr) else (some r:Option Addr).map (·.add (half n*32)):=⟨_,rfl⟩
  refine cN<|tK<|qS e<|tC 2 (nV (half n)) (Does.call (f:=87) (args:= #[nV n]) (by kernel_rfl) (nN _ n (by omega) (by omega)))<|sT [(5,nV (half n))] fun a e=>cS<|qP [(14,.bool (decide (((m:Nat):Int)<((half n:Nat):Int))))] e fun a e=> ?_
  refine cJ 14 e (fun Q=> ?_) fun Q=> ?_
  ·refine cS<|cD [0,0,3,0,15,0,0,96,255,511,1023,2047] 5 mixed e<|mP 3 [0,1] [.slice (some r) n vc,nV (half n)]<|mF 7 2 (.slice (some r) (half n) vc) (fun h=>Calm.cn (a:=(some r)) (len:=n) (cap:=vc) (sz:=32) (x:=(some r)) 0 (half n) vc (half n) vc (by kernel_rfl) (.inl ⟨rfl,rfl⟩) (.inr rfl) (.inl ⟨rfl,rfl⟩) (by omega) (by omega) (fl _ 32) (by first|rfl|omega) (by first|rfl|omega) h)<|mP 111 [3,5,6] [nV m,.slice (some r) n vc,nV (half n)]<|mF 239 7 (.slice w (n - half n) (vc - half n)) (fun h=>Calm.cn (a:=(some r)) (len:=n) (cap:=vc) (sz:=32) (x:=w) (half n) n vc (n - half n) (vc - half n) (by kernel_rfl) (.inl ⟨rfl,rfl⟩) (.inl ⟨rfl,rfl⟩) (.inr rfl) (by omega) (by omega) j (by first|rfl|omega) (by first|rfl|omega) h) ?_
   have R:=gQ _ (L.take (half n)) m (Nat.le_refl _)
   have S:=((hL.ext d).take (k:=half n) (by omega)).2.2
   refine gC 255 31 4 (ih _ (L.take (half n)) _ _ (half n) m (by omega) (by omega) ((hL.ext d).take (k:=half n) (by omega))) ?_
   rintro _ h7 ⟨a3,Z,rfl,b,T,g5⟩
   replace c:=c.co g5 T b d.size
   replace d:=d.ext g5
   refine gC 511 511 8 (iH _ (L.drop (half n)) _ _ (n - half n) ((hL.ext d).drop (by omega) j) (by omega)) ?_
   rintro _ h9 ⟨rfl,U⟩
   refine i' 1023 1023 9 (Does.newHs (L:=[root (L.drop (half n))]) (t:=45) (E:=39) (db:=32) (n:=1) (by kernel_rfl) (by kernel_rfl) (aq.cons (bg (hL.2.1.drop _)) aq.nil) rfl (by decide) (by decide)) ?_
   rintro _ F ⟨rfl,A⟩
   have G:Ext h9 F:=aT A
   have B:F[h9.size]? =some (.cells (hcs [root (L.drop (half n))]).toArray 39):=bj A
   clear A
   replace d:=d.ext U
   have s:=d.size
   replace c:=c.up U.size
   have o:=c
   replace c:=o.new s (aj B)
   clear o s
   replace b:=(b.ext U).ext G
   refine th 2047 2047 10 ((incl (L.take (half n)) m++[root (L.drop (half n))]).length) 32 (hcs (incl (L.take (half n)) m++[root (L.drop (half n))])) b (hrow1 (bg (hL.2.1.drop _)) B) (di _) (fun p g a4 b H y=> ?_) (ys:=(hcs ([root (L.drop (half n))]))) (hZ:=by first|rfl|exact(aX _ _).symm |simp[aX])
   replace d:=d.ext G
   have V:=c
   replace c:=c.sa H 1 y b d.size;clear y
   clear B
   replace d:=d.grew H (V.l 1)
   replace c:=c.sub (l':=[p.map (·.block)]) (.cons _ (.cons_cons _ (.slnil)))
   refine mP 4095 [11] [.slice p ((incl (L.take (half n)) m++[root (L.drop (half n))]).length) g]<|mE [(4,.slice p ((incl (L.take (half n)) m++[root (L.drop (half n))]).length) g)] fun a e=>tK<|cR (yT ?_)
   exact rT 4 (.slice p ((incl (L.take (half n)) m++[root (L.drop (half n))]).length) g) e<|bU.cast (by have:=kZ (l:=L) (m:=m) (by omega) (by rw[u];omega);rw[u] at this;exact this.symm) ⟨p,g,rfl,b,c.low 0 rfl,d⟩
  ·refine cN<|tK<|cS<|cD [0,0,3,0,0,24,63,0,0,384,1023,2047,4095,8191] 6 mixed e<|mP 3 [0,1] [.slice (some r) n vc,nV (half n)]<|mF 7 2 (.slice w (n - half n) (vc - half n)) (fun h=>Calm.cn (a:=(some r)) (len:=n) (cap:=vc) (sz:=32) (x:=w) (half n) n vc (n - half n) (vc - half n) (by kernel_rfl) (.inl ⟨rfl,rfl⟩) (.inl ⟨rfl,rfl⟩) (.inr rfl) (by omega) (by omega) j (by first|rfl|omega) (by first|rfl|omega) h)<|mP 31 [3,4] [nV m,nV (half n)] ?_
   refine mU 63 5 m (half n)<|mP 447 [7,8] [.slice (some r) n vc,nV (half n)]<|mF 959 9 (.slice (some r) (half n) vc) (fun h=>Calm.cn (a:=(some r)) (len:=n) (cap:=vc) (sz:=32) (x:=(some r)) 0 (half n) vc (half n) vc (by kernel_rfl) (.inl ⟨rfl,rfl⟩) (.inr rfl) (.inl ⟨rfl,rfl⟩) (by omega) (by omega) (fl _ 32) (by first|rfl|omega) (by first|rfl|omega) h) ?_
   have R:=gQ _ (L.drop (half n)) (m - half n) (Nat.le_refl _)
   have S:=((hL.ext d).drop (by omega) j).2.2
   refine gC 1023 127 6 (ih _ (L.drop (half n)) _ _ (n - half n) (m - half n) (by omega) (by omega) ((hL.ext d).drop (by omega) j)) ?_
   rintro _ a5 ⟨a0,W,rfl,b,I,J⟩
   replace c:=c.co J I b d.size
   replace d:=d.ext J
   refine gC 2047 2047 10 (iH _ (L.take (half n)) _ _ (half n) ((hL.ext d).take (k:=half n) (by omega)) (by omega)) ?_
   rintro _ K ⟨rfl,C⟩
   refine i' 4095 4095 11 (Does.newHs (L:=[root (L.take (half n))]) (t:=45) (E:=39) (db:=32) (n:=1) (by kernel_rfl) (by kernel_rfl) (aq.cons (bg (hL.2.1.take _)) aq.nil) rfl (by decide) (by decide)) ?_
   rintro _ M ⟨rfl,A⟩
   have N:Ext K M:=aT A
   have D:M[K.size]? =some (.cells (hcs [root (L.take (half n))]).toArray 39):=bj A
   clear A
   replace d:=d.ext C
   have s:=d.size
   replace c:=c.up C.size
   have o:=c
   replace c:=o.new s (aj D)
   clear o s
   replace b:=(b.ext C).ext N
   refine th 8191 8191 12 ((incl (L.drop (half n)) (m - half n)++[root (L.take (half n))]).length) 32 (hcs (incl (L.drop (half n)) (m - half n)++[root (L.take (half n))])) b (hrow1 (bg (hL.2.1.take _)) D) (di _) (fun q i a6 b O z=> ?_) (ys:=(hcs ([root (L.take (half n))]))) (hZ:=by first|rfl|exact(aX _ _).symm |simp[aX])
   replace d:=d.ext N
   have X:=c
   replace c:=c.sa O 1 z b d.size;clear z
   clear D
   replace d:=d.grew O (X.l 1)
   replace c:=c.sub (l':=[q.map (·.block)]) (.cons _ (.cons_cons _ (.slnil)))
   exact mP 16383 [13] [.slice q ((incl (L.drop (half n)) (m - half n)++[root (L.take (half n))]).length) i]<|mE [(4,.slice q ((incl (L.drop (half n)) (m - half n)++[root (L.take (half n))]).length) i)] fun a e=>tK<|cR<|rT 4 (.slice q ((incl (L.drop (half n)) (m - half n)++[root (L.take (half n))]).length) i) e<|bU.cast (by have:=k_ (l:=L) (m:=m) (by omega) (by rw[u];omega);rw[u] at this;exact this.symm) ⟨q,i,rfl,b,c.low 0 rfl,d⟩
theorem mw:∀(k n:Nat),n≤k→∀(h:Heap) (L:List Hs) (va:Option Addr) (vc m:Nat),m<n→HR h va vc n L→n≤1099511627000→Sat Tryz.prog 115 #[.slice va n vc,.int .i64 ((m:Nat):Int)] h fun v h'=>bU h h' 39 v (incl L m)
 |0,n,hk,h,L,va,vc,m,hm,hL,hn=>by omega
 |k+1,n,hk,h,L,va,vc,m,hm,hL,hn=>qz h L va vc n hL hn m hm fun _ _ _ _ _ _ hlt hm' hL'=>mw k _ (by omega) _ _ _ _ _ hm' hL' (by omega)
theorem sG(h:Heap)(L:List Hs)(va:Option Addr)(vc n:Nat)(hL:HR h va vc n L)(hn:n≤1099511627000)(m:Nat)(hm:m<n):Sat Tryz.prog 115 #[.slice va n vc,.int .i64 ((m:Nat):Int)] h fun v h'=>bU h h' 39 v (incl L m):=mw n n (Nat.le_refl _) h L va vc m hm hL hn
noncomputable def b85:Code:=Tryz.f85.body.getD .skip
theorem vO(h:Heap)(L:List Hs)(va:Option Addr)(vc n:Nat)(hL:HR h va vc n L)(hn:n≤1099511627000)(m:Int):Sat Tryz.prog 85 #[.slice va n vc,.int .i64 m] h fun v h'=>∃s,v= .tuple #[s,.int .i64 (cO L m).2]∧bU h h' 39 s (cO L m).1 :=by
 have r:=hL.2.2
 have f:=Ext.refl h
 have g:Sep h.size h.size []:=Sep.nil _ _
 refine ag Tryz.func85 17 fun a b=>qP [] b fun a b=>cS<|cS ?_
 have i:m<0∨(n:Int)≤m∨∃k:Nat,m=(k:Int)∧k<n:=by
  rcases Int.lt_or_le m 0 with o|o
  ·exact .inl o
  ·rcases Int.lt_or_le m n with p|p
   ·exact .inr (.inr ⟨m.toNat,by omega,by omega⟩)
   ·exact .inr (.inl p)
 rcases i with j|j|⟨k,rfl,t⟩
 ·refine rS b<|tT 1 (m<(0:Int))<|sE [(13,.bool true)] fun a b=>tK<|cT 13 b<|qP [(4,.slice none 0 0),(5,.int .i64 50)] b fun a b=>cR (yT ?_)
  refine aA [.tmp 4,.tmp 5] [.slice none 0 0,.int .i64 50] (.tuple #[.slice none 0 0,.int .i64 50]) rfl b ⟨rfl,rfl,trivial⟩ rfl ?_
  rw[js (by omega)];exact⟨_,rfl,bU.none f⟩
 ·refine rS b<|tX 1 (m<(0:Int))<|tT 6 (((n:Nat):Int)≤m)<|sE [(13,.bool true)] fun a b=>tK<|cT 13 b<|qP [(4,.slice none 0 0),(5,.int .i64 50)] b fun a b=> ?_
  refine cR (yT ?_)
  refine aA [.tmp 4,.tmp 5] [.slice none 0 0,.int .i64 50] (.tuple #[.slice none 0 0,.int .i64 50]) rfl b ⟨rfl,rfl,trivial⟩ rfl ?_
  rw[js (by omega)];exact⟨_,rfl,bU.none f⟩
 ·refine rS b<|tX 1 (((k:Nat):Int)<(0:Int))<|tX 6 (((n:Nat):Int)≤((k:Nat):Int))<|sE [(13,.bool false)] fun a b=>tK<|cF 13 b<|cN ?_
  refine tK<|qS b<|tG 2 (sG _ L _ _ _ (hL.ext f) (by omega) k (by omega)) ?_
  rintro _ u ⟨e,c,rfl,d,l,q⟩
  replace g:=g.co q l d f.size
  refine sT [(4,.slice e ((incl L k).length) c),(5,.int .i64 0)] fun a b=>cR<|aA [.tmp 4,.tmp 5] [.slice e ((incl L k).length) c,.int .i64 0] (.tuple #[.slice e ((incl L k).length) c,.int .i64 0]) rfl b ⟨rfl,rfl,trivial⟩ rfl ?_
  replace f:=f.ext q
  rw[nE (by omega)];exact⟨_,rfl,e,c,rfl,d,g.low 0 rfl,f⟩
noncomputable def FV:Code:=Tryz.f134.body.getD .skip
set_option maxHeartbeats 1000000 in
theorem qA(h:Heap)(b:List UInt8)(n:Nat)(hbn:b.length =n)(va:Option Addr)(vc:Nat)(hr:Row h (.slice va n vc) n 1 (b.map bv))(hbl:n≤1099511627000)(N:Nat)(hN:fv n=N):Sat Tryz.prog 134 #[.slice va n vc] h fun v h'=>zw h h' 32 v b N:=by
 have U:N≤n:=hN▸lZ n
 have V:=hr.w4
 have o:=Ext.refl h
 have c:Sep h.size h.size []:=Sep.nil _ _
 refine ag Tryz.func134 26 fun a p=>qP [] p fun a p=>qS p<|tN 0 (.slice (some ⟨h.size,0,none⟩) 0 0) #[] 32 fun H W I=> ?_
 replace c:=c.nw o.size I
 have d:Own H (.slice (some ⟨h.size,0,none⟩) 0 0) 32 ([]:List UInt8).length 1 ([]:List Value):=Own.empty 1 I
 replace c:Sep h.size H.size [(some ⟨h.size,0,none⟩:Option Addr).map (·.block)]:=c
 replace o:=o.ext W
 clear I
 refine sT [(3,.slice (some ⟨h.size,0,none⟩) 0 0)] fun a p=>cS<|qP [(4,.int .i64 0)] p fun a p=>cB 0 ?_
 have rc:=RC.nil h.size ((some ⟨h.size,0,none⟩).map (fun(x:Addr)=>x.block)) H b
 refine cL (fun m a h'=>∃k:Nat,∃ys:List Value,∃z:Option Addr,∃cap:Nat,m=N - k∧(Ext h h')∧(k≤N)∧(Own h' (.slice z k cap) 32 k 1 ys)∧(RC h.size h'.size (z.map (fun(x:Addr)=>x.block)) h' ys b k)∧(Sep h.size h'.size [z.map (·.block)])∧(Fr a 26 [(0,.slice va n vc),(3,.slice z k cap),(4,.int .i64 ((k*64:Nat):Int))])) (N - 0) ⟨0,[],(some ⟨h.size,0,none⟩),0,rfl,o,(by omega),d,rc,c,p.to⟩ ?_
 clear p a
 clear o
 clear d
 clear rc
 clear c
 rintro m a B ⟨k,ys,z,cap,rfl,o,R,d,rc,c,p⟩
 have S:=Ext.refl B
 refine cS<|qP [(9,.bool (decide (((k*64:Nat):Int)<((n:Nat):Int))))] p fun a p=>cJ 9 p (fun J=> ?_) fun J=> ?_
 ·have X:k<N:=by rw[←hN];unfold fv;omega
  have K:=iU b k;rw[hbn] at K
  have L:0<(ck b k).length :=by omega
  refine cN<|tK<|cS<|cB 1<|rS p ?_
  have E:=S.size
  refine tN 1 (.slice (some ⟨B.size,0,none⟩) 0 0) #[] 5 fun T M O=> ?_
  replace c:=c.nw o.size O
  have C:(some ⟨B.size,0,none⟩:Option Addr).map (fun(x:Addr)=>x.block)=none∨∃g,(some ⟨B.size,0,none⟩:Option Addr).map (fun(x:Addr)=>x.block)=some g∧B.size ≤g:= .inr ⟨_,rfl,E⟩;clear E
  have f:Own T (.slice (some ⟨B.size,0,none⟩) 0 0) 5 ([]:List UInt8).length 1 (([]:List UInt8).map bv):=Own.empty 1 O
  replace c:Sep h.size T.size [(some ⟨B.size,0,none⟩:Option Addr).map (·.block),z.map (·.block)]:=c
  replace o:=o.ext M
  replace d:=d.ext M
  replace rc:=rc.ext M
  clear O
  refine tA 7 (k*64) 64<|t1 8 (.int .i64 ((min n ((k*64)+64):Nat):Int)) (.int .i64 (if (((k*64)+64:Nat):Int)<((n:Nat):Int) then (((k*64)+64:Nat):Int) else ((n:Nat):Int))) (congrArg (Value.int .i64) (by rw[Nat.min_def];split<;>split<;>omega))<|tC 9 (.slice (tE va k) ((ck b k).length) (vc - k*64)) ((fun h=>Calm.cn (a:=va) (len:=n) (cap:=vc) (sz:=1) (x:=tE va k) (k*64) (min n (k*64+64)) vc ((ck b k).length) (vc - k*64) (by kernel_rfl) (.inl ⟨rfl,rfl⟩) (.inr rfl) (.inr rfl) (by omega) (by omega) (by unfold tE;rw[if_neg (by omega),Nat.mul_one]) (by omega) (by rfl) h) _)<|tP 10 ((ck b k).length) 1 ((ck b k).map bv) f (zx (hr.ext o) hbn (by omega) rfl (by omega)) (aB _) (fun q i P f u A=> ?_) (ys:=((ck b k).map bv)) (hl:=(by unfold maxLen;simp;omega)) (hb:=(by simp;omega)) (x:= .slice (tE va k) ((ck b k).length) (vc - k*64))
  replace rc:=rc.grew u (fun j e=> .inl (rO C j e))
  have F:=c
  replace c:=c.sa u 0 A f o.size;clear A
  refine tN 11 (.slice (some ⟨P.size,0,none⟩) 1 1) #[.slice q ((ck b k).length) i] 32 fun Y w D=> ?_
  replace o:=o.grew u (F.l 0)
  replace c:=c.nw o.size D
  replace d:=(d.k u (F.ap 1 0)).ext w
  refine tP 12 (k+1) 24 (ys++[.slice q ((ck b k).length) i]) d (Row.blk (n:=1) (sz:=1) (l:=[.slice q ((ck b k).length) i]) D rfl) (List.all_eq_true.1 (by rfl)) (fun r s Z d y t=> ?_)
  replace o:=o.ext w
  clear S
  replace rc:=rc.ext w
  replace rc:=rc.out y t
  have G:=c
  replace c:=c.sa y 2 t d o.size;clear t
  refine sE [(3,.slice r (k+1) s)] fun a p=>bK<|tK<|rS p<|tA 1 (k*64) 64<|sE [(4,nV ((k*64)+64))] fun a p=> ?_
  replace f:=(f.ext w).k y (G.ap 1 2)
  have Q:=rc.snoc (a:=q) (m:=(ck b k).length) (cap:=i) rfl L f.row (fun j e=>⟨c.low 1 rfl j e,f.lt (by rw[ae];exact e)⟩) (c.ap 1 2)
  clear D
  replace o:=o.grew y (G.l 2)
  replace c:=c.sub (l':=[r.map (·.block)]) (.cons _ (.cons _ (.cons_cons _ (.slnil))))
  rw[show k*64+64=(k+1)*64 by omega] at p
  show ∃m',m'<_∧_
  refine⟨_,?_,(k+1),(ys++[.slice q ((ck b k).length) i]),r,s,rfl,o,(by omega),d,Q,c,p.to⟩
  omega
 ·refine cX 0 (xT (xT (xB ?_)))
  refine tK<|qP [(2,.slice z k cap)] p fun a p=>cR<|rT 2 (.slice z k cap) p ?_
  obtain rfl:k=N:=by rw[←hN] at R⊢;unfold fv at R⊢;omega
  exact⟨_,_,_,rfl,d,rc,c.low 0 rfl,o⟩
noncomputable def FW:Code:=Tryz.f113.body.getD .skip
theorem oX(h:Heap)(b:List UInt8)(n:Nat)(hbn:b.length =n)(va:Option Addr)(vc:Nat)(hr:Row h (.slice va n vc) n 1 (b.map bv))(hbl:n≤1099511627000)(N:Nat)(hN:fv n=N):Sat Tryz.prog 113 #[.slice va n vc] h fun v h'=>bU h h' 39 v (mM b N):=by
 have a2:N≤n:=hN▸lZ n
 have o:=Ext.refl h
 have d:Sep h.size h.size []:=Sep.nil _ _
 refine ag Tryz.func113 24 fun a i=>qP [] i fun a i=>qS i<|tG 1 (qA _ b n hbn _ _ (hr.ext o) (by omega) N hN) ?_
 rintro _ s ⟨r,J,M,rfl,z,rc,O,g⟩
 have A:=o.size
 have q:=d
 replace o:=o.ext g
 replace d:=q.cons (x:=r.map (fun(x:Addr)=>x.block)) g.size A (fun k e=>⟨O k e,z.lt (by rw[ae];exact e)⟩)
 have c:=z;clear z q A O g
 have y:=Ext.refl s
 refine sT [(3,.slice r N J)] fun a i=>qS i ?_
 have P:=y.size
 refine tN 0 (.slice (some ⟨s.size,0,none⟩) 0 0) #[] 39 fun V U W=> ?_
 replace d:=d.nw o.size W
 have f:(some ⟨s.size,0,none⟩:Option Addr).map (fun(x:Addr)=>x.block)=none∨∃g,(some ⟨s.size,0,none⟩:Option Addr).map (fun(x:Addr)=>x.block)=some g∧s.size ≤g:= .inr ⟨_,rfl,P⟩;clear P
 have aV:Own V (.slice (some ⟨s.size,0,none⟩) 0 0) 39 ([]:List UInt8).length 32 (hcs []):=Own.empty 32 W
 replace d:Sep h.size V.size [(some ⟨s.size,0,none⟩:Option Addr).map (·.block),r.map (·.block)]:=d
 replace o:=o.ext U
 replace c:=c.ext U
 replace rc:=rc.ext U
 replace y:=y.ext U
 clear W
 refine sT [(4,.slice (some ⟨s.size,0,none⟩) 0 0)] fun a i=>cS<|qP [(5,.int .i64 0)] i fun a i=>cB 0 ?_
 have hz:mM b 0=[]:=rfl
 rw[←hz] at aV
 replace aV:Own V (.slice (some ⟨s.size,0,none⟩) 0 0) 39 0 32 (hcs (mM b 0)):=aV
 refine cL (fun m a h'=>∃k:Nat,∃I:Option Addr,∃u:Nat,m=N - k∧(Ext h h')∧(k≤N)∧(Ext s h')∧(RC h.size s.size (r.map (fun(x:Addr)=>x.block)) h' M b N)∧(I.map (fun(x:Addr)=>x.block)=none∨∃g,I.map (fun(x:Addr)=>x.block)=some g∧s.size ≤g)∧(Own h' (.slice I k u) 39 k 32 (hcs (mM b k)))∧(Own h' (.slice r N J) 32 N 1 M)∧(Sep h.size h'.size [I.map (·.block),r.map (·.block)])∧(Fr a 24 [(3,.slice r N J),(4,.slice I k u),(5,.int .i64 ((k:Nat):Int))])) (N - 0) ⟨0,(some ⟨s.size,0,none⟩),0,rfl,o,(by omega),y,rc,f,aV,c,d,i.to⟩ ?_
 clear i a
 clear o
 clear y
 clear rc
 clear f
 clear aV
 clear c
 clear d
 rintro m a h8 ⟨k,I,u,rfl,o,hk,y,rc,f,aV,c,d,i⟩
 refine cS<|qP [(12,.bool (decide (((k:Nat):Int)<((N:Nat):Int))))] i fun a i=>cJ 12 i (fun X=> ?_) fun X=> ?_
 ·have Y:k<N:=by omega
  have a3:=iU b k
  obtain⟨Z,rfl,_⟩:=c.bf (by omega)
  obtain⟨ya,yc,a0,a1,_⟩:=rc.at_ k Y
  refine cN<|tK<|cS<|cB 1<|rS i<|tI 3 Z N 1 k k<|tC 4 (.slice (some ya) ((ck b k).length) yc) (Calm.load (T:=32) (p:=(Addr.add Z k)) (by kernel_rfl) (Loads.one (k:=1) (by kernel_rfl) (RC.cell c a0))) ?_
  refine tG 5 (nM _ (ck b k) _ _ a1 (by omega)) ?_
  rintro _ Q ⟨rfl,w⟩
  refine tF 6 (Does.newHs (L:=[cV (ck b k)]) (t:=45) (E:=39) (db:=32) (n:=1) (by kernel_rfl) (by kernel_rfl) (aq.cons (dG _) aq.nil) rfl (by decide) (by decide)) ?_
  rintro _ R ⟨rfl,hh⟩
  have B:Ext Q R:=aT hh
  have K:R[Q.size]? =some (.cells (hcs [cV (ck b k)]).toArray 39):=bj hh
  clear hh
  replace o:=o.ext w
  have A:=o.size
  replace d:=d.up w.size
  have q:=d
  replace d:=q.new A (aj K)
  clear q A
  replace aV:=(aV.ext w).ext B
  refine tP 7 (k+1) 32 (hcs (mM b k++[cV (ck b k)])) aV (hrow1 (dG _) K) (di _) (fun C D a4 aV F G=> ?_) (ys:=(hcs ([cV (ck b k)]))) (hZ:=by first|rfl|exact(aX _ _).symm |simp[aX])
  replace y:=(y.ext w).ext B
  have H:=grown f G y.1
  replace o:=o.ext B
  replace y:=y.grew F (rO f)
  replace rc:=(rc.ext w).ext B
  replace rc:=rc.grew F (fun j e=> .inl (rO f j e))
  have S:=d
  replace d:=d.sa F 1 G aV o.size;clear G
  replace f:=H;clear H
  refine sE [(4,.slice C (k+1) D)] fun a i=>bK<|tK<|rS i<|tA 1 k 1<|sE [(5,nV (k+1))] fun a i=> ?_
  rw[pL] at aV
  clear K
  replace c:=((c.ext w).ext B).k F (S.ap 2 1)
  replace o:=o.grew F (S.l 1)
  replace d:=d.sub (l':=[C.map (·.block),(some Z).map (·.block)]) (.cons _ (.cons_cons _ (.cons_cons _ (.slnil))))
  show ∃m',m'<_∧_
  refine⟨_,?_,(k+1),C,D,rfl,o,(by omega),y,rc,f,aV,c,d,i.to⟩
  omega
 ·refine cX 0 (xT (xT (xB ?_)))
  refine tK<|qP [(2,.slice I k u)] i fun a i=>cR<|rT 2 (.slice I k u) i ?_
  obtain rfl:k=N:=by omega
  exact⟨I,u,by rw[iq],by rw[iq];exact aV,d.low 0 rfl,o⟩
theorem sH(h:Heap)(b:List UInt8)(n:Nat)(hbn:b.length =n)(va:Option Addr)(vc:Nat)(hr:Row h (.slice va n vc) n 1 (b.map bv))(hbl:n≤1099511627000)(N:Nat)(hN:fv n=N)(H:List Hs)(hH:mM b N=H):Sat Tryz.prog 113 #[.slice va n vc] h fun v h'=>∃ad cap,v= .slice ad H.length cap∧Own h' (.slice ad H.length cap) 39 H.length 32 (hcs H)∧(∀k,ad.map (fun(x:Addr)=>x.block)=some k→h.size ≤k)∧Ext h h':=by
 have:=oX h b n hbn va vc hr hbl N hN
 unfold bU at this
 rwa [hH] at this
theorem yn(h:Heap)(L:List Hs)(va:Option Addr)(vc n:Nat)(hL:HR h va vc n L)(hn:n≤1099511627000)(m:Int)(p:List Hs)(e:Int)(hz:cO L m=(p,e)):Sat Tryz.prog 85 #[.slice va n vc,.int .i64 m] h fun v h'=>∃s,v= .tuple #[s,.int .i64 e]∧bU h h' 39 s p:=by
 have:=vO h L va vc n hL hn m
 rw[hz] at this
 exact this
noncomputable def b79:Code:=Tryz.f79.body.getD .skip
theorem sI(h:Heap)(b:List UInt8)(n:Nat)(hbn:b.length =n)(va:Option Addr)(vc:Nat)(hr:Row h (.slice va n vc) n 1 (b.map bv))(hbl:n≤1099511627000)(N:Nat)(hN:fv n=N):Sat Tryz.prog 79 #[.slice va n vc] h fun v h'=>v=hv (root (mM b N))∧Ext h h':=by
 have f:=Ext.refl h
 have d:Sep h.size h.size []:=Sep.nil _ _
 obtain⟨H,k⟩:∃H,mM b N=H:=⟨_,rfl⟩
 have e:aq H:=k▸rM _ _
 have u:H.length =N:=by rw[←k,iq]
 have w:N≤n:=hN▸lZ n
 refine ag Tryz.func79 6 fun a i=>qS i<|tN 0 (pV h.size) ((z32.map bv).toArray) 39 fun A y g=> ?_
 replace d:=d.nw f.size g
 refine sT [(2,pV h.size)] fun a i=>qS i ?_
 replace f:=f.ext y
 refine tG 1 (sH _ b n hbn _ _ (hr.ext f) hbl N hN H k) ?_
 rintro _ B ⟨z,s,rfl,c,m,o⟩
 replace d:=d.co o m c f.size
 refine tG 2 (iH _ H _ _ H.length (HR.of c e) (by omega)) ?_
 rintro _ p ⟨rfl,t⟩
 replace g:=(g.x o).x t
 refine tF 3 (Does.store (b:=h.size) (off:=0) (vs:=(root H).map bv) (l:=z32.map bv) (bw (by kernel_rfl) (hlm (bg e))) g (hfit rfl (bg e)) (aB _)) ?_
 rintro _ j ⟨rfl,q⟩
 have r:Grew (some (h.size)) p j:=bD q
 replace g:j[h.size]? =some (.cells ((root H).map bv).toArray 39):=bR (off:=0) (vs:=(root H).map bv) (l:=(z32.map bv)) q (cA rfl (bg e)) g
 clear q
 refine sT [] fun a i=>cR<|aA [.cell 2 39] [.agg ((root H).map bv).toArray] (.agg ((root H).map bv).toArray) rfl i ⟨⟨_,rfl,Loads.hash (by kernel_rfl) (bg e) g⟩,trivial⟩ rfl ?_
 replace f:=((f.ext o).ext t).grew r (d.l 1)
 exact⟨by rw[k];rfl,f⟩
theorem uB(h:Heap)(b:List UInt8)(va:Option Addr)(vc:Nat)(hr:Row h (.slice va b.length vc) b.length 1 (b.map bv))(hbl:b.length ≤1099511627000):Sat Tryz.prog 79 #[.slice va b.length vc] h fun v h'=>v= .agg ((hl (pN (bF b))).map bv).toArray ∧Ext h h':=by
 rw[l_ (eo b)];exact sI h b b.length rfl va vc hr hbl _ rfl
theorem yo(h:Heap)(s:ByteArray)(n:Nat)(l:List UInt8)(y:RB)(hy:hl y=l)(hs:aK s=true)(hn:n≤512):Sat Tryz.prog 28 #[.string s,.int .i64 ((n:Nat):Int),.agg ((hl y).map bv).toArray] h fun v h'=>∃ad cap,v= .tuple #[.slice ad (dH s n l).length cap,.int .i64 0]∧Own h' (.slice ad (dH s n l).length cap) 5 (dH s n l).length 1 ((dH s n l).map bv)∧(∀k,ad.map (fun(x:Addr)=>x.block)=some k→h.size ≤k)∧Ext h h':=by
 subst hy;exact sj h s n (hl y) hs hn rfl
noncomputable def b38:Code:=Tryz.f38.body.getD .skip
set_option maxHeartbeats 1000000 in
theorem yp {W:Nat→Prop}(h:Heap)(rb:Nat)(M:Md)(T:List RO)(oa:Option Addr)(oc:Nat)(ea:Option Addr)(ec:Nat)(es:List Value)(md:bE W h rb M T oa oc ea ec es)(hW:∀k,W k→k<h.size)(s:ByteArray)(hsz:s.size ≤9223372036854775807)(b:List UInt8)(va:Option Addr)(vc:Nat)(hr:Row h (.slice va b.length vc) b.length 1 (b.map bv))(hE:M.E.length ≤1099511627):Sat Tryz.prog 38 #[.pointer (some ⟨rb,0,none⟩),.string s,.slice va b.length vc] h fun v h'=>v= .int .i64 (du M s b).2 ∧bC W h' rb (du M s b).1 ∧RG rb h h':=by
 have hm:=md.hm
 have f3:=aj hm
 have f4:=md.ln
 have r:=Ext.refl h
 have c:Sep h.size h.size []:=Sep.nil _ _
 refine ag Tryz.func38 86 fun a m=>qP [] m fun a m=>cS<|cS ?_
 rcases md.kv s with H|⟨H,hf,A,B,rfl,hA,hB⟩|⟨H,A,x,B,rfl,hA,hs,hf⟩
 ·refine rS m<|tC 1 (.bool false) (Does.call (f:=27) (args:= #[.string s]) (by kernel_rfl) (ml _ s hsz H))<|sE [(15,.bool true)] fun a m=>tK<|cT 15 m<|qP [(6,.int .i64 210)] m fun a m=>cR (yT ?_)
  refine rT 6 (.int .i64 210) m ?_
  rw[oL H];exact⟨rfl,⟨_,_,_,_,_,_,md.ext r⟩,RG.aI r⟩
 ·have f5:(A++B).length =A.length +B.length :=List.length_append
  have f6:=md.row.1.xE
  refine rS m<|tC 1 (.bool true) (Does.call (f:=27) (args:= #[.string s]) (by kernel_rfl) (eu _ s H))<|sE [(15,.bool false)] fun a m=>tK<|cF 15 m<|cN<|tK ?_
  refine cS<|cS ?_
  rcases Nat.lt_or_ge 512 b.length with G|G
  ·refine rS m<|tT 2 ((512:Int)<((b.length :Nat):Int))<|sE [(18,.bool true)] fun a m=>tK<|cT 18 m<|qP [(6,.int .i64 5)] m fun a m=>cR (yT ?_)
   refine rT 6 (.int .i64 5) m ?_
   rw[iw H G];exact⟨rfl,⟨_,_,_,_,_,_,md.ext r⟩,RG.aI r⟩
  ·refine rS m<|tX 2 ((512:Int)<((b.length :Nat):Int))<|sE [(18,.bool false)] fun a m=>tK<|cF 18 m<|cN<|tK ?_
   refine qS m<|tC 2 (.tuple #[nV A.length,.bool false]) (Does.call (f:=78) (args:= #[pV rb,.string s]) (by kernel_rfl) (lv _ rb M (A++B) oa oc ea ec es (md.ext r) s A.length false (.no hA hB) hE))<|sT [(7,nV A.length),(8,.bool false)] fun a m=>cS<|qP [(25,.bool false)] m fun a m=>cF 25 m<|cN ?_
   refine tK<|qS m<|tN 0 (.slice (some ⟨h.size,0,none⟩) 0 0) #[] 5 fun h1 g2 m3=> ?_
   replace c:=c.nw r.size m3
   have d:Own h1 (.slice (some ⟨h.size,0,none⟩) 0 0) 5 ([]:List UInt8).length 1 (([]:List UInt8).map bv):=Own.empty 1 m3
   replace c:Sep h.size h1.size [(some ⟨h.size,0,none⟩:Option Addr).map (·.block)]:=c
   replace r:=r.ext g2
   clear m3
   refine tP 2 b.length 1 (b.map bv) d (hr.ext r) (aB _) (fun z u h8 d g6 d5=> ?_)
   have s9:=c
   replace c:=c.sa g6 0 d5 d r.size;clear d5
   refine sT [(2,.slice z b.length u)] fun a m=>cS<|C.mono (K:=fun e a hJ=>∃(J:Nat),e= .normal ∧(Ext h hJ)∧(Own hJ (.slice z b.length u) 5 b.length 1 (b.map bv))∧(hJ[J]? =some (.cells (rc (j' s ((b.length :Nat):Int) (bF b) ((M.E.length :Nat):Int)) 0 false false (.slice none 0 0)).toArray 95))∧(Sep h.size hJ.size [some J,z.map (·.block)])∧Fr a 86 [(0,.pointer (some ⟨rb,0,none⟩)),(1,.string s),(2,.slice z b.length u),(7,.int .i64 ((A.length :Nat):Int)),(9,.pointer (some ⟨J,0,none⟩))]) ?_ ?_
   ·refine cD [0,0,2,0,8,0,32,96,224,480,1023,0,4095] 9 mixed m<|mP 239 [0,1,2,3,5,6,7] [.string s,.slice z b.length u,nV b.length,.slice z b.length u,pV rb,pV rb,.pointer (some ⟨rb,1,none⟩)] ?_
    replace r:=r.grew g6 (s9.l 0)
    refine mO 495 256 8 1 (.slice ea M.E.length ec) (r.blk hm)<|mP 1007 [9] [nV M.E.length]<|aF.ov (is:=[4,11]) (by kernel_rfl) (by simp) ?_
    intro q hq
    simp only[List.mem_cons,List.not_mem_nil,or_false] at hq
    rcases hq with rfl|rfl
    ·refine pg 1023 24 4 [8] (Does.call (f:=79) (args:= #[.slice z b.length u]) (by kernel_rfl) (uB _ b _ _ d.row (by omega))) ?_
     rintro _ a2 ⟨rfl,c4⟩
     replace r:=r.ext c4
     refine⟨?_,?_⟩
     ·intro j hj
      simp only[List.mem_cons,List.not_mem_nil,or_false] at hj
      subst hj
      exact aE (Calm.load (T:=67) (p:=⟨rb,1,none⟩) (by kernel_rfl) (Loads.one (k:=1) (by kernel_rfl) ((an (r.blk hm)).trans rfl)))
     refine mP 2047 [10] [.agg (rc (j' s ((b.length :Nat):Int) (bF b) ((M.E.length :Nat):Int)) 0 false false (.slice none 0 0)).toArray]<|gD 4095 2072 11 [8] (Does.new (v:= .pointer (some ⟨a2.size,0,none⟩)) (o:= .cells (bZ).toArray 95) (by kernel_rfl)) ?_
     rintro _ d6 ⟨rfl,hh⟩
     have d7:Ext a2 d6:=aT hh
     have b0:d6[a2.size]? =some (.cells (bZ).toArray 95):=bj hh
     clear hh
     replace c:=(c.up c4.size).nw r.size b0
     replace r:=r.ext d7
     refine⟨?_,?_⟩
     ·intro j hj
      simp only[List.mem_cons,List.not_mem_nil,or_false] at hj
      subst hj
      exact aE (Calm.load (T:=67) (p:=⟨rb,1,none⟩) (by kernel_rfl) (Loads.one (k:=1) (by kernel_rfl) ((an (r.blk hm)).trans rfl)))
     refine mV 8191 8191 12 0 (rc (j' s ((b.length :Nat):Int) (bF b) ((M.E.length :Nat):Int)) 0 false false (.slice none 0 0)) (rc (j' s ((b.length :Nat):Int) (bF b) ((M.E.length :Nat):Int)) 0 false false (.slice none 0 0)) b0 fun f7 c5 zq=> ?_
     replace b0:=zq
     refine mE [(9,pV a2.size)] fun a m=> ?_
     replace c:=c.up c5.size
     have a5:=c.pick (l':=[some a2.size,z.map (·.block)]) [0,1] rfl (by decide)
     replace d:=((d.ext c4).ext d7).k c5 (c.ap 1 0)
     replace r:=r.grew c5 (c.l 0)
     exact⟨a2.size,rfl,r,d,b0,a5,m.to⟩
    ·refine pg 3055 2048 11 [8] (Does.new (v:= .pointer (some ⟨h8.size,0,none⟩)) (o:= .cells (bZ).toArray 95) (by kernel_rfl)) ?_
     rintro _ d8 ⟨rfl,hh⟩
     have d9:Ext h8 d8:=aT hh
     have a3:d8[h8.size]? =some (.cells (bZ).toArray 95):=bj hh
     clear hh
     replace c:=c.nw r.size a3
     replace r:=r.ext d9
     refine⟨?_,?_⟩
     ·intro j hj
      simp only[List.mem_cons,List.not_mem_nil,or_false] at hj
      subst hj
      exact aE (Calm.load (T:=67) (p:=⟨rb,1,none⟩) (by kernel_rfl) (Loads.one (k:=1) (by kernel_rfl) ((an (r.blk hm)).trans rfl)))
     replace d:=d.ext d9
     refine gD 3071 2072 4 [8] (Does.call (f:=79) (args:= #[.slice z b.length u]) (by kernel_rfl) (uB _ b _ _ d.row (by omega))) ?_
     rintro _ f8 ⟨rfl,b1⟩
     replace r:=r.ext b1
     refine⟨?_,?_⟩
     ·intro j hj
      simp only[List.mem_cons,List.not_mem_nil,or_false] at hj
      subst hj
      exact aE (Calm.load (T:=67) (p:=⟨rb,1,none⟩) (by kernel_rfl) (Loads.one (k:=1) (by kernel_rfl) ((an (r.blk hm)).trans rfl)))
     refine mP 4095 [10] [.agg (rc (j' s ((b.length :Nat):Int) (bF b) ((M.E.length :Nat):Int)) 0 false false (.slice none 0 0)).toArray] ?_
     replace a3:=a3.x b1
     refine mV 8191 8191 12 0 (rc (j' s ((b.length :Nat):Int) (bF b) ((M.E.length :Nat):Int)) 0 false false (.slice none 0 0)) (rc (j' s ((b.length :Nat):Int) (bF b) ((M.E.length :Nat):Int)) 0 false false (.slice none 0 0)) a3 fun f9 c6 zq=> ?_
     replace a3:=zq
     refine mE [(9,pV h8.size)] fun a m=> ?_
     replace c:=(c.up b1.size).up c6.size
     have a5:=c.pick (l':=[some h8.size,z.map (·.block)]) [0,1] rfl (by decide)
     replace d:=(d.ext b1).k c6 (c.ap 1 0)
     replace r:=r.grew c6 (c.l 0)
     exact⟨h8.size,rfl,r,d,a3,a5,m.to⟩
   ·clear m a r d c
    rintro e a c7 ⟨J,rfl,r,d,w,c,m⟩
    refine tK<|qS m<|tN 0 (.slice (some ⟨c7.size,0,none⟩) 0 0) #[] 97 fun e1 c8 c9=> ?_
    replace c:=c.nw r.size c9
    have g:Own e1 (.slice (some ⟨c7.size,0,none⟩) 0 0) 97 ([]:List RO).length 40 (bB []):=Own.empty 40 c9
    replace c:Sep h.size e1.size [(some ⟨c7.size,0,none⟩:Option Addr).map (·.block),some J,z.map (·.block)]:=c
    replace r:=r.ext c8
    replace d:=d.ext c8
    replace w:=w.x c8
    clear c9
    refine tO 4 0 (r.blk hm)<|tC 6 (.slice oa A.length oc) ((fun h=>Calm.cn (a:=oa) (len:=((A++B).length)) (cap:=oc) (sz:=40) (x:=oa) 0 A.length oc A.length oc (by kernel_rfl) (.inl ⟨rfl,rfl⟩) (.inr rfl) (.inl ⟨rfl,rfl⟩) (by omega) (by omega) Fy (by first|rfl|omega) (by first|rfl|omega) h) _)<|tP 7 A.length 128 (bB A) g ((md.row.1.ext r).CR) (et _) (fun e2 d0 e3 g b2 b7=> ?_) (hZ:=by first|rfl|exact List.flatMap_append.symm |simp[bB])
    have d1:=c
    replace c:=c.sa b2 0 b7 g r.size;clear b7
    refine sT [(10,.slice e2 A.length d0)] fun a m=>qS m ?_
    replace w:=w.y b2 (d1.bp 1 0)
    refine tR 1 w<|tN 4 (.slice (some ⟨e3.size,0,none⟩) 1 1) ((dn (j' s ((b.length :Nat):Int) (bF b) ((M.E.length :Nat):Int)) 0 false false (.slice none 0 0) (.slice z b.length u)).toArray) 97 fun g0 b3 I=> ?_
    replace r:=r.grew b2 (d1.l 0)
    replace c:=c.nw r.size I
    replace g:=g.ext b3
    refine tP 5 (A.length +1) 128 (bB (A++[ry s b M.E.length z u])) g (Row.CQ (x:=ry s b M.E.length z u) I) (et _) (fun e4 d2 g1 g a6 b8=> ?_) (ys:=(bB ([ry s b M.E.length z u]))) (hZ:=by first|rfl|exact List.flatMap_append.symm |simp[bB])
    replace r:=r.ext b3
    have b5:=c
    replace c:=c.sa a6 1 b8 g r.size;clear b8
    refine sT [(10,.slice e4 (A.length +1) d2)] fun a m=>qS m ?_
    replace r:=r.grew a6 (b5.l 1)
    refine tO 5 0 (r.blk hm) ?_
    obtain⟨xd,e5⟩:∃x,x=(if oc=A.length then oa else oa.map (·.add (A.length *40))):=⟨_,rfl⟩
    refine tC 7 (.slice xd ((A++B).length - A.length) (oc - A.length)) ((fun h=>Calm.cn (a:=oa) (len:=((A++B).length)) (cap:=oc) (sz:=40) (x:=xd) A.length ((A++B).length) oc ((A++B).length - A.length) (oc - A.length) (by kernel_rfl) (.inl ⟨rfl,rfl⟩) (.inl ⟨rfl,rfl⟩) (.inr rfl) (by omega) (by omega) e5 (by first|rfl|omega) (by first|rfl|omega) h) _)<|tP 8 ((A++ry s b M.E.length z u::B).length) 128 (bB (A++ry s b M.E.length z u::B)) g ((md.row.1.ext r).CT e5) (et _) (fun S N g3 g a7 c0=> ?_) (hZ:=by first|rfl|exact List.flatMap_append.symm |simp[bB])
    have b6:=c
    replace c:=c.sa a7 1 c0 g r.size;clear c0
    replace d:=(((d.k b2 (d1.ap 2 0)).ext b3).k a6 (b5.ap 3 1)).k a7 (b6.ap 3 1)
    replace w:=((w.x b3).y a6 (b5.bp 2 1)).y a7 (b6.bp 2 1)
    replace I:=(I.y a6 (b5.bp 0 1)).y a7 (b6.bp 0 1)
    replace r:=r.grew a7 (b6.l 1)
    refine tW 11 0 [.slice S ((A++ry s b M.E.length z u::B).length) N] [.slice oa ((A++B).length) oc,.slice ea M.E.length ec,.int .i64 M.t] [.slice S ((A++ry s b M.E.length z u::B).length) N,.slice ea M.E.length ec,.int .i64 M.t] (r.blk hm) (fun e8 R a8=> ?_)
    have L:RG rb h e8:=RG.one r R
    replace d:=d.kept R (by rw[ae];right;intro e;have:=c.low 3 rfl _ e;omega)
    replace g:=g.kept R (by rw[ae];right;intro e;have:=c.low 1 rfl _ e;omega)
    replace w:=R.blk w (fun e=>by have:=c.low 2 rfl _ rfl;cases e;omega)
    replace I:=R.blk I (fun e=>by have:=c.low 0 rfl _ rfl;cases e;omega)
    replace c:=c.up R.1
    have O:=a8;clear a8 R
    refine sT [] fun a m=>qS m<|tO 2 1 w<|tQ 4 2 ((hl (j' s ((b.length :Nat):Int) (bF b) ((M.E.length :Nat):Int))).map bv) w<|tG 5 (yo _ s b.length (bF b) (j' s ((b.length :Nat):Int) (bF b) ((M.E.length :Nat):Int)) (w7 (eo b)) H (by omega)) ?_
    rintro _ d3 ⟨U,P,rfl,F,e6,Z⟩
    replace c:=c.co Z e6 F L.1
    refine sT [(11,.slice U ((dH s b.length (bF b)).length) P)] fun a m=>qS m<|tN 1 (.slice (some ⟨d3.size,0,none⟩) 0 0) #[] 32 fun e7 a0 d4=> ?_
    replace L:=L.ext Z
    replace c:=c.nw L.1 d4
    have D:Own e7 (.slice (some ⟨d3.size,0,none⟩) 0 0) 32 ([]:List Value).length 1 ([]:List Value):=Own.empty 1 d4
    replace c:Sep h.size e7.size [(some ⟨d3.size,0,none⟩:Option Addr).map (·.block),U.map (·.block),some (e3.size),S.map (·.block),some J,z.map (·.block)]:=c
    replace d:=(d.ext Z).ext a0
    replace g:=(g.ext Z).ext a0
    replace O:=a0.blk (Z.blk O)
    replace w:=(w.x Z).x a0
    replace I:=(I.x Z).x a0
    replace L:=L.ext a0
    replace F:=F.ext a0
    clear d4
    refine tO 5 1 O<|tP 6 (0+M.E.length) 24 es D ((md.Fx L).1.1) (fU md.en) (fun f2 e9 f0 D V c1=> ?_) (ys:=es)
    have a1:=c
    replace c:=c.sa V 0 c1 D L.1;clear c1
    refine tN 8 (.slice (some ⟨f0.size,0,none⟩) 1 1) #[.slice U ((dH s b.length (bF b)).length) P] 32 fun g4 X a4=> ?_
    replace L:=L.bX V (fun i e=> .inr (by have:=a1.low 0 rfl i e;omega))
    replace c:=c.nw L.1 a4
    replace D:=D.ext X
    refine tP 9 (M.E.length +1) 24 (es++[.slice U ((dH s b.length (bF b)).length) P]) D (Row.blk (n:=1) (sz:=1) (l:=[.slice U ((dH s b.length (bF b)).length) P]) a4 rfl) (List.all_eq_true.1 (by rfl)) (fun c2 a9 g5 D Q c3=> ?_)
    replace L:=L.ext X
    have Y:=c
    replace c:=c.sa Q 1 c3 D L.1;clear c3
    replace d:=((d.k V (a1.ap 5 0)).ext X).k Q (Y.ap 6 1)
    replace g:=((g.k V (a1.ap 3 0)).ext X).k Q (Y.ap 4 1)
    replace O:=Q.blk (X.blk (V.blk O (fun e=>by have:=a1.low 0 rfl _ e.symm;omega))) (fun e=>by have:=Y.low 1 rfl _ e.symm;omega)
    replace F:=((F.k V (a1.ap 1 0)).ext X).k Q (Y.ap 2 1)
    replace w:=((w.y V (a1.bp 4 0)).x X).y Q (Y.bp 5 1)
    replace I:=((I.y V (a1.bp 2 0)).x X).y Q (Y.bp 3 1)
    replace L:=L.bX Q (fun i e=> .inr (by have:=Y.low 1 rfl i e;omega))
    replace a4:=a4.y Q (Y.bp 0 1)
    refine tW 12 1 [.slice c2 (M.E.length +1) a9] [.slice S ((A++ry s b M.E.length z u::B).length) N,.slice ea M.E.length ec,.int .i64 M.t] [.slice S ((A++ry s b M.E.length z u::B).length) N,.slice c2 (M.E.length +1) a9,.int .i64 M.t] O (fun f1 R a8=> ?_)
    replace L:RG rb h f1:=RG.again L R
    replace d:=d.kept R (by rw[ae];right;intro e;have:=c.low 6 rfl _ e;omega)
    replace g:=g.kept R (by rw[ae];right;intro e;have:=c.low 4 rfl _ e;omega)
    replace F:=F.kept R (by rw[ae];right;intro e;have:=c.low 2 rfl _ e;omega)
    replace D:=D.kept R (by rw[ae];right;intro e;have:=c.low 1 rfl _ e;omega)
    replace w:=R.blk w (fun e=>by have:=c.low 5 rfl _ rfl;cases e;omega)
    replace I:=R.blk I (fun e=>by have:=c.low 3 rfl _ rfl;cases e;omega)
    replace a4:=R.blk a4 (fun e=>by have:=c.low 0 rfl _ rfl;cases e;omega)
    replace c:=c.up R.1
    clear O;have O:=a8;clear a8 R
    refine sT [] fun a m=>qP [(6,.int .i64 0)] m fun a m=>cR<|rT 6 (.int .i64 0) m ?_
    have g7:=jx s b.length (eo b)
    have g8:=iu H
    rw[jz H G hf];exact⟨rfl,md.put (y:=ry s b M.E.length z u) hA hB rfl G rfl L O (jN.of g) (Row.nil _ 4) (cz.new d (by decide) hW (c.low 6 rfl)) (cz.new D (by decide) hW (c.low 1 rfl)) (by omega) (cz.new F (by decide) hW (c.low 2 rfl)),L⟩
 ·refine rS m<|tC 1 (.bool true) (Does.call (f:=27) (args:= #[.string s]) (by kernel_rfl) (eu _ s H))<|sE [(15,.bool false)] fun a m=>tK<|cF 15 m<|cN<|tK ?_
  refine cS<|cS ?_
  rcases Nat.lt_or_ge 512 b.length with G|G
  ·refine rS m<|tT 2 ((512:Int)<((b.length :Nat):Int))<|sE [(18,.bool true)] fun a m=>tK<|cT 18 m<|qP [(6,.int .i64 5)] m fun a m=>cR (yT ?_)
   refine rT 6 (.int .i64 5) m ?_
   rw[iw H G];exact⟨rfl,⟨_,_,_,_,_,_,md.ext r⟩,RG.aI r⟩
  ·refine rS m<|tX 2 ((512:Int)<((b.length :Nat):Int))<|sE [(18,.bool false)] fun a m=>tK<|cF 18 m<|cN<|tK ?_
   refine qS m<|tC 2 (.tuple #[nV A.length,.bool true]) (Does.call (f:=78) (args:= #[pV rb,.string s]) (by kernel_rfl) (lv _ rb M (A++x::B) oa oc ea ec es (md.ext r) s A.length true (.yes hA hs) hE))<|sT [(7,nV A.length),(8,.bool true)] fun a m=>cS<|qP [(25,.bool true)] m fun a m=>cT 25 m<|qP [(6,.int .i64 212)] m fun a m=> ?_
   refine cR (yT ?_)
   refine rT 6 (.int .i64 212) m ?_
   rw[iV H G hf];exact⟨rfl,⟨_,_,_,_,_,_,md.ext r⟩,RG.aI r⟩
noncomputable def b41:Code:=Tryz.f41.body.getD .skip
set_option maxHeartbeats 2000000 in
theorem yq(h:Heap)(L:List Rec)(va:Option Addr)(vc:Nat)(now:Int)(hr:Row h (.slice va L.length vc) L.length 39 (a_ L))(hL:L.length ≤1099511627):Sat Tryz.prog 41 #[.slice va L.length vc,.int .i64 now] h fun v h'=>∃(M:List Rec) (ad:Option Addr) (cap:Nat),M.Perm (L.filter (dW now))∧M.Pairwise gy∧v= .slice ad M.length cap∧Own h' (.slice ad M.length cap) 9 M.length 1 ((ids M).map Value.string)∧(∀k,ad.map (fun(x:Addr)=>x.block)=some k→h.size ≤k)∧Ext h h':=by
 have q:=Ext.refl h
 have c:Sep h.size h.size []:=Sep.nil _ _
 refine ag Tryz.func41 114 fun a o=>qP [] o fun a o=>qS o<|tN 0 (.slice (some ⟨h.size,0,none⟩) 0 0) #[] 95 fun h1 g2 m3=> ?_
 replace c:=c.nw q.size m3
 have d:Own h1 (.slice (some ⟨h.size,0,none⟩) 0 0) 95 ([]:List Rec).length 39 (a_ []):=Own.empty 39 m3
 replace c:Sep h.size h1.size [(some ⟨h.size,0,none⟩:Option Addr).map (·.block)]:=c
 replace q:=q.ext g2
 clear m3
 refine sT [(5,.slice (some ⟨h.size,0,none⟩) 0 0)] fun a o=>cS<|qP [(6,.int .i64 0)] o fun a o=>cB 0<|cL (fun m a h'=>∃i:Nat,∃D:List Rec,∃ad:Option Addr,∃cap:Nat,m=L.length - i∧(Ext h h')∧(i≤L.length)∧((L.take i).filter (dW now)=D)∧(Own h' (.slice ad D.length cap) 95 D.length 39 (a_ D))∧(Sep h.size h'.size [ad.map (·.block)])∧(Fr a 114 [(0,.slice va L.length vc),(1,.int .i64 now),(5,.slice ad D.length cap),(6,.int .i64 ((i:Nat):Int))])) (L.length - 0) ⟨0,[],(some ⟨h.size,0,none⟩),0,rfl,q,(by omega),rfl,d,c,o.to⟩ ?_
 clear o a
 clear q
 clear d
 clear c
 rintro m a h4 ⟨i,D,ad,cap,rfl,q,hi,X,d,c,o⟩
 refine cS<|qP [(16,.bool (decide (((i:Nat):Int)<((L.length :Nat):Int))))] o fun a o=>cJ 16 o (fun d2=> ?_) fun d2=> ?_
 ·have S:i<L.length :=by omega
  have d3:=oI X
  obtain⟨r,rfl,b8⟩:=hr.bf (by omega)
  refine cN<|tK<|cS<|cB 1<|cS ?_
  rcases Bool.eq_false_or_eq_true (L.getD i ah).go with I|I
  rotate_left 1
  rcases Bool.eq_false_or_eq_true (L.getD i ah).ho with J|J
  rotate_left 1
  rcases Int.lt_or_le 0 (L.getD i ah).e with a0|a0
  rcases Int.lt_or_le now (L.getD i ah).e with a1|a1
  rotate_left 1
  ·have H:=wM S X (ju.2 ⟨a0,I,J,a1⟩)
   refine rS o<|tI 2 r L.length 39 i (i*39)<|t1 3 (.pointer (some (Addr.add r ((i*39)+37)))) (.pointer (some ((Addr.add r (i*39)).add 37))) (by rw[add_add])<|tC 4 (.bool false) (Calm.load (T:=4) (p:=(Addr.add r ((i*39)+37))) (by kernel_rfl) (Loads.one (k:=1) (by kernel_rfl) ((Row.rL (i:=i) (j:=37) (u:= .bool ((L.getD i ah).go)) (hr.ext q) (by omega) rfl).trans (by rw[I]))))<|tI 9 r L.length 39 i (i*39)<|t1 10 (.pointer (some (Addr.add r ((i*39)+36)))) (.pointer (some ((Addr.add r (i*39)).add 36))) (by rw[add_add])<|tC 11 (.bool false) (Calm.load (T:=4) (p:=(Addr.add r ((i*39)+36))) (by kernel_rfl) (Loads.one (k:=1) (by kernel_rfl) ((Row.rL (i:=i) (j:=36) (u:= .bool ((L.getD i ah).ho)) (hr.ext q) (by omega) rfl).trans (by rw[J])))) ?_
   refine tI 17 r L.length 39 i (i*39)<|t1 18 (.pointer (some (Addr.add r ((i*39)+35)))) (.pointer (some ((Addr.add r (i*39)).add 35))) (by rw[add_add])<|tC 19 (.int .i64 ((L.getD i ah).e)) (Calm.load (T:=3) (p:=(Addr.add r ((i*39)+35))) (by kernel_rfl) (Loads.one (k:=1) (by kernel_rfl) (Row.rL (i:=i) (j:=35) (u:= .int .i64 ((L.getD i ah).e)) (hr.ext q) (by omega) rfl)))<|tT 20 ((0:Int)<((L.getD i ah).e))<|tI 25 r L.length 39 i (i*39)<|t1 26 (.pointer (some (Addr.add r ((i*39)+35)))) (.pointer (some ((Addr.add r (i*39)).add 35))) (by rw[add_add])<|tC 27 (.int .i64 ((L.getD i ah).e)) (Calm.load (T:=3) (p:=(Addr.add r ((i*39)+35))) (by kernel_rfl) (Loads.one (k:=1) (by kernel_rfl) (Row.rL (i:=i) (j:=35) (u:= .int .i64 ((L.getD i ah).e)) (hr.ext q) (by omega) rfl))) ?_
   refine tT 29 (((L.getD i ah).e)≤now)<|sE [(49,.bool true)] fun a o=>tK<|cT 49 o<|rS o<|tI 3 r L.length 39 i (i*39)<|tY 4 i ah bk (hr.ext q) ?_
   refine tN 5 (.slice (some ⟨h4.size,0,none⟩) 1 1) ((a_ [L.getD i ah]).toArray) 95 fun h6 g7 m8=> ?_
   replace c:=c.nw q.size m8
   replace d:=d.ext g7
   refine tP 6 ((D++[L.getD i ah]).length) 104 (a_ (D++[L.getD i ah])) d (Row.blk (n:=1) (sz:=39) (l:=a_ [L.getD i ah]) m8 rfl) (eH _) (fun a6 V d8 d c0 a2=> ?_) (ys:=(a_ ([L.getD i ah]))) (hZ:=by first|rfl|exact List.flatMap_append.symm |simp[a_])
   replace q:=q.ext g7
   have d4:=c
   replace c:=c.sa c0 1 a2 d q.size;clear a2
   refine sE [(5,.slice a6 ((D++[L.getD i ah]).length) V)] fun a o=>bK<|tK<|rS o<|tA 1 i 1<|sE [(6,nV (i+1))] fun a o=> ?_
   clear m8
   replace q:=q.grew c0 (d4.l 1)
   replace c:=c.sub (l':=[a6.map (·.block)]) (.cons _ (.cons_cons _ (.slnil)))
   show ∃m',m'<_∧_
   refine⟨_,?_,(i+1),(D++[L.getD i ah]),a6,V,rfl,q,(by omega),H,d,c,o.to⟩
   omega
  ·have H:=nI S X (now:=now) (lY (by omega))
   refine rS o<|tI 2 r L.length 39 i (i*39)<|t1 3 (.pointer (some (Addr.add r ((i*39)+37)))) (.pointer (some ((Addr.add r (i*39)).add 37))) (by rw[add_add])<|tC 4 (.bool false) (Calm.load (T:=4) (p:=(Addr.add r ((i*39)+37))) (by kernel_rfl) (Loads.one (k:=1) (by kernel_rfl) ((Row.rL (i:=i) (j:=37) (u:= .bool ((L.getD i ah).go)) (hr.ext q) (by omega) rfl).trans (by rw[I]))))<|tI 9 r L.length 39 i (i*39)<|t1 10 (.pointer (some (Addr.add r ((i*39)+36)))) (.pointer (some ((Addr.add r (i*39)).add 36))) (by rw[add_add])<|tC 11 (.bool false) (Calm.load (T:=4) (p:=(Addr.add r ((i*39)+36))) (by kernel_rfl) (Loads.one (k:=1) (by kernel_rfl) ((Row.rL (i:=i) (j:=36) (u:= .bool ((L.getD i ah).ho)) (hr.ext q) (by omega) rfl).trans (by rw[J])))) ?_
   refine tI 17 r L.length 39 i (i*39)<|t1 18 (.pointer (some (Addr.add r ((i*39)+35)))) (.pointer (some ((Addr.add r (i*39)).add 35))) (by rw[add_add])<|tC 19 (.int .i64 ((L.getD i ah).e)) (Calm.load (T:=3) (p:=(Addr.add r ((i*39)+35))) (by kernel_rfl) (Loads.one (k:=1) (by kernel_rfl) (Row.rL (i:=i) (j:=35) (u:= .int .i64 ((L.getD i ah).e)) (hr.ext q) (by omega) rfl)))<|tX 20 ((0:Int)<((L.getD i ah).e))<|sE [(49,.bool false)] fun a o=>tK<|cF 49 o ?_
   refine cN<|bK<|tK<|rS o<|tA 1 i 1<|sE [(6,nV (i+1))] fun a o=> ?_
   replace c:=c.sub (l':=[ad.map (·.block)]) (.cons_cons _ (.slnil))
   show ∃m',m'<_∧_
   refine⟨_,?_,(i+1),D,ad,cap,rfl,q,(by omega),H,d,c,o.to⟩
   omega
  ·have H:=nI S X (now:=now) (lh (fun hb=>absurd (I.symm.trans hb.1) (by decide)))
   refine rS o<|tI 2 r L.length 39 i (i*39)<|t1 3 (.pointer (some (Addr.add r ((i*39)+37)))) (.pointer (some ((Addr.add r (i*39)).add 37))) (by rw[add_add])<|tC 4 (.bool true) (Calm.load (T:=4) (p:=(Addr.add r ((i*39)+37))) (by kernel_rfl) (Loads.one (k:=1) (by kernel_rfl) ((Row.rL (i:=i) (j:=37) (u:= .bool ((L.getD i ah).go)) (hr.ext q) (by omega) rfl).trans (by rw[I]))))<|sE [(49,.bool false)] fun a o=>tK<|cF 49 o ?_
   refine cN<|bK<|tK<|rS o<|tA 1 i 1<|sE [(6,nV (i+1))] fun a o=> ?_
   replace c:=c.sub (l':=[ad.map (·.block)]) (.cons_cons _ (.slnil))
   show ∃m',m'<_∧_
   refine⟨_,?_,(i+1),D,ad,cap,rfl,q,(by omega),H,d,c,o.to⟩
   omega
  ·have H:=nI S X (now:=now) (lh (fun hb=>absurd (J.symm.trans hb.2.1) (by decide)))
   refine rS o<|tI 2 r L.length 39 i (i*39)<|t1 3 (.pointer (some (Addr.add r ((i*39)+37)))) (.pointer (some ((Addr.add r (i*39)).add 37))) (by rw[add_add])<|tC 4 (.bool false) (Calm.load (T:=4) (p:=(Addr.add r ((i*39)+37))) (by kernel_rfl) (Loads.one (k:=1) (by kernel_rfl) ((Row.rL (i:=i) (j:=37) (u:= .bool ((L.getD i ah).go)) (hr.ext q) (by omega) rfl).trans (by rw[I]))))<|tI 9 r L.length 39 i (i*39)<|t1 10 (.pointer (some (Addr.add r ((i*39)+36)))) (.pointer (some ((Addr.add r (i*39)).add 36))) (by rw[add_add])<|tC 11 (.bool true) (Calm.load (T:=4) (p:=(Addr.add r ((i*39)+36))) (by kernel_rfl) (Loads.one (k:=1) (by kernel_rfl) ((Row.rL (i:=i) (j:=36) (u:= .bool ((L.getD i ah).ho)) (hr.ext q) (by omega) rfl).trans (by rw[J])))) ?_
   refine sE [(49,.bool false)] fun a o=>tK<|cF 49 o<|cN<|bK<|tK<|rS o ?_
   refine tA 1 i 1<|sE [(6,nV (i+1))] fun a o=> ?_
   replace c:=c.sub (l':=[ad.map (·.block)]) (.cons_cons _ (.slnil))
   show ∃m',m'<_∧_
   refine⟨_,?_,(i+1),D,ad,cap,rfl,q,(by omega),H,d,c,o.to⟩
   omega
  ·have H:=nI S X (now:=now) (lh (fun hb=>by have:=hb.2.2;omega))
   refine rS o<|tI 2 r L.length 39 i (i*39)<|t1 3 (.pointer (some (Addr.add r ((i*39)+37)))) (.pointer (some ((Addr.add r (i*39)).add 37))) (by rw[add_add])<|tC 4 (.bool false) (Calm.load (T:=4) (p:=(Addr.add r ((i*39)+37))) (by kernel_rfl) (Loads.one (k:=1) (by kernel_rfl) ((Row.rL (i:=i) (j:=37) (u:= .bool ((L.getD i ah).go)) (hr.ext q) (by omega) rfl).trans (by rw[I]))))<|tI 9 r L.length 39 i (i*39)<|t1 10 (.pointer (some (Addr.add r ((i*39)+36)))) (.pointer (some ((Addr.add r (i*39)).add 36))) (by rw[add_add])<|tC 11 (.bool false) (Calm.load (T:=4) (p:=(Addr.add r ((i*39)+36))) (by kernel_rfl) (Loads.one (k:=1) (by kernel_rfl) ((Row.rL (i:=i) (j:=36) (u:= .bool ((L.getD i ah).ho)) (hr.ext q) (by omega) rfl).trans (by rw[J])))) ?_
   refine tI 17 r L.length 39 i (i*39)<|t1 18 (.pointer (some (Addr.add r ((i*39)+35)))) (.pointer (some ((Addr.add r (i*39)).add 35))) (by rw[add_add])<|tC 19 (.int .i64 ((L.getD i ah).e)) (Calm.load (T:=3) (p:=(Addr.add r ((i*39)+35))) (by kernel_rfl) (Loads.one (k:=1) (by kernel_rfl) (Row.rL (i:=i) (j:=35) (u:= .int .i64 ((L.getD i ah).e)) (hr.ext q) (by omega) rfl)))<|tT 20 ((0:Int)<((L.getD i ah).e))<|tI 25 r L.length 39 i (i*39)<|t1 26 (.pointer (some (Addr.add r ((i*39)+35)))) (.pointer (some ((Addr.add r (i*39)).add 35))) (by rw[add_add])<|tC 27 (.int .i64 ((L.getD i ah).e)) (Calm.load (T:=3) (p:=(Addr.add r ((i*39)+35))) (by kernel_rfl) (Loads.one (k:=1) (by kernel_rfl) (Row.rL (i:=i) (j:=35) (u:= .int .i64 ((L.getD i ah).e)) (hr.ext q) (by omega) rfl))) ?_
   refine tX 29 (((L.getD i ah).e)≤now)<|sE [(49,.bool false)] fun a o=>tK<|cF 49 o<|cN<|bK<|tK ?_
   refine rS o<|tA 1 i 1<|sE [(6,nV (i+1))] fun a o=> ?_
   replace c:=c.sub (l':=[ad.map (·.block)]) (.cons_cons _ (.slnil))
   show ∃m',m'<_∧_
   refine⟨_,?_,(i+1),D,ad,cap,rfl,q,(by omega),H,d,c,o.to⟩
   omega
 ·obtain rfl:i=L.length :=by omega
  have d3:=oI X
  rw[List.take_length] at X
  refine cX 0 (xT (xT (xB ?_)))
  refine tK<|qS o<|tN 0 (.slice (some ⟨h4.size,0,none⟩) 0 0) #[] 9 fun c1 c2 a7=> ?_
  replace c:=c.nw q.size a7
  have g:Own c1 (.slice (some ⟨h4.size,0,none⟩) 0 0) 9 ([]:List ByteArray).length 1 (([]:List ByteArray).map Value.string):=Own.empty 1 a7
  replace c:Sep h.size c1.size [(some ⟨h4.size,0,none⟩:Option Addr).map (·.block),ad.map (·.block)]:=c
  replace q:=q.ext c2
  replace d:=d.ext c2
  clear a7
  refine sT [(7,.slice (some ⟨h4.size,0,none⟩) 0 0)] fun a o=>cS<|cB 2 ?_
  replace c:=c.pick (l':=[ad.map (·.block),(some ⟨h4.size,0,none⟩:Option Addr).map (·.block)]) [1,0] rfl (by decide)
  refine cL (fun m a h'=>∃U:List Rec,∃Q:List Rec,∃ad:Option Addr,∃cap:Nat,∃E:Option Addr,∃F:Nat,m=Q.length ∧(Ext h h')∧(wU D U Q)∧(Own h' (.slice ad Q.length cap) 95 Q.length 39 (a_ Q))∧(Own h' (.slice E U.length F) 9 U.length 1 ((ids U).map Value.string))∧(Sep h.size h'.size [ad.map (·.block),E.map (·.block)])∧(Fr a 114 [(5,.slice ad Q.length cap),(7,.slice E U.length F)])) (D.length) ⟨[],D,ad,cap,(some ⟨h4.size,0,none⟩),0,rfl,q,(wU.start _),d,g,c,o.to⟩ ?_
  clear o a
  clear q
  clear d
  clear g
  clear c
  rintro m a d9 ⟨U,Q,ad,cap,E,F,rfl,q,hsel,d,g,c,o⟩
  have e1:=hsel.len
  refine cS<|qP [(60,.bool (decide ((0:Int)<((Q.length :Nat):Int))))] o fun a o=>cJ 60 o (fun c3=> ?_) fun c3=> ?_
  ·have e2:0<Q.length :=by omega
   obtain⟨G,rfl,c4⟩:=d.bf (by omega)
   refine cN<|tK<|cB 3<|qP [(8,.int .i64 0)] o fun a o=>cS<|qP [(9,.int .i64 1)] o fun a o=>cB 4 ?_
   refine cL (fun m a h'=>∃k:Nat,∃f:Nat,m=Q.length - k∧(Ext h h')∧(f<k∧k≤Q.length)∧(∀j,j<k→gy (Q.getD f ah) (Q.getD j ah))∧(Own h' (.slice (some G) Q.length cap) 95 Q.length 39 (a_ Q))∧(Own h' (.slice E U.length F) 9 U.length 1 ((ids U).map Value.string))∧(Sep h.size h'.size [(some G:Option Addr).map (·.block),E.map (·.block)])∧(Fr a 114 [(5,.slice (some G) Q.length cap),(7,.slice E U.length F),(8,.int .i64 ((f:Nat):Int)),(9,.int .i64 ((k:Nat):Int))])) (Q.length - 1) ⟨1,0,rfl,q,(by omega),(fun j hj=>by rw[show j=0 by omega];exact jw _),d,g,c,o.to⟩ ?_
   clear o a
   clear q
   clear d
   clear g
   clear c
   rintro m a Y ⟨k,f,rfl,q,e3,hmin,d,g,c,o⟩
   refine cS<|qP [(64,.bool (decide (((k:Nat):Int)<((Q.length :Nat):Int))))] o fun a o=>cJ 64 o (fun c5=> ?_) fun c5=> ?_
   ·have e4:k<Q.length :=by omega
    refine cN<|tK<|cS<|cB 5<|qS o<|tI 2 G Q.length 39 k (k*39)<|tY 3 k ah bk (d.row) ?_
    refine tN 4 (pV Y.size) ((bZ).toArray) 95 fun e5 R s=> ?_
    replace c:=c.nw q.size s
    refine bt 5 (rcs (Q.getD k ah)) s fun c6 K zq=> ?_
    replace s:=zq
    refine sT [(10,pV Y.size)] fun a o=>qS o<|tI 2 G Q.length 39 f (f*39) ?_
    replace d:=(d.ext R).k K (c.ap 1 0)
    refine tY 3 f ah bk (d.row)<|tN 4 (pV c6.size) ((bZ).toArray) 95 fun e6 w A=> ?_
    replace q:=(q.ext R).grew K (c.l 0)
    replace c:=(c.up K.size).nw q.size A
    refine bt 5 (rcs (Q.getD f ah)) A fun e7 t zq=> ?_
    replace A:=zq
    refine sT [(11,pV c6.size)] fun a o=>cS ?_
    rcases Int.lt_or_le (Q.getD k ah).e (Q.getD f ah).e with hc|hc
    rotate_left 1
    rcases Int.lt_or_le (Q.getD f ah).e (Q.getD k ah).e with hd|hd
    rotate_left 1
    rcases Decidable.em (Lib.compareBytes (Q.getD k ah).b.id.data.toList (Q.getD f ah).b.id.data.toList <0) with hs|hs
    ·have B:∀j,j<k+1→gy (Q.getD k ah) (Q.getD j ah):=fun j hj=>by
      rcases Nat.lt_or_ge j k with z|z
      ·exact cK (wS (by omega) (by omega)) (hmin j z)
      ·rw[show j=k by omega];exact jw _
     refine rS o ?_
     replace s:=(s.x w).y t (c.bp 1 0)
     refine tO 1 35 s<|tO 3 35 A<|tX 4 (((Q.getD k ah).e)<((Q.getD f ah).e))<|tO 7 35 s<|tO 9 35 A<|eT 10 ((Q.getD k ah).e) ((Q.getD f ah).e)<|tO 13 0 s ?_
     refine tO 15 0 A<|t1 16 (.bool true) (.bool (Op.bytesLess (((Q.getD k ah).b).id).toList (((Q.getD f ah).b).id).toList)) (congrArg Value.bool (wR hs))<|sE [(93,.bool true)] fun a o=>tK<|cT 93 o<|rP [(8,nV k)] o fun a o=>bK ?_
     refine tK<|rS o<|tA 1 k 1<|sE [(9,nV (k+1))] fun a o=> ?_
     clear s
     clear A
     replace g:=(((g.ext R).k K (c.ap 3 1)).ext w).k t (c.ap 3 0)
     replace q:=(q.ext w).grew t (c.l 0)
     replace d:=(d.ext w).k t (c.ap 2 0)
     replace c:=c.up t.size
     replace c:=c.sub (l':=[(some G:Option Addr).map (·.block),E.map (·.block)]) (.cons _ (.cons _ (.cons_cons _ (.cons_cons _ (.slnil)))))
     show ∃m',m'<_∧_
     refine⟨_,?_,(k+1),k,rfl,q,(by omega),B,d,g,c,o.to⟩
     omega
    ·have B:∀j,j<k+1→gy (Q.getD f ah) (Q.getD j ah):=fun j hj=>by
      rcases Nat.lt_or_ge j k with z|z
      ·exact hmin j z
      ·rw[show j=k by omega];exact wS (by omega) (by rw[dV];omega)
     refine rS o ?_
     replace s:=(s.x w).y t (c.bp 1 0)
     refine tO 1 35 s<|tO 3 35 A<|tX 4 (((Q.getD k ah).e)<((Q.getD f ah).e))<|tO 7 35 s<|tO 9 35 A<|eT 10 ((Q.getD k ah).e) ((Q.getD f ah).e)<|tO 13 0 s ?_
     refine tO 15 0 A<|t1 16 (.bool false) (.bool (Op.bytesLess (((Q.getD k ah).b).id).toList (((Q.getD f ah).b).id).toList)) (congrArg Value.bool (tB hs))<|sE [(93,.bool false)] fun a o=>tK<|cF 93 o<|cN<|bK ?_
     refine tK<|rS o<|tA 1 k 1<|sE [(9,nV (k+1))] fun a o=> ?_
     clear s
     clear A
     replace g:=(((g.ext R).k K (c.ap 3 1)).ext w).k t (c.ap 3 0)
     replace q:=(q.ext w).grew t (c.l 0)
     replace d:=(d.ext w).k t (c.ap 2 0)
     replace c:=c.up t.size
     replace c:=c.sub (l':=[(some G:Option Addr).map (·.block),E.map (·.block)]) (.cons _ (.cons _ (.cons_cons _ (.cons_cons _ (.slnil)))))
     show ∃m',m'<_∧_
     refine⟨_,?_,(k+1),f,rfl,q,(by omega),B,d,g,c,o.to⟩
     omega
    ·have B:∀j,j<k+1→gy (Q.getD k ah) (Q.getD j ah):=fun j hj=>by
      rcases Nat.lt_or_ge j k with z|z
      ·exact cK (AX hc) (hmin j z)
      ·rw[show j=k by omega];exact jw _
     refine rS o ?_
     replace s:=(s.x w).y t (c.bp 1 0)
     refine tO 1 35 s<|tO 3 35 A<|tT 4 (((Q.getD k ah).e)<((Q.getD f ah).e))<|sE [(93,.bool true)] fun a o=>tK<|cT 93 o<|rP [(8,nV k)] o fun a o=> ?_
     refine bK<|tK<|rS o<|tA 1 k 1<|sE [(9,nV (k+1))] fun a o=> ?_
     clear s
     clear A
     replace g:=(((g.ext R).k K (c.ap 3 1)).ext w).k t (c.ap 3 0)
     replace q:=(q.ext w).grew t (c.l 0)
     replace d:=(d.ext w).k t (c.ap 2 0)
     replace c:=c.up t.size
     replace c:=c.sub (l':=[(some G:Option Addr).map (·.block),E.map (·.block)]) (.cons _ (.cons _ (.cons_cons _ (.cons_cons _ (.slnil)))))
     show ∃m',m'<_∧_
     refine⟨_,?_,(k+1),k,rfl,q,(by omega),B,d,g,c,o.to⟩
     omega
    ·have B:∀j,j<k+1→gy (Q.getD f ah) (Q.getD j ah):=fun j hj=>by
      rcases Nat.lt_or_ge j k with z|z
      ·exact hmin j z
      ·rw[show j=k by omega];exact AX hd
     refine rS o ?_
     replace s:=(s.x w).y t (c.bp 1 0)
     refine tO 1 35 s<|tO 3 35 A<|tX 4 (((Q.getD k ah).e)<((Q.getD f ah).e))<|tO 7 35 s<|tO 9 35 A<|eF 10 ((Q.getD k ah).e) ((Q.getD f ah).e)<|sE [(93,.bool false)] fun a o=> ?_
     refine tK<|cF 93 o<|cN<|bK<|tK<|rS o<|tA 1 k 1 ?_
     refine sE [(9,nV (k+1))] fun a o=> ?_
     clear s
     clear A
     replace g:=(((g.ext R).k K (c.ap 3 1)).ext w).k t (c.ap 3 0)
     replace q:=(q.ext w).grew t (c.l 0)
     replace d:=(d.ext w).k t (c.ap 2 0)
     replace c:=c.up t.size
     replace c:=c.sub (l':=[(some G:Option Addr).map (·.block),E.map (·.block)]) (.cons _ (.cons _ (.cons_cons _ (.cons_cons _ (.slnil)))))
     show ∃m',m'<_∧_
     refine⟨_,?_,(k+1),f,rfl,q,(by omega),B,d,g,c,o.to⟩
     omega
   ·have c7:f<Q.length :=by omega
    have a8:∀j,j<Q.length →gy (Q.getD f ah) (Q.getD j ah):=fun j hj=>hmin j (by omega)
    refine cX 4 (xT (xT (xB ?_)))
    refine tK<|qS o<|tI 3 G Q.length 39 f (f*39)<|t1 4 (.pointer (some (Addr.add G (f*39)))) (.pointer (some ((Addr.add G (f*39)).add 0))) (by rw[add_add,Nat.add_zero])<|tC 5 (.string (((Q.getD f ah).b).id)) (Calm.load (T:=9) (p:=(Addr.add G (f*39))) (by kernel_rfl) (Loads.one (k:=1) (by kernel_rfl) (Row.rL (i:=f) (j:=0) (u:= .string (((Q.getD f ah).b).id)) (d.row) (by omega) rfl)))<|tN 6 (.slice (some ⟨Y.size,0,none⟩) 1 1) #[.string (((Q.getD f ah).b).id)] 9 fun e8 a9 b0=> ?_
    replace c:=c.nw q.size b0
    replace g:=g.ext a9
    refine tP 7 ((U++[Q.getD f ah]).length) 16 ((ids U++[((Q.getD f ah).b).id]).map Value.string) g (Row.blk (n:=1) (sz:=1) (l:=[((Q.getD f ah).b).id].map Value.string) b0 rfl) (fR _) (fun O W b1 g b2 a3=> ?_) (ys:=(([((Q.getD f ah).b).id]).map Value.string))
    replace q:=q.ext a9
    have c8:=c
    replace c:=c.sa b2 2 a3 g q.size;clear a3
    refine sT [(7,.slice O ((U++[Q.getD f ah]).length) W)] fun a o=>cD [0,0,0,6,15,0,0,64,224,511,1023] 18 mixed o<|mP 6 [1,2] [.slice (some G) Q.length cap,nV f]<|mF 14 3 (.slice (some G) f cap) (fun h=>Calm.cn (a:=(some G)) (len:=Q.length) (cap:=cap) (sz:=39) (x:=(some G)) 0 f cap f cap (by kernel_rfl) (.inl ⟨rfl,rfl⟩) (.inr rfl) (.inl ⟨rfl,rfl⟩) (by omega) (by omega) (fl _ 39) (by first|rfl|omega) (by first|rfl|omega) h)<|mP 110 [5,6] [.slice (some G) Q.length cap,nV f]<|mA 238 7 f 1 ?_
    obtain⟨xd,c9⟩:∃x,x=if cap=f+1 then (some G:Option Addr) else (some G:Option Addr).map (·.add ((f+1)*39)):=⟨_,rfl⟩
    refine mF 494 8 (.slice xd (Q.length - (f+1)) (cap - (f+1))) (fun h=>Calm.cn (a:=(some G)) (len:=Q.length) (cap:=cap) (sz:=39) (x:=xd) (f+1) Q.length cap (Q.length - (f+1)) (cap - (f+1)) (by kernel_rfl) (.inl ⟨rfl,rfl⟩) (.inl ⟨rfl,rfl⟩) (.inr rfl) (by omega) (by omega) c9 (by first|rfl|omega) (by first|rfl|omega) h)<|mN 495 1 0 (.slice (some ⟨b1.size,0,none⟩) 0 0) #[] 95 fun d0 b3 b5=> ?_
    replace q:=q.grew b2 (c8.l 2)
    replace c:=c.nw q.size b5
    have C:Own d0 (.slice (some ⟨b1.size,0,none⟩) 0 0) 95 ([]:List Rec).length 39 (a_ []):=Own.empty 39 b5
    replace c:Sep h.size d0.size [(some ⟨b1.size,0,none⟩:Option Addr).map (·.block),some (Y.size),(some G:Option Addr).map (·.block),O.map (·.block)]:=c
    replace d:=((d.ext a9).k b2 (c8.ap 1 2)).ext b3
    replace q:=q.ext b3
    replace g:=g.ext b3
    clear b5
    refine th 511 31 4 (0+f) 104 (a_ (Q.take f)) C (d.CC (by omega)) (eH _) (fun d6 d5 e9 C Z a4=> ?_) (ys:=(a_ (Q.take f))) (hZ:=by first|rfl|exact List.flatMap_append.symm |simp[a_]) (x:= .slice (some G) f cap)
    have b6:=c
    replace c:=c.sa Z 0 a4 C q.size;clear a4
    replace d:=d.k Z (b6.ap 2 0)
    refine th 1023 1023 9 ((Q.take f++Q.drop (f+1)).length) 104 (a_ (Q.take f++Q.drop (f+1))) C (d.CD (by omega) c9) (eH _) (fun P N f0 C b7 a5=> ?_) (ys:=(a_ (Q.drop (f+1)))) (hZ:=by first|rfl|exact List.flatMap_append.symm |simp[a_]) (x:= .slice xd (Q.length - (f+1)) (cap - (f+1)))
    replace q:=q.grew Z (b6.l 0)
    have d1:=c
    replace c:=c.sa b7 0 a5 C q.size;clear a5
    refine mP 2047 [10] [.slice P ((Q.take f++Q.drop (f+1)).length) N]<|mE [(5,.slice P ((Q.take f++Q.drop (f+1)).length) N)] fun a o=>bK ?_
    replace g:=(g.k Z (b6.ap 3 0)).k b7 (d1.ap 3 0)
    rw[wW] at g
    have d7:=Bu c7
    clear b0
    replace q:=q.grew b7 (d1.l 0)
    replace c:=c.sub (l':=[P.map (·.block),O.map (·.block)]) (.cons_cons _ (.cons _ (.cons _ (.cons_cons _ (.slnil)))))
    show ∃m',m'<_∧_
    refine⟨_,?_,(U++[Q.getD f ah]),(Q.take f++Q.drop (f+1)),P,N,O,W,rfl,q,(hsel.step c7 a8),C,g,c,o.to⟩
    omega
  ·refine cX 2 (xT (xT (xB ?_)))
   exact tK<|qP [(4,.slice E U.length F)] o fun a o=>cR<|rT 4 (.slice E U.length F) o<|⟨U,E,F,by rw[X];exact hsel.end (by omega),hsel.gA,rfl,g,c.low 1 rfl,q⟩
noncomputable def FX:Code:=Tryz.f114.body.getD .skip
theorem kM(h:Heap)(x:RB)(e:Int)(ho go:Bool)(L:List Pl)(va:Option Addr)(vc:Nat)(hr:Row h (.slice va L.length vc) L.length 4 (dr L))(hL:L.length ≤1099511627776):Sat Tryz.prog 114 #[.agg (rc x e ho go (.slice va L.length vc)).toArray] h fun v h'=>∃c,v= .agg (rc x e ho go c).toArray ∧nf h h' 180 c L:=by
 have g:=Ext.refl h
 have b:Sep h.size h.size []:=Sep.nil _ _
 refine ag Tryz.func114 9 fun a p=>qS p<|tN 0 (pV h.size) ((rc x e ho go (.slice va L.length vc)).toArray) 95 fun t D j=> ?_
 replace b:=b.nw g.size j
 refine tN 1 (pV t.size) ((bZ).toArray) 95 fun u B n=> ?_
 replace g:=g.ext D
 replace b:=b.nw g.size n
 refine sT [(1,pV h.size),(2,pV t.size)] fun a p=>qS p<|tN 0 (.slice (some ⟨u.size,0,none⟩) 0 0) #[] 180 fun C w z=> ?_
 replace g:=g.ext B
 replace b:=b.nw g.size z
 have d:Own C (.slice (some ⟨u.size,0,none⟩) 0 0) 180 ([]:List Pl).length 4 (dr []):=Own.empty 4 z
 replace b:Sep h.size C.size [(some ⟨u.size,0,none⟩:Option Addr).map (·.block),some (t.size),some (h.size)]:=b
 replace j:=(j.x B).x w
 replace g:=g.ext w
 replace n:=n.x w
 clear z
 refine tO 2 38 j<|tP 3 L.length 32 (dr L) d (hr.ext g) (pH _) (fun i f E d m o=> ?_) (hl:=(by unfold maxLen;simp;omega)) (hb:=(by simp;omega)) (hZ:=by first|rfl|exact List.flatMap_append.symm |simp[dr])
 have q:=b
 replace b:=b.sa m 0 o d g.size;clear o
 replace j:=j.y m (q.bp 2 0)
 refine tV 5 38 [.slice i L.length f] (rc x e ho go (.slice i L.length f)) j fun F r A=> ?_
 replace j:=A
 refine sT [] fun a p=>qS p<|tR 0 j ?_
 replace n:=(n.y m (q.bp 1 0)).y r (b.bp 1 2)
 refine bt 1 (rc x e ho go (.slice i L.length f)) n fun G s A=> ?_
 replace n:=A
 refine sT [] fun a p=>cR<|rB n p ?_
 replace g:=((g.grew m (q.l 0)).grew r (b.l 2)).grew s (b.l 1)
 replace d:=(d.k r (b.ap 0 2)).k s (b.ap 0 1)
 exact⟨_,rfl,⟨_,_,rfl,d,b.low 0 rfl,g⟩⟩
noncomputable def b81:Code:=Tryz.f81.body.getD .skip
theorem sJ(h:Heap)(x:RB)(e:Int)(ho:Bool)(L:List Pl)(va:Option Addr)(vc:Nat)(u:Int)(hu0:0≤u)(hu:u≤1099511627776):Sat Tryz.prog 81 #[.agg (rc x e ho true (.slice va L.length vc)).toArray,.int .i64 u] h fun v h'=>v= .tuple #[.agg (rc dF (0:Int) false false (.slice none 0 0)).toArray,.int .i64 213]∧Ext h h':=by
 have d:=Ext.refl h
 have b:Sep h.size h.size []:=Sep.nil _ _
 refine ag Tryz.func81 25 fun a c=>qS c<|tN 0 (pV h.size) ((rc x e ho true (.slice va L.length vc)).toArray) 95 fun i k f=> ?_
 replace b:=b.nw d.size f
 refine tN 1 (pV i.size) ((bZ).toArray) 95 fun o j g=> ?_
 replace d:=d.ext k
 replace b:=b.nw d.size g
 refine sT [(2,pV h.size),(4,pV i.size)] fun a c=>cS<|qS c<|tX 1 (u<(0:Int))<|tX 4 ((1099511627776:Int)<u)<|sT [(11,.bool false)] fun a c=>cF 11 c ?_
 refine cN<|tK<|cS<|qS c ?_
 replace f:=f.x j
 refine tO 1 37 f<|sT [(14,.bool true)] fun a c=>cT 14 c<|qS c<|bt 1 (bZ) g fun p m n=> ?_
 replace g:=n
 refine sT [(5,.int .i64 213)] fun a c=>cR (yT ?_)
 refine aA [.cell 4 95,.tmp 5] [.agg (bZ).toArray,.int .i64 213] (.tuple #[.agg (bZ).toArray,.int .i64 213]) rfl c ⟨⟨_,rfl,Loads.blk (vs:=bZ) (by kernel_rfl) g rfl⟩,rfl,trivial⟩ rfl ?_
 replace d:=(d.ext j).grew m (b.l 0)
 exact⟨rfl,d⟩
theorem yr(h:Heap)(x:RB)(e:Int)(ho:Bool)(L:List Pl)(va:Option Addr)(vc:Nat)(hr:Row h (.slice va L.length vc) L.length 4 (dr L))(hL:L.length ≤1099511627776)(u:Int)(hu0:0≤u)(hu:u≤1099511627776):Sat Tryz.prog 81 #[.agg (rc x e ho false (.slice va L.length vc)).toArray,.int .i64 u] h fun v h'=>∃c,v= .tuple #[.agg (rc x (max e u) ho false c).toArray,.int .i64 0]∧nf h h' 180 c L:=by
 have m:=Ext.refl h
 have b:Sep h.size h.size []:=Sep.nil _ _
 refine ag Tryz.func81 25 fun a j=>qS j<|tN 0 (pV h.size) ((rc x e ho false (.slice va L.length vc)).toArray) 95 fun D F n=> ?_
 replace b:=b.nw m.size n
 refine tN 1 (pV D.size) ((bZ).toArray) 95 fun M E o=> ?_
 replace m:=m.ext F
 replace b:=b.nw m.size o
 refine sT [(2,pV h.size),(4,pV D.size)] fun a j=>cS<|qS j<|tX 1 (u<(0:Int))<|tX 4 ((1099511627776:Int)<u)<|sT [(11,.bool false)] fun a j=>cF 11 j ?_
 refine cN<|tK<|cS<|qS j ?_
 replace n:=n.x E
 refine tO 1 37 n<|sT [(14,.bool false)] fun a j=>cF 14 j<|cN<|tK<|qS j<|tR 0 n ?_
 replace m:=m.ext E
 refine tG 1 (kM _ x e ho false L va vc (hr.ext m) hL) ?_
 rintro _ G ⟨_,rfl,i,d,rfl,q,w,g⟩
 have z:=m.size
 have r:=b
 replace m:=m.ext g
 replace n:=n.x g
 replace o:=o.x g
 replace b:=r.cons (x:=i.map (fun(x:Addr)=>x.block)) g.size z (fun k e=>⟨w k e,q.lt (by rw[ae];exact e)⟩)
 have f:Own G (.slice i L.length d) 180 L.length 4 (dr L):=q;clear q r z w g
 refine bt 2 (rc x e ho false (.slice i L.length d)) n fun H p s=> ?_
 replace n:=s
 refine sT [] fun a j=>cS<|qS j<|tO 2 35 n<|sT [(21,.bool (decide (e<u)))] fun a j=>cJ 21 j (fun A=> ?_) fun A=> ?_
 ·refine rS j<|tV 2 35 [.int .i64 u] (rc x u ho false (.slice i L.length d)) n fun I t s=> ?_
  replace n:=s
  refine sE [] fun a j=>tK<|qS j<|tR 0 n ?_
  replace o:=(o.y p (b.bp 1 2)).y t (b.bp 1 2)
  refine bt 1 (rc x u ho false (.slice i L.length d)) o fun J B s=> ?_
  replace o:=s
  refine sT [(5,.int .i64 0)] fun a j=>cR<|aA [.cell 4 95,.tmp 5] [.agg (rc x u ho false (.slice i L.length d)).toArray,.int .i64 0] (.tuple #[.agg (rc x u ho false (.slice i L.length d)).toArray,.int .i64 0]) rfl j ⟨⟨_,rfl,Loads.blk (vs:=rc x u ho false (.slice i L.length d)) (by kernel_rfl) o rfl⟩,rfl,trivial⟩ rfl ?_
  replace m:=((m.grew p (b.l 2)).grew t (b.l 2)).grew B (b.l 1)
  replace f:=((f.k p (b.ap 0 2)).k t (b.ap 0 2)).k B (b.ap 0 1)
  exact⟨_,by rw[Int.max_eq_right (by omega)],⟨_,_,rfl,f,b.low 0 rfl,m⟩⟩
 ·refine cN<|tK<|qS j<|tR 0 n ?_
  replace o:=o.y p (b.bp 1 2)
  refine bt 1 (rc x e ho false (.slice i L.length d)) o fun K C s=> ?_
  replace o:=s
  refine sT [(5,.int .i64 0)] fun a j=>cR<|aA [.cell 4 95,.tmp 5] [.agg (rc x e ho false (.slice i L.length d)).toArray,.int .i64 0] (.tuple #[.agg (rc x e ho false (.slice i L.length d)).toArray,.int .i64 0]) rfl j ⟨⟨_,rfl,Loads.blk (vs:=rc x e ho false (.slice i L.length d)) (by kernel_rfl) o rfl⟩,rfl,trivial⟩ rfl ?_
  replace m:=(m.grew p (b.l 2)).grew C (b.l 1)
  replace f:=(f.k p (b.ap 0 2)).k C (b.ap 0 1)
  exact⟨_,by rw[Int.max_eq_left (by omega)],⟨_,_,rfl,f,b.low 0 rfl,m⟩⟩
noncomputable def b82:Code:=Tryz.f82.body.getD .skip
theorem sK(h:Heap)(x:RB)(e:Int)(ho:Bool)(L:List Pl)(va:Option Addr)(vc:Nat)(on:Bool):Sat Tryz.prog 82 #[.agg (rc x e ho true (.slice va L.length vc)).toArray,.bool on] h fun v h'=>v= .tuple #[.agg (rc dF (0:Int) false false (.slice none 0 0)).toArray,.int .i64 213]∧Ext h h':=by
 have d:=Ext.refl h
 have b:Sep h.size h.size []:=Sep.nil _ _
 refine ag Tryz.func82 14 fun a c=>qS c<|tN 0 (pV h.size) ((rc x e ho true (.slice va L.length vc)).toArray) 95 fun i k f=> ?_
 replace b:=b.nw d.size f
 refine tN 1 (pV i.size) ((bZ).toArray) 95 fun o j g=> ?_
 replace d:=d.ext k
 replace b:=b.nw d.size g
 refine sT [(2,pV h.size),(4,pV i.size)] fun a c=>cS<|qS c ?_
 replace f:=f.x j
 refine tO 1 37 f<|sT [(7,.bool true)] fun a c=>cT 7 c<|qS c<|bt 1 (bZ) g fun p m n=> ?_
 replace g:=n
 refine sT [(5,.int .i64 213)] fun a c=>cR (yT ?_)
 refine aA [.cell 4 95,.tmp 5] [.agg (bZ).toArray,.int .i64 213] (.tuple #[.agg (bZ).toArray,.int .i64 213]) rfl c ⟨⟨_,rfl,Loads.blk (vs:=bZ) (by kernel_rfl) g rfl⟩,rfl,trivial⟩ rfl ?_
 replace d:=(d.ext j).grew m (b.l 0)
 exact⟨rfl,d⟩
theorem yt(h:Heap)(x:RB)(e:Int)(ho:Bool)(L:List Pl)(va:Option Addr)(vc:Nat)(hr:Row h (.slice va L.length vc) L.length 4 (dr L))(hL:L.length ≤1099511627776)(on:Bool):Sat Tryz.prog 82 #[.agg (rc x e ho false (.slice va L.length vc)).toArray,.bool on] h fun v h'=>∃c,v= .tuple #[.agg (rc x e on false c).toArray,.int .i64 0]∧nf h h' 180 c L:=by
 have j:=Ext.refl h
 have b:Sep h.size h.size []:=Sep.nil _ _
 refine ag Tryz.func82 14 fun a m=>qS m<|tN 0 (pV h.size) ((rc x e ho false (.slice va L.length vc)).toArray) 95 fun A C n=> ?_
 replace b:=b.nw j.size n
 refine tN 1 (pV A.size) ((bZ).toArray) 95 fun H B p=> ?_
 replace j:=j.ext C
 replace b:=b.nw j.size p
 refine sT [(2,pV h.size),(4,pV A.size)] fun a m=>cS<|qS m ?_
 replace n:=n.x B
 refine tO 1 37 n<|sT [(7,.bool false)] fun a m=>cF 7 m<|cN<|tK<|qS m<|tR 0 n ?_
 replace j:=j.ext B
 refine tG 1 (kM _ x e ho false L va vc (hr.ext j) hL) ?_
 rintro _ D ⟨_,rfl,f,d,rfl,o,t,g⟩
 have u:=j.size
 have q:=b
 replace j:=j.ext g
 replace n:=n.x g
 replace p:=p.x g
 replace b:=q.cons (x:=f.map (fun(x:Addr)=>x.block)) g.size u (fun k e=>⟨t k e,o.lt (by rw[ae];exact e)⟩)
 have i:Own D (.slice f L.length d) 180 L.length 4 (dr L):=o;clear o q u t g
 refine bt 2 (rc x e ho false (.slice f L.length d)) n fun E r w=> ?_
 replace n:=w
 refine sT [] fun a m=>qS m<|tV 2 36 [.bool on] (rc x e on false (.slice f L.length d)) n fun F s w=> ?_
 replace n:=w
 refine sT [] fun a m=>qS m<|tR 0 n ?_
 replace p:=(p.y r (b.bp 1 2)).y s (b.bp 1 2)
 refine bt 1 (rc x e on false (.slice f L.length d)) p fun G z w=> ?_
 replace p:=w
 refine sT [(5,.int .i64 0)] fun a m=>cR<|aA [.cell 4 95,.tmp 5] [.agg (rc x e on false (.slice f L.length d)).toArray,.int .i64 0] (.tuple #[.agg (rc x e on false (.slice f L.length d)).toArray,.int .i64 0]) rfl m ⟨⟨_,rfl,Loads.blk (vs:=rc x e on false (.slice f L.length d)) (by kernel_rfl) p rfl⟩,rfl,trivial⟩ rfl ?_
 replace j:=((j.grew r (b.l 2)).grew s (b.l 2)).grew z (b.l 1)
 replace i:=((i.k r (b.ap 0 2)).k s (b.ap 0 2)).k z (b.ap 0 1)
 exact⟨_,rfl,⟨_,_,rfl,i,b.low 0 rfl,j⟩⟩
noncomputable def b83:Code:=Tryz.f83.body.getD .skip
theorem vP(h:Heap)(x:RB)(e:Int)(ho:Bool)(L:List Pl)(va:Option Addr)(vc:Nat)(u:Int):Sat Tryz.prog 83 #[.agg (rc x e ho true (.slice va L.length vc)).toArray,.int .i64 u] h fun v h'=>v= .tuple #[.agg (rc dF (0:Int) false false (.slice none 0 0)).toArray,.int .i64 213]∧Ext h h':=by
 have d:=Ext.refl h
 have b:Sep h.size h.size []:=Sep.nil _ _
 refine ag Tryz.func83 21 fun a c=>qS c<|tN 0 (pV h.size) ((rc x e ho true (.slice va L.length vc)).toArray) 95 fun i k f=> ?_
 replace b:=b.nw d.size f
 refine tN 1 (pV i.size) ((bZ).toArray) 95 fun o j g=> ?_
 replace d:=d.ext k
 replace b:=b.nw d.size g
 refine sT [(2,pV h.size),(4,pV i.size)] fun a c=>cS<|qS c ?_
 replace f:=f.x j
 refine tO 1 37 f<|sT [(7,.bool true)] fun a c=>cT 7 c<|qS c<|bt 1 (bZ) g fun p m n=> ?_
 replace g:=n
 refine sT [(5,.int .i64 213)] fun a c=>cR (yT ?_)
 refine aA [.cell 4 95,.tmp 5] [.agg (bZ).toArray,.int .i64 213] (.tuple #[.agg (bZ).toArray,.int .i64 213]) rfl c ⟨⟨_,rfl,Loads.blk (vs:=bZ) (by kernel_rfl) g rfl⟩,rfl,trivial⟩ rfl ?_
 replace d:=(d.ext j).grew m (b.l 0)
 exact⟨rfl,d⟩
theorem vQ(h:Heap)(x:RB)(e:Int) (L:List Pl)(va:Option Addr)(vc:Nat)(u:Int):Sat Tryz.prog 83 #[.agg (rc x e true false (.slice va L.length vc)).toArray,.int .i64 u] h fun v h'=>v= .tuple #[.agg (rc dF (0:Int) false false (.slice none 0 0)).toArray,.int .i64 214]∧Ext h h':=by
 have d:=Ext.refl h
 have b:Sep h.size h.size []:=Sep.nil _ _
 refine ag Tryz.func83 21 fun a c=>qS c<|tN 0 (pV h.size) ((rc x e true false (.slice va L.length vc)).toArray) 95 fun i k f=> ?_
 replace b:=b.nw d.size f
 refine tN 1 (pV i.size) ((bZ).toArray) 95 fun o j g=> ?_
 replace d:=d.ext k
 replace b:=b.nw d.size g
 refine sT [(2,pV h.size),(4,pV i.size)] fun a c=>cS<|qS c ?_
 replace f:=f.x j
 refine tO 1 37 f<|sT [(7,.bool false)] fun a c=>cF 7 c<|cN<|tK<|cS<|qS c ?_
 refine tO 1 36 f<|sT [(16,.bool true)] fun a c=>cT 16 c<|qS c<|bt 1 (bZ) g fun p m n=> ?_
 replace g:=n
 refine sT [(5,.int .i64 214)] fun a c=>cR (yT ?_)
 refine aA [.cell 4 95,.tmp 5] [.agg (bZ).toArray,.int .i64 214] (.tuple #[.agg (bZ).toArray,.int .i64 214]) rfl c ⟨⟨_,rfl,Loads.blk (vs:=bZ) (by kernel_rfl) g rfl⟩,rfl,trivial⟩ rfl ?_
 replace d:=(d.ext j).grew m (b.l 0)
 exact⟨rfl,d⟩
theorem vR(h:Heap)(x:RB)(e:Int) (L:List Pl)(va:Option Addr)(vc:Nat)(u:Int)(hu:u<e):Sat Tryz.prog 83 #[.agg (rc x e false false (.slice va L.length vc)).toArray,.int .i64 u] h fun v h'=>v= .tuple #[.agg (rc dF (0:Int) false false (.slice none 0 0)).toArray,.int .i64 214]∧Ext h h':=by
 have d:=Ext.refl h
 have b:Sep h.size h.size []:=Sep.nil _ _
 refine ag Tryz.func83 21 fun a c=>qS c<|tN 0 (pV h.size) ((rc x e false false (.slice va L.length vc)).toArray) 95 fun i k f=> ?_
 replace b:=b.nw d.size f
 refine tN 1 (pV i.size) ((bZ).toArray) 95 fun o j g=> ?_
 replace d:=d.ext k
 replace b:=b.nw d.size g
 refine sT [(2,pV h.size),(4,pV i.size)] fun a c=>cS<|qS c ?_
 replace f:=f.x j
 refine tO 1 37 f<|sT [(7,.bool false)] fun a c=>cF 7 c<|cN<|tK<|cS<|qS c ?_
 refine tO 1 36 f<|tO 4 35 f<|tT 6 (u<e)<|sT [(16,.bool true)] fun a c=>cT 16 c<|qS c<|bt 1 (bZ) g fun p m n=> ?_
 replace g:=n
 refine sT [(5,.int .i64 214)] fun a c=>cR (yT ?_)
 refine aA [.cell 4 95,.tmp 5] [.agg (bZ).toArray,.int .i64 214] (.tuple #[.agg (bZ).toArray,.int .i64 214]) rfl c ⟨⟨_,rfl,Loads.blk (vs:=bZ) (by kernel_rfl) g rfl⟩,rfl,trivial⟩ rfl ?_
 replace d:=(d.ext j).grew m (b.l 0)
 exact⟨rfl,d⟩
theorem Am(h:Heap)(x:RB)(e:Int) (L:List Pl)(va:Option Addr)(vc:Nat)(u:Int)(hu:e≤u):Sat Tryz.prog 83 #[.agg (rc x e false false (.slice va L.length vc)).toArray,.int .i64 u] h fun v h'=>v= .tuple #[.agg (rc x e false true (.slice none 0 0)).toArray,.int .i64 0]∧Ext h h':=by
 have f:=Ext.refl h
 have b:Sep h.size h.size []:=Sep.nil _ _
 refine ag Tryz.func83 21 fun a c=>qS c<|tN 0 (pV h.size) ((rc x e false false (.slice va L.length vc)).toArray) 95 fun m p d=> ?_
 replace b:=b.nw f.size d
 refine tN 1 (pV m.size) ((bZ).toArray) 95 fun r n g=> ?_
 replace f:=f.ext p
 replace b:=b.nw f.size g
 refine sT [(2,pV h.size),(4,pV m.size)] fun a c=>cS<|qS c ?_
 replace d:=d.x n
 refine tO 1 37 d<|sT [(7,.bool false)] fun a c=>cF 7 c<|cN<|tK<|cS<|qS c ?_
 refine tO 1 36 d<|tO 4 35 d<|tX 6 (u<e)<|sT [(16,.bool false)] fun a c=>cF 16 c<|cN<|tK ?_
 refine qS c<|tV 1 37 [.bool true] (rc x e false true (.slice va L.length vc)) d fun s o i=> ?_
 replace d:=i
 refine sT [] fun a c=>qS c<|tV 1 38 [.slice none 0 0] (rc x e false true (.slice none 0 0)) d fun t j i=> ?_
 replace d:=i
 refine sT [] fun a c=>qS c<|tR 0 d ?_
 replace g:=(g.y o (b.bp 0 1)).y j (b.bp 0 1)
 refine bt 1 (rc x e false true (.slice none 0 0)) g fun q k i=> ?_
 replace g:=i
 refine sT [(5,.int .i64 0)] fun a c=>cR<|aA [.cell 4 95,.tmp 5] [.agg (rc x e false true (.slice none 0 0)).toArray,.int .i64 0] (.tuple #[.agg (rc x e false true (.slice none 0 0)).toArray,.int .i64 0]) rfl c ⟨⟨_,rfl,Loads.blk (vs:=rc x e false true (.slice none 0 0)) (by kernel_rfl) g rfl⟩,rfl,trivial⟩ rfl ?_
 replace f:=(((f.ext n).grew o (b.l 1)).grew j (b.l 1)).grew k (b.l 0)
 exact⟨rfl,f⟩
noncomputable def b43:Code:=Tryz.f43.body.getD .skip
theorem kN {W:Nat→Prop}(h:Heap)(rb:Nat)(M:Md)(T:List RO)(oa:Option Addr)(oc:Nat)(ea:Option Addr)(ec:Nat)(es:List Value)(md:bE W h rb M T oa oc ea ec es)(hE:M.E.length ≤1099511627):Sat Tryz.prog 43 #[.pointer (some ⟨rb,0,none⟩)] h fun v h'=>∃ad cap,v= .slice ad M.E.length cap∧Own h' (.slice ad M.E.length cap) 39 M.E.length 32 (hcs (cP M.E))∧(∀k,ad.map (fun(x:Addr)=>x.block)=some k→h.size ≤k)∧Ext h h':=by
 have hm:=md.hm
 have R:=md.ln
 have f:=Ext.refl h
 have c:Sep h.size h.size []:=Sep.nil _ _
 refine ag Tryz.func43 27 fun a d=>qP [] d fun a d=>qS d<|tN 0 (.slice (some ⟨h.size,0,none⟩) 0 0) #[] 39 fun H S y=> ?_
 replace c:=c.nw f.size y
 have b:Own H (.slice (some ⟨h.size,0,none⟩) 0 0) 39 ([]:List UInt8).length 32 (hcs []):=Own.empty 32 y
 replace c:Sep h.size H.size [(some ⟨h.size,0,none⟩:Option Addr).map (·.block)]:=c
 replace f:=f.ext S
 clear y
 refine sT [(3,.slice (some ⟨h.size,0,none⟩) 0 0)] fun a d=>cS<|qP [(4,.int .i64 0)] d fun a d=>cB 0<|cL (fun m a h'=>∃k:Nat,∃ad:Option Addr,∃cap:Nat,m=M.E.length - k∧(Ext h h')∧(k≤M.E.length)∧(Own h' (.slice ad k cap) 39 k 32 (hcs (cP (M.E.take k))))∧(Sep h.size h'.size [ad.map (·.block)])∧(Fr a 27 [(0,.pointer (some ⟨rb,0,none⟩)),(3,.slice ad k cap),(4,.int .i64 ((k:Nat):Int))])) (M.E.length - 0) ⟨0,(some ⟨h.size,0,none⟩),0,rfl,f,(by omega),b,c,d.to⟩ ?_
 clear d a
 clear f
 clear b
 clear c
 rintro m a X ⟨k,ad,cap,rfl,f,Y,b,c,d⟩
 refine cS<|qS d<|tO 4 1 (f.blk hm)<|sT [(12,.bool (decide (((k:Nat):Int)<((M.E.length :Nat):Int))))] fun a d=>cJ 12 d (fun z=> ?_) fun z=> ?_
 ·have A:k<M.E.length :=by omega
  obtain⟨e,I⟩:∃e,M.E[k]? =some e:=⟨_,List.getElem?_eq_getElem A⟩
  obtain⟨U,J,K,B,C⟩:=md.en.2 k e I
  have r:=d
  obtain⟨N,rfl,s⟩:=md.er.1.1.bf (by omega)
  have d:=r;clear r
  refine cN<|tK<|cS<|cB 1<|rS d<|tO 4 1 (f.blk hm)<|tI 6 N M.E.length 1 k k ?_
  refine tC 7 (.slice J e.length K) (Calm.load (T:=32) (p:=(Addr.add N k)) (by kernel_rfl) (Loads.one (k:=1) (by kernel_rfl) ((md.er.1.1.ext f).cells _ _ B)))<|tG 8 (nM _ e J K (C.1.1.ext f) (by omega)) ?_
  rintro _ O ⟨rfl,D⟩
  refine tF 9 (Does.newHs (L:=[cV e]) (t:=45) (E:=39) (db:=32) (n:=1) (by kernel_rfl) (by kernel_rfl) (aq.cons (dG _) aq.nil) rfl (by decide) (by decide)) ?_
  rintro _ P ⟨rfl,F⟩
  have Q:Ext O P:=aT F
  have q:P[O.size]? =some (.cells (hcs [cV e]).toArray 39):=bj F
  clear F
  replace f:=f.ext D
  have u:=f.size
  replace c:=c.up D.size
  have j:=c
  replace c:=j.new u (aj q)
  clear j u
  replace b:=(b.ext D).ext Q
  refine tP 10 (k+1) 32 (hcs (cP (M.E.take k)++[cV e])) b (hrow1 (dG _) q) (di _) (fun g i V b w o=> ?_) (ys:=(hcs ([cV e]))) (hZ:=by first|rfl|exact(aX _ _).symm |simp[aX])
  replace f:=f.ext Q
  have G:=c
  replace c:=c.sa w 1 o b f.size;clear o
  refine sE [(3,.slice g (k+1) i)] fun a d=>bK<|tK<|rS d<|tA 1 k 1<|sE [(4,nV (k+1))] fun a d=> ?_
  rw[nL I] at b
  clear q
  replace f:=f.grew w (G.l 1)
  replace c:=c.sub (l':=[g.map (·.block)]) (.cons _ (.cons_cons _ (.slnil)))
  show ∃m',m'<_∧_
  refine⟨_,?_,(k+1),g,i,rfl,f,(by omega),b,c,d.to⟩
  omega
 ·refine cX 0 (xT (xT (xB ?_)))
  refine tK<|qP [(2,.slice ad k cap)] d fun a d=>cR<|rT 2 (.slice ad k cap) d ?_
  obtain rfl:k=M.E.length :=by omega
  rw[List.take_length] at b
  exact⟨ad,cap,rfl,b,c.low 0 rfl,f⟩
noncomputable def b39:Code:=Tryz.f39.body.getD .skip
set_option maxHeartbeats 1000000 in
theorem hU {W:Nat→Prop}(h:Heap)(rb:Nat)(M:Md)(T:List RO)(oa:Option Addr)(oc:Nat)(ea:Option Addr)(ec:Nat)(es:List Value)(md:bE W h rb M T oa oc ea ec es)(kd n:Int)(s:ByteArray)(pa:Option Addr)(on pc:Nat)(ka:Option Addr)(kn kc:Nat)(hsz:s.size ≤9223372036854775807)(hE:M.E.length ≤1099511627):Sat Tryz.prog 39 #[.pointer (some ⟨rb,0,none⟩),.agg #[.int .i64 kd,.string s,.slice pa on pc,.int .i64 n,.slice ka kn kc]] h fun v h'=>v= .int .i64 (fL M kd n s).2 ∧bC W h' rb (fL M kd n s).1 ∧RG rb h h':=by
 have hm:=md.hm
 have b3:=md.ln
 have d:=Ext.refl h
 have i:Sep h.size h.size []:=Sep.nil _ _
 refine ag Tryz.func39 80 fun a c=>qS c<|tN 0 (pV h.size) #[.int .i64 kd,.string s,.slice pa on pc,.int .i64 n,.slice ka kn kc] 35 fun h1 Q m=> ?_
 replace i:=i.nw d.size m
 refine sT [(3,pV h.size)] fun a c=>cS<|cS ?_
 rcases md.kv s with k|⟨k,I,A,B,rfl,Y,hB⟩|⟨k,A,x,B,rfl,Y,rfl,I⟩
 ·refine rS c<|tO 1 1 m<|tC 2 (.bool false) (Does.call (f:=27) (args:= #[.string s]) (by kernel_rfl) (ml _ s hsz k))<|sE [(11,.bool true)] fun a c=>tK<|cT 11 c<|qP [(4,.int .i64 210)] c fun a c=> ?_
  refine cR (yT ?_)
  refine rT 4 (.int .i64 210) c ?_
  replace d:=d.ext Q
  rw[w6 k];exact⟨rfl,⟨_,_,_,_,_,_,md.ext d⟩,RG.aI d⟩
 ·refine rS c<|tO 1 1 m<|tC 2 (.bool true) (Does.call (f:=27) (args:= #[.string s]) (by kernel_rfl) (eu _ s k))<|sE [(11,.bool false)] fun a c=>tK<|cF 11 c<|cN ?_
  refine tK<|cS<|cS ?_
  rcases oJ kd n with r|r|r|r
  ·refine rS c<|tO 1 0 m<|eT 2 kd 4<|tO 5 3 m<|tT 6 (n<(0:Int))<|sE [(24,.bool true)] fun a c=>tK ?_
   refine cT 24 c<|qP [(4,.int .i64 1)] c fun a c=>cR (yT ?_)
   refine rT 4 (.int .i64 1) c ?_
   replace d:=d.ext Q
   rw[fA k (by omega)];exact⟨rfl,⟨_,_,_,_,_,_,md.ext d⟩,RG.aI d⟩
  ·refine rS c<|tO 1 0 m<|eT 2 kd 4<|tO 5 3 m<|tX 6 (n<(0:Int))<|tO 9 3 m<|tT 10 ((1099511627776:Int)<n) ?_
   refine sE [(24,.bool true)] fun a c=>tK<|cT 24 c<|qP [(4,.int .i64 1)] c fun a c=>cR (yT ?_)
   refine rT 4 (.int .i64 1) c ?_
   replace d:=d.ext Q
   rw[fA k (by omega)];exact⟨rfl,⟨_,_,_,_,_,_,md.ext d⟩,RG.aI d⟩
  ·refine rS c<|tO 1 0 m<|eT 2 kd 4<|tO 5 3 m<|tX 6 (n<(0:Int))<|tO 9 3 m<|tX 10 ((1099511627776:Int)<n) ?_
   refine sE [(24,.bool false)] fun a c=>tK<|cF 24 c<|cN<|tK<|qS c<|tO 2 1 m ?_
   replace d:=d.ext Q
   refine tC 3 (.tuple #[.int .i64 0,.int .i64 211]) (Does.call (f:=80) (args:= #[pV rb,.string s]) (by kernel_rfl) (ew _ rb M (A++B) oa oc ea ec es (md.ext d) s hsz 0 211 (.inr (.inl ⟨k,⟨_,.no Y hB⟩,rfl,rfl⟩)) hE))<|sT [(5,.int .i64 0),(6,.int .i64 211)] fun a c=>cS<|qP [(33,.bool true)] c fun a c=>cT 33 c<|qP [(4,.int .i64 211)] c fun a c=>cR (yT ?_)
   refine rT 4 (.int .i64 211) c ?_
   rw[jy k (by omega) I];exact⟨rfl,⟨_,_,_,_,_,_,md.ext d⟩,RG.aI d⟩
  ·refine rS c<|tO 1 0 m<|eF 2 kd 4<|sE [(24,.bool false)] fun a c=>tK<|cF 24 c<|cN ?_
   refine tK<|qS c<|tO 2 1 m ?_
   replace d:=d.ext Q
   refine tC 3 (.tuple #[.int .i64 0,.int .i64 211]) (Does.call (f:=80) (args:= #[pV rb,.string s]) (by kernel_rfl) (ew _ rb M (A++B) oa oc ea ec es (md.ext d) s hsz 0 211 (.inr (.inl ⟨k,⟨_,.no Y hB⟩,rfl,rfl⟩)) hE))<|sT [(5,.int .i64 0),(6,.int .i64 211)] fun a c=>cS<|qP [(33,.bool true)] c fun a c=>cT 33 c<|qP [(4,.int .i64 211)] c fun a c=>cR (yT ?_)
   refine rT 4 (.int .i64 211) c ?_
   rw[jy k (by omega) I];exact⟨rfl,⟨_,_,_,_,_,_,md.ext d⟩,RG.aI d⟩
 ·have b5:A.length <(A++x::B).length :=xr
  refine rS c<|tO 1 1 m<|tC 2 (.bool true) (Does.call (f:=27) (args:= #[.string x.o.b.id]) (by kernel_rfl) (eu _ x.o.b.id k))<|sE [(11,.bool false)] fun a c=>tK<|cF 11 c<|cN ?_
  refine tK<|cS<|cS ?_
  rcases oJ kd n with r|r|r|r
  ·refine rS c<|tO 1 0 m<|eT 2 kd 4<|tO 5 3 m<|tT 6 (n<(0:Int))<|sE [(24,.bool true)] fun a c=>tK ?_
   refine cT 24 c<|qP [(4,.int .i64 1)] c fun a c=>cR (yT ?_)
   refine rT 4 (.int .i64 1) c ?_
   replace d:=d.ext Q
   rw[fA k (by omega)];exact⟨rfl,⟨_,_,_,_,_,_,md.ext d⟩,RG.aI d⟩
  ·refine rS c<|tO 1 0 m<|eT 2 kd 4<|tO 5 3 m<|tX 6 (n<(0:Int))<|tO 9 3 m<|tT 10 ((1099511627776:Int)<n) ?_
   refine sE [(24,.bool true)] fun a c=>tK<|cT 24 c<|qP [(4,.int .i64 1)] c fun a c=>cR (yT ?_)
   refine rT 4 (.int .i64 1) c ?_
   replace d:=d.ext Q
   rw[fA k (by omega)];exact⟨rfl,⟨_,_,_,_,_,_,md.ext d⟩,RG.aI d⟩
  ·refine rS c<|tO 1 0 m<|eT 2 kd 4<|tO 5 3 m<|tX 6 (n<(0:Int))<|tO 9 3 m<|tX 10 ((1099511627776:Int)<n) ?_
   refine sE [(24,.bool false)] fun a c=>tK<|cF 24 c<|cN<|tK<|qS c<|tO 2 1 m ?_
   replace d:=d.ext Q
   refine tC 3 (.tuple #[nV A.length,.int .i64 0]) (Does.call (f:=80) (args:= #[pV rb,.string x.o.b.id]) (by kernel_rfl) (ew _ rb M (A++x::B) oa oc ea ec es (md.ext d) x.o.b.id hsz A.length 0 (.inr (.inr ⟨k,.yes Y rfl,rfl⟩)) hE))<|sT [(5,nV A.length),(6,.int .i64 0)] fun a c=>cS<|qP [(33,.bool false)] c fun a c=>cF 33 c<|cN<|tK ?_
   refine cS ?_
   obtain⟨k1,k2,k3,k4⟩:=md.ob x (by simp)
   have J:=c
   obtain⟨R,rfl,K⟩:=md.row.1.bf (by omega)
   have c:=J;clear J
   ·refine rS c<|tO 3 0 (d.blk hm)<|tI 5 R ((A++x::B).length) 40 A.length (A.length *40)<|t1 6 (.pointer (some (Addr.add R (A.length *40)))) (.pointer (some ((Addr.add R (A.length *40)).add 0))) (by rw[add_add,Nat.add_zero])<|tC 7 (.agg (rc x.o.b x.o.e x.o.ho x.o.go (.slice x.ca 0 x.cc)).toArray) (Calm.load (T:=95) (p:=(Addr.add R (A.length *40))) (by kernel_rfl) (Row.Du (md.row.1.ext d) rZ (by kernel_rfl) rfl))<|tN 8 (pV h1.size) ((bZ).toArray) 95 fun h4 g5 H=> ?_
    replace i:=i.nw d.size H
    refine bt 9 (rc x.o.b x.o.e x.o.ho x.o.go (.slice x.ca 0 x.cc)) H fun h7 g8 G=> ?_
    replace H:=G
    refine sE [(7,pV h1.size)] fun a c=> ?_
    obtain⟨⟨ob,u,P,og,od⟩,ca,cc,ba,bc⟩:=x
    refine tK<|cS<|qS c ?_
    replace m:=(m.x g5).y g8 (i.bp 1 0)
    refine tO 1 0 m<|sT [(44,.int .i64 kd)] fun a c=>cB 0<|qS c<|eT 0 kd 4<|sT [(54,.bool true)] fun a c=>cT 54 c ?_
    cases og
    ·refine rS c<|tR 0 H<|tO 2 3 m<|tG 3 (yr _ ob u P [] ca cc (k3.zero rfl) (by decide) n (by omega) (by omega)) ?_
     rintro _ b6 ⟨_,rfl,Z,L,rfl,C,U,g⟩
     replace d:=(d.ext g5).grew g8 (i.l 0)
     replace i:=i.up g8.size
     replace d:=d.ext g
     replace H:=H.x g
     replace i:=i.up g.size
     clear U g;have V:=C.row;clear C
     refine bt 7 (rc ob (max u n) P false (.slice Z 0 L)) H fun b7 a6 G=> ?_
     replace H:=G
     refine sE [(6,.int .i64 0)] fun a c=>bK<|tK<|cS<|qP [(74,.bool true)] c fun a c=>cT 74 c<|rS c ?_
     refine tR 2 H ?_
     replace d:=d.grew a6 (i.l 0)
     refine tG 3 (mu _ rb M A B _ _ oc ea ec es (md.ext d) (max u n) P false Z L (V.zero rfl) hE) ?_
     rintro _ b8 ⟨D,gm⟩
     have gk:=(RG.aI d).then gm
     refine sE [] fun a c=>tK<|qP [(4,.int .i64 0)] c fun a c=>cR<|rT 4 (.int .i64 0) c ?_
     rw[kx k (by omega) I (o':=⟨ob,(max u n),P,false,od⟩) (by first|exact fc r.1 |exact fe q|exact fS r q N)];exact⟨rfl,D,gk⟩
    ·refine rS c<|tR 0 H<|tO 2 3 m<|tG 3 (sJ _ ob u P [] ca cc n (by omega) (by omega)) ?_
     rintro _ c0 ⟨rfl,a0⟩
     replace H:=H.x a0
     refine bt 7 (bZ) H fun c1 a7 G=>sE [(6,.int .i64 213)] fun a c=>bK<|tK<|cS<|qP [(74,.bool false)] c fun a c=>cF 74 c ?_
     refine cN<|tK<|qP [(4,.int .i64 213)] c fun a c=>cR<|rT 4 (.int .i64 213) c ?_
     replace d:=(((d.ext g5).grew g8 (i.l 0)).ext a0).grew a7 (i.l 0)
     rw[fI k (by omega) I (z:=213) (by first|exact cY|exact cZ r q|exact c_ r q N) (by decide)];exact⟨rfl,⟨_,_,_,_,_,_,md.ext d⟩,RG.aI d⟩
  ·refine rS c<|tO 1 0 m<|eF 2 kd 4<|sE [(24,.bool false)] fun a c=>tK<|cF 24 c<|cN ?_
   refine tK<|qS c<|tO 2 1 m ?_
   replace d:=d.ext Q
   refine tC 3 (.tuple #[nV A.length,.int .i64 0]) (Does.call (f:=80) (args:= #[pV rb,.string x.o.b.id]) (by kernel_rfl) (ew _ rb M (A++x::B) oa oc ea ec es (md.ext d) x.o.b.id hsz A.length 0 (.inr (.inr ⟨k,.yes Y rfl,rfl⟩)) hE))<|sT [(5,nV A.length),(6,.int .i64 0)] fun a c=>cS<|qP [(33,.bool false)] c fun a c=>cF 33 c<|cN<|tK ?_
   refine cS ?_
   obtain⟨k1,k2,k3,k4⟩:=md.ob x (by simp)
   have J:=c
   obtain⟨R,rfl,K⟩:=md.row.1.bf (by omega)
   have c:=J;clear J
   ·refine rS c<|tO 3 0 (d.blk hm)<|tI 5 R ((A++x::B).length) 40 A.length (A.length *40)<|t1 6 (.pointer (some (Addr.add R (A.length *40)))) (.pointer (some ((Addr.add R (A.length *40)).add 0))) (by rw[add_add,Nat.add_zero])<|tC 7 (.agg (rc x.o.b x.o.e x.o.ho x.o.go (.slice x.ca 0 x.cc)).toArray) (Calm.load (T:=95) (p:=(Addr.add R (A.length *40))) (by kernel_rfl) (Row.Du (md.row.1.ext d) rZ (by kernel_rfl) rfl))<|tN 8 (pV h1.size) ((bZ).toArray) 95 fun c2 F j=> ?_
    replace i:=i.nw d.size j
    refine bt 9 (rc x.o.b x.o.e x.o.ho x.o.go (.slice x.ca 0 x.cc)) j fun c3 w G=> ?_
    replace j:=G
    refine sE [(7,pV h1.size)] fun a c=> ?_
    obtain⟨⟨ob,u,P,og,od⟩,ca,cc,ba,bc⟩:=x
    refine tK<|cS<|qS c ?_
    replace m:=(m.x F).y w (i.bp 1 0)
    refine tO 1 0 m<|sT [(44,.int .i64 kd)] fun a c=>cB 0<|qS c<|eF 0 kd 4<|sT [(54,.bool false)] fun a c=>cF 54 c ?_
    refine cS ?_
    rcases(by omega:kd=5∨kd≠5) with q|q
    ·refine rS c<|eT 0 kd 5<|sE [(63,.bool true)] fun a c=>tK<|cT 63 c ?_
     cases og
     ·refine rS c<|tR 0 j<|tO 2 3 m<|tG 4 (yt _ ob u P [] ca cc (k3.zero rfl) (by decide) (decide (n=(1:Int)))) ?_
      rintro _ c4 ⟨_,rfl,S,O,rfl,C,U,g⟩
      replace d:=(d.ext F).grew w (i.l 0)
      replace i:=i.up w.size
      replace d:=d.ext g
      replace j:=j.x g
      replace i:=i.up g.size
      clear U g;have V:=C.row;clear C
      refine bt 8 (rc ob u (decide (n=(1:Int))) false (.slice S 0 O)) j fun c5 a8 G=> ?_
      replace j:=G
      refine sE [(6,.int .i64 0)] fun a c=>bK<|tK<|cS<|qP [(74,.bool true)] c fun a c=>cT 74 c<|rS c ?_
      refine tR 2 j ?_
      replace d:=d.grew a8 (i.l 0)
      refine tG 3 (mu _ rb M A B _ _ oc ea ec es (md.ext d) u (decide (n=(1:Int))) false S O (V.zero rfl) hE) ?_
      rintro _ c6 ⟨D,gm⟩
      have gk:=(RG.aI d).then gm
      refine sE [] fun a c=>tK<|qP [(4,.int .i64 0)] c fun a c=>cR<|rT 4 (.int .i64 0) c ?_
      rw[kx k (by omega) I (o':=⟨ob,u,(decide (n=(1:Int))),false,od⟩) (by first|exact fc r.1 |exact fe q|exact fS r q N)];exact⟨rfl,D,gk⟩
     ·refine rS c<|tR 0 j<|tO 2 3 m<|tG 4 (sK _ ob u P [] ca cc (decide (n=(1:Int)))) ?_
      rintro _ c7 ⟨rfl,a1⟩
      replace j:=j.x a1
      refine bt 8 (bZ) j fun c8 a9 G=>sE [(6,.int .i64 213)] fun a c=>bK<|tK<|cS<|qP [(74,.bool false)] c fun a c=>cF 74 c ?_
      refine cN<|tK<|qP [(4,.int .i64 213)] c fun a c=>cR<|rT 4 (.int .i64 213) c ?_
      replace d:=(((d.ext F).grew w (i.l 0)).ext a1).grew a9 (i.l 0)
      rw[fI k (by omega) I (z:=213) (by first|exact cY|exact cZ r q|exact c_ r q N) (by decide)];exact⟨rfl,⟨_,_,_,_,_,_,md.ext d⟩,RG.aI d⟩
    ·refine rS c<|eF 0 kd 5<|sE [(63,.bool false)] fun a c=>tK<|cF 63 c ?_
     rcases uj og P M.t u with rfl|⟨rfl,rfl⟩|⟨rfl,rfl,N⟩|⟨rfl,rfl,N⟩
     ·refine cD [0,0,2,6,14,31,63,127,127,255,1023] 10 mixed c<|mR 1 1 0 j<|mP 15 [1,2,3] [pV rb,pV rb,.pointer (some ⟨rb,2,none⟩)] ?_
      replace d:=(d.ext F).grew w (i.l 0)
      refine mO 31 17 4 2 (.int .i64 M.t) (d.blk hm)<|gC 63 63 5 (vP _ ob u P [] ca cc M.t) ?_
      rintro _ c9 ⟨rfl,a2⟩
      refine mP 511 [6,7,8] [.tuple #[.agg (bZ).toArray,.int .i64 213],.agg (bZ).toArray,.int .i64 213] ?_
      replace j:=j.x a2
      refine mV 1023 767 9 0 (bZ) (bZ) j fun d0 b0 G=>mP 2047 [10] [.int .i64 213]<|mE [(6,.int .i64 213)] fun a c=>bK<|tK<|cS<|qP [(74,.bool false)] c fun a c=> ?_
      refine cF 74 c<|cN<|tK<|qP [(4,.int .i64 213)] c fun a c=>cR<|rT 4 (.int .i64 213) c ?_
      replace d:=(d.ext a2).grew b0 (i.l 0)
      rw[fI k (by omega) I (z:=213) (by first|exact cY|exact cZ r q|exact c_ r q N) (by decide)];exact⟨rfl,⟨_,_,_,_,_,_,md.ext d⟩,RG.aI d⟩
     ·refine cD [0,0,2,6,14,31,63,127,127,255,1023] 10 mixed c<|mR 1 1 0 j<|mP 15 [1,2,3] [pV rb,pV rb,.pointer (some ⟨rb,2,none⟩)] ?_
      replace d:=(d.ext F).grew w (i.l 0)
      refine mO 31 17 4 2 (.int .i64 M.t) (d.blk hm)<|gC 63 63 5 (vQ _ ob u [] ca cc M.t) ?_
      rintro _ d1 ⟨rfl,a3⟩
      refine mP 511 [6,7,8] [.tuple #[.agg (bZ).toArray,.int .i64 214],.agg (bZ).toArray,.int .i64 214] ?_
      replace j:=j.x a3
      refine mV 1023 767 9 0 (bZ) (bZ) j fun d2 b1 G=>mP 2047 [10] [.int .i64 214]<|mE [(6,.int .i64 214)] fun a c=>bK<|tK<|cS<|qP [(74,.bool false)] c fun a c=> ?_
      refine cF 74 c<|cN<|tK<|qP [(4,.int .i64 214)] c fun a c=>cR<|rT 4 (.int .i64 214) c ?_
      replace d:=(d.ext a3).grew b1 (i.l 0)
      rw[fI k (by omega) I (z:=214) (by first|exact cY|exact cZ r q|exact c_ r q N) (by decide)];exact⟨rfl,⟨_,_,_,_,_,_,md.ext d⟩,RG.aI d⟩
     ·refine cD [0,0,2,6,14,31,63,127,127,255,1023] 10 mixed c<|mR 1 1 0 j<|mP 15 [1,2,3] [pV rb,pV rb,.pointer (some ⟨rb,2,none⟩)] ?_
      replace d:=(d.ext F).grew w (i.l 0)
      refine mO 31 17 4 2 (.int .i64 M.t) (d.blk hm)<|gC 63 63 5 (vR _ ob u [] ca cc M.t N) ?_
      rintro _ d3 ⟨rfl,a4⟩
      refine mP 511 [6,7,8] [.tuple #[.agg (bZ).toArray,.int .i64 214],.agg (bZ).toArray,.int .i64 214] ?_
      replace j:=j.x a4
      refine mV 1023 767 9 0 (bZ) (bZ) j fun d4 b2 G=>mP 2047 [10] [.int .i64 214]<|mE [(6,.int .i64 214)] fun a c=>bK<|tK<|cS<|qP [(74,.bool false)] c fun a c=> ?_
      refine cF 74 c<|cN<|tK<|qP [(4,.int .i64 214)] c fun a c=>cR<|rT 4 (.int .i64 214) c ?_
      replace d:=(d.ext a4).grew b2 (i.l 0)
      rw[fI k (by omega) I (z:=214) (by first|exact cY|exact cZ r q|exact c_ r q N) (by decide)];exact⟨rfl,⟨_,_,_,_,_,_,md.ext d⟩,RG.aI d⟩
     ·refine cD [0,0,2,6,14,31,63,127,127,255,1023] 10 mixed c<|mR 1 1 0 j<|mP 15 [1,2,3] [pV rb,pV rb,.pointer (some ⟨rb,2,none⟩)] ?_
      replace d:=(d.ext F).grew w (i.l 0)
      refine mO 31 17 4 2 (.int .i64 M.t) (d.blk hm)<|gC 63 63 5 (Am _ ob u [] ca cc M.t N) ?_
      rintro _ d5 ⟨rfl,X⟩
      refine mP 511 [6,7,8] [.tuple #[.agg (rc ob u false true (.slice none 0 0)).toArray,.int .i64 0],.agg (rc ob u false true (.slice none 0 0)).toArray,.int .i64 0] ?_
      replace j:=j.x X
      refine mV 1023 767 9 0 (rc ob u false true (.slice none 0 0)) (rc ob u false true (.slice none 0 0)) j fun d6 a5 G=> ?_
      replace j:=G
      refine mP 2047 [10] [.int .i64 0]<|mE [(6,.int .i64 0)] fun a c=>bK<|tK<|cS<|qP [(74,.bool true)] c fun a c=>cT 74 c ?_
      refine rS c<|tR 2 j ?_
      replace i:=((i.up w.size).up X.size).up a5.size
      replace d:=(d.ext X).grew a5 (i.l 0)
      refine tG 3 (mu _ rb M A B _ _ oc ea ec es (md.ext d) u false true none 0 (Row.nil _ 4) hE) ?_
      rintro _ d7 ⟨D,gm⟩
      have gk:=(RG.aI d).then gm
      refine sE [] fun a c=>tK<|qP [(4,.int .i64 0)] c fun a c=>cR<|rT 4 (.int .i64 0) c ?_
      rw[kx k (by omega) I (o':=⟨ob,u,false,true,od⟩) (by first|exact fc r.1 |exact fe q|exact fS r q N)];exact⟨rfl,D,gk⟩
theorem Ao(h:Heap)(L:List Hs)(va:Option Addr)(vc n:Nat)(hL:HR h va vc n L)(hn:n≤1099511627000)(i:Int)(p:List Hs)(e:Int)(hz:cO L i=(p,e)):Sat Tryz.prog 85 #[.slice va n vc,.int .i64 i] h fun v h'=>∃ad cap,v= .tuple #[.slice ad p.length cap,.int .i64 e]∧Own h' (.slice ad p.length cap) 39 p.length 32 (hcs p)∧(∀k,ad.map (fun(x:Addr)=>x.block)=some k→h.size ≤k)∧Ext h h':=
 (yn h L va vc n hL hn i p e hz).mono fun v h' ⟨s,hv,ad,cap,hs,o,hge,g⟩=>by
  subst hs
  exact⟨ad,cap,hv,o,hge,g⟩
theorem Ap(h:Heap)(L:List Hs)(va:Option Addr)(vc n:Nat)(hL:HR h va vc n L)(hn:n≤1099511627000):Sat Tryz.prog 42 #[.slice va n vc] h fun v h'=>v= .agg ((hl (pN (root L))).map bv).toArray ∧Ext h h':=by
 rw[l_ (bg hL.2.1)];exact iH h L va vc n hL hn
noncomputable def b40:Code:=Tryz.f40.body.getD .skip
set_option maxHeartbeats 1000000 in
theorem jW {W:Nat→Prop}(h:Heap)(rb:Nat)(M:Md)(T:List RO)(oa:Option Addr)(oc:Nat)(ea:Option Addr)(ec:Nat)(es:List Value)(md:bE W h rb M T oa oc ea ec es)(kd n:Int)(s:ByteArray)(pa:Option Addr)(on pc:Nat)(ka:Option Addr)(kn kc:Nat)(hsz:s.size ≤9223372036854775807)(hE:M.E.length ≤1099511627)(A0:An)(hA0:dm M kd s=A0):Sat Tryz.prog 40 #[.pointer (some ⟨rb,0,none⟩),.agg #[.int .i64 kd,.string s,.slice pa on pc,.int .i64 n,.slice ka kn kc]] h fun v h'=>AnsAt h' v A0∧Ext h h':=by
 subst hA0
 have hm:=md.hm
 have b8:=md.ln
 have g:=Ext.refl h
 have c:Sep h.size h.size []:=Sep.nil _ _
 refine ag Tryz.func40 65 fun a d=>qS d<|tN 0 (pV h.size) #[.int .i64 kd,.string s,.slice pa on pc,.int .i64 n,.slice ka kn kc] 35 fun h1 g2 F=> ?_
 replace c:=c.nw g.size F
 refine tN 1 (pV h1.size) ((bY 0).toArray) 47 fun Y Z i=> ?_
 replace g:=g.ext g2
 replace c:=c.nw g.size i
 refine sT [(3,pV h.size),(4,pV h1.size)] fun a d=>cS ?_
 rcases md.kv s with t|⟨t,Q,A,B,rfl,hA,hB⟩|⟨t,A,x,B,rfl,hA,rfl,Q⟩
 ·refine rS d ?_
  replace F:=F.x Z
  refine tO 2 1 F ?_
  replace g:=g.ext Z
  refine tC 3 (.tuple #[.int .i64 0,.int .i64 210]) (Does.call (f:=80) (args:= #[pV rb,.string s]) (by kernel_rfl) (ew _ rb M T oa oc ea ec es (md.ext g) s hsz 0 210 (.inl ⟨t,rfl,rfl⟩) hE))<|sE [(5,.int .i64 0),(6,.int .i64 210)] fun a d=>tK<|cS<|qP [(18,.bool true)] d fun a d=>cT 18 d<|qS d ?_
  refine bt 2 (bY 210) i fun h7 g8 D=> ?_
  replace i:=D
  refine sT [] fun a d=>cR (yT ?_)
  refine rB i d ?_
  replace g:=g.grew g8 (c.l 0)
  rw[t_ t];exact⟨iX _ 210,g⟩
 ·refine rS d ?_
  replace F:=F.x Z
  refine tO 2 1 F ?_
  replace g:=g.ext Z
  refine tC 3 (.tuple #[.int .i64 0,.int .i64 211]) (Does.call (f:=80) (args:= #[pV rb,.string s]) (by kernel_rfl) (ew _ rb M (A++B) oa oc ea ec es (md.ext g) s hsz 0 211 (.inr (.inl ⟨t,⟨_,.no hA hB⟩,rfl,rfl⟩)) hE))<|sE [(5,.int .i64 0),(6,.int .i64 211)] fun a d=>tK<|cS<|qP [(18,.bool true)] d fun a d=>cT 18 d<|qS d ?_
  refine bt 2 (bY 211) i fun h9 b0 D=> ?_
  replace i:=D
  refine sT [] fun a d=>cR (yT ?_)
  refine rB i d ?_
  replace g:=g.grew b0 (c.l 0)
  rw[kA t Q];exact⟨iX _ 211,g⟩
 ·have c0:A.length <(A++x::B).length :=xr
  obtain⟨k1,k2,k3,k4⟩:=md.ob x (by simp)
  refine rS d ?_
  replace F:=F.x Z
  refine tO 2 1 F ?_
  replace g:=g.ext Z
  refine tC 3 (.tuple #[nV A.length,.int .i64 0]) (Does.call (f:=80) (args:= #[pV rb,.string x.o.b.id]) (by kernel_rfl) (ew _ rb M (A++x::B) oa oc ea ec es (md.ext g) x.o.b.id hsz A.length 0 (.inr (.inr ⟨t,.yes hA rfl,rfl⟩)) hE))<|sE [(5,nV A.length),(6,.int .i64 0)] fun a d=>tK<|cS<|qP [(18,.bool false)] d fun a d=>cF 18 d<|cN ?_
  refine tK<|cS ?_
  have a0:=d
  obtain⟨ao,rfl,a1⟩:=md.row.1.bf (by omega)
  have d:=a0;clear a0
  ·refine rS d<|tO 3 0 (g.blk hm)<|tI 5 ao ((A++x::B).length) 40 A.length (A.length *40)<|tC 6 (.agg (dn x.o.b x.o.e x.o.ho x.o.go (.slice x.ca 0 x.cc) (.slice x.ba x.o.dt.length x.bc)).toArray) (Calm.load (T:=97) (p:=(Addr.add ao (A.length *40))) (by kernel_rfl) (Row.ro (md.row.1.ext g) rZ (by kernel_rfl) rfl))<|tN 7 (pV Y.size) ((dj (.slice none 0 0)).toArray) 97 fun c1 u m=> ?_
   replace c:=c.nw g.size m
   refine bt 8 (dn x.o.b x.o.e x.o.ho x.o.go (.slice x.ca 0 x.cc) (.slice x.ba x.o.dt.length x.bc)) m fun R r D=> ?_
   replace m:=D
   refine sE [(7,pV Y.size)] fun a d=>tK<|cS<|qS d ?_
   replace F:=(F.x u).y r (c.bp 2 0)
   refine tO 1 0 F<|sT [(29,.int .i64 kd)] fun a d=>cB 0<|qP [(30,.bool (decide (kd=(3:Int))))] d fun a d=>cJ 30 d (fun G=> ?_) fun G=> ?_
   ·refine qS d<|tQ 1 0 (rc x.o.b x.o.e x.o.ho x.o.go (.slice x.ca 0 x.cc)) m<|tG 2 (vN _ x.o.b x.o.e x.o.ho x.o.go (.slice x.ca 0 x.cc)) ?_
    rintro _ c2 ⟨rfl,a2⟩
    replace i:=((i.x u).y r (c.bp 1 0)).x a2
    refine bt 4 (bb (0:Int) (.slice none 0 0) x.o.b x.o.e x.o.ho x.o.go (.slice none 0 0) (0:Int) dF (0:Int) (.slice none 0 0)) i fun c3 b1 D=> ?_
    replace i:=D
    refine sT [] fun a d=>cR (yB (yT ?_))
    refine rB i d ?_
    replace g:=(((g.ext u).grew r (c.l 0)).ext a2).grew b1 (c.l 1)
    rw[nO t Q G];exact⟨iD rfl (Own.nil _ _ _) (Own.nil _ _ _) (Own.nil _ _ _) aq.nil,g⟩
   ·refine qP [(36,.bool (decide (kd=(16:Int))))] d fun a d=>cJ 36 d (fun H=> ?_) fun H=> ?_
    ·refine cS<|cD [0,1,0,4,12,31,63,127,127,255,1023] 9 mixed d<|mP 13 [0,2,3] [pV rb,pV Y.size,.pointer (some ⟨Y.size,34,none⟩)]<|mO 29 16 4 34 (.int .i64 x.o.b.idx) m ?_
     replace g:=(g.ext u).grew r (c.l 0)
     refine gD 31 3 1 [4] (Does.call (f:=43) (args:= #[.pointer (some ⟨rb,0,none⟩)]) (by kernel_rfl) (kN _ rb M (A++x::B) _ oc ea ec es (md.ext g) hE)) ?_
     rintro _ c4 ⟨b7,b2,rfl,I,a3,L⟩
     replace c:=(c.up r.size).co L a3 I g.size
     replace m:=m.x L
     refine⟨?_,?_⟩
     ·intro j hj
      simp only[List.mem_cons,List.not_mem_nil,or_false] at hj
      subst hj
      exact aE (Calm.load (T:=3) (p:=⟨Y.size,34,none⟩) (by kernel_rfl) (Loads.one (k:=1) (by kernel_rfl) ((an m).trans (rfl))))
     obtain⟨p,hz⟩:=zT (md.ix _ _ k1)
     refine gC 63 63 5 (Ao _ (cP M.E) _ _ M.E.length (HR.of I (iz _)) (by omega) x.o.b.idx p 0 hz) ?_
     rintro _ c5 ⟨C,w,rfl,z,a4,N⟩
     replace g:=g.ext L
     replace c:=c.co N a4 z g.size
     refine mP 2047 [6,7,8,9,10] [.tuple #[.slice C p.length w,.int .i64 0],.slice C p.length w,.int .i64 0,.slice C p.length w,.int .i64 0]<|mE [(8,.slice C p.length w)] fun a d=>tK<|qS d ?_
     replace m:=m.x N
     refine tO 2 34 m ?_
     replace i:=(((i.x u).y r (c.bp 3 2)).x L).x N
     refine bt 5 (bb (0:Int) (.slice none 0 0) dF 0 false false (.slice none 0 0) (0:Int) dF x.o.b.idx (.slice C p.length w)) i fun c6 a5 D=> ?_
     replace i:=D
     refine sT [] fun a d=>cR (yB (yT ?_))
     refine rB i d ?_
     have b3:(cO (cP M.E) x.o.b.idx).1 =p:=by rw[hz]
     replace g:=(g.ext N).grew a5 (c.l 3)
     replace z:=z.k a5 (c.ap 0 3)
     rw[mc t Q H hz];exact⟨iD rfl (Own.nil _ _ _) (Own.nil _ _ _) z (b3▸pF (iz _) _),g⟩
    ·refine cN<|bK<|tK<|cS<|qS d<|tO 2 37 m<|sT [(54,.bool x.o.go)] fun a d=> ?_
     refine cC 54 x.o.go d (fun J=> ?_) (fun J=> ?_)
     ·have O:=J
      refine qS d ?_
      replace i:=(i.x u).y r (c.bp 1 0)
      refine bt 1 (bY 213) i fun c7 b5 D=> ?_
      replace i:=D
      refine sT [] fun a d=>cR (yT ?_)
      refine rB i d ?_
      replace g:=((g.ext u).grew r (c.l 0)).grew b5 (c.l 1)
      rw[nP t Q G H O];exact⟨iX _ 213,g⟩
     ·have O:=J
      refine cN<|tK<|cS<|qS d<|tO 1 0 F<|sT [(58,.bool (decide (kd=(2:Int))))] fun a d=>cJ 58 d (fun K=> ?_) fun K=> ?_
      ·refine qS d<|tN 0 (.slice (some ⟨R.size,0,none⟩) 0 0) #[] 5 fun a6 S U=> ?_
       replace g:=(g.ext u).grew r (c.l 0)
       replace c:=(c.up r.size).nw g.size U
       have q:Own a6 (.slice (some ⟨R.size,0,none⟩) 0 0) 5 ([]:List UInt8).length 1 (([]:List UInt8).map bv):=Own.empty 1 U
       replace c:Sep h.size a6.size [(some ⟨R.size,0,none⟩:Option Addr).map (·.block),some (Y.size),some (h1.size),some (h.size)]:=c
       replace i:=((i.x u).y r (c.bp 2 1)).x S
       replace g:=g.ext S
       replace m:=m.x S
       clear U
       refine tO 2 39 m<|tP 3 (0+x.o.dt.length) 1 (x.o.dt.map bv) q (k4.1.1.ext g) (aB _) (fun a7 V c8 q X P=> ?_)
       have a8:=c
       replace c:=c.sa X 0 P q g.size;clear P
       replace i:=i.y X (a8.bp 2 0)
       refine bt 5 (bb (0:Int) (.slice a7 (0+x.o.dt.length) V) dF 0 false false (.slice none 0 0) (0:Int) dF (0:Int) (.slice none 0 0)) i fun c9 a9 D=> ?_
       replace i:=D
       refine sT [] fun a d=>cR (yT ?_)
       refine rB i d ?_
       replace q:=q.k a9 (c.ap 0 2)
       rw[Nat.zero_add] at q
       replace g:=(g.grew X (a8.l 0)).grew a9 (c.l 2)
       rw[me t Q K O,Nat.zero_add];exact⟨iD rfl q (Own.nil _ _ _) (Own.nil _ _ _) aq.nil,g⟩
      ·refine cN<|tK<|qS d ?_
       replace i:=(i.x u).y r (c.bp 1 0)
       refine bt 1 (bY 0) i fun d0 b6 D=> ?_
       replace i:=D
       refine sT [] fun a d=>cR<|rB i d ?_
       replace g:=((g.ext u).grew r (c.l 0)).grew b6 (c.l 1)
       rw[nQ t Q G H K O];exact⟨iX _ 0,g⟩
noncomputable def b18:Code:=Tryz.f18.body.getD .skip
theorem BZ{W:Nat→Prop}{h0:Heap}(h:Heap)(rb:Nat)(M:Md)(T:List RO)(oa:Option Addr)(oc:Nat)(ea:Option Addr)(ec:Nat)(es:List Value)(md:bE W h0 rb M T oa oc ea ec es)(va:Option Addr)(vc:Nat)(hr:Row h (.slice va T.length vc) T.length 39 (a_ (T.map iI)))(hE:M.E.length ≤1099511627):Sat Tryz.prog 41 #[.slice va T.length vc,.int .i64 M.t] h fun v h'=>∃ad cap,v= .slice ad (eZ M).length cap∧Own h' (.slice ad (eZ M).length cap) 9 (eZ M).length 1 ((eZ M).map Value.string)∧(∀k,ad.map (fun(x:Addr)=>x.block)=some k→h.size ≤k)∧Ext h h':=by
 have hl:(T.map iI).length =T.length :=List.length_map _
 have hLn:=md.ln
 have:=yq h (T.map iI) va vc M.t (by rw[hl];exact hr) (by rw[hl];omega)
 rw[hl] at this
 exact this.mono fun v h' ⟨S,ad,cap,hp,hs,e,o,hge,g⟩=>by
  have e2:=md.D5 hp hs
  have e3:S.length =(eZ M).length :=by rw[e2];simp[ids]
  rw[←e2,e3] at o
  rw[e3] at e
  exact⟨ad,cap,e,o,hge,g⟩
set_option maxHeartbeats 2000000 in
theorem Aq {W:Nat→Prop}(h:Heap)(rb:Nat)(M:Md)(T:List RO)(oa:Option Addr)(oc:Nat)(ea:Option Addr)(ec:Nat)(es:List Value)(md:bE W h rb M T oa oc ea ec es)(hW:∀k,W k→k<h.size)(kd n:Int)(s:ByteArray)(l:List UInt8)(pa:Option Addr)(pc:Nat)(ka:Option Addr)(kn kc:Nat)(hr:Row h (.slice pa l.length pc) l.length 1 (l.map bv))(hsz:s.size ≤9223372036854775807)(hE:M.E.length ≤1099511627):Sat Tryz.prog 18 #[.pointer (some ⟨rb,0,none⟩),.agg #[.int .i64 kd,.string s,.slice pa l.length pc,.int .i64 n,.slice ka kn kc]] h fun v h'=>AnsAt h' v (step M kd n s l).2 ∧bC W h' rb (step M kd n s l).1 ∧RG rb h h':=by
 have hm:=md.hm
 have o6:=aj hm
 have o7:=md.ln
 have q:=Ext.refl h
 have r:Sep h.size h.size []:=Sep.nil _ _
 refine ag Tryz.func18 133 fun a d=>qS d<|tN 0 (pV h.size) #[.int .i64 kd,.string s,.slice pa l.length pc,.int .i64 n,.slice ka kn kc] 35 fun P g2 C=> ?_
 have o8:=aj C
 replace r:=r.nw q.size C
 refine tN 1 (pV P.size) ((bY 0).toArray) 47 fun h6 Q z=> ?_
 replace q:=q.ext g2
 have m9:=q.size
 replace r:=r.nw q.size z
 refine sT [(3,pV h.size),(4,pV P.size)] fun a d=>cS<|qS d ?_
 replace C:=C.x Q
 refine tO 1 0 C<|sT [(9,.int .i64 kd)] fun a d=>cB 0<|qP [(11,.bool (decide (kd=(1:Int))))] d fun a d=>cJ 11 d (fun f2=> ?_) fun f2=> ?_
 ·refine qS d<|tO 2 1 C<|tO 4 2 C ?_
  replace q:=q.ext Q
  refine tG 5 (yp _ rb M T oa oc ea ec es (md.ext q) (fun k hk=>Nat.lt_of_lt_of_le (hW k hk) q.size) s hsz l pa pc (hr.ext q) hE) ?_
  rintro _ j5 ⟨rfl,B,gm⟩
  have R:RG rb h j5:=(RG.aI q).then gm
  replace z:j5[P.size]? =_:=(gm.2 _ (aj z) (by omega)).trans z
  refine bt 7 (bY ((du M s l).2)) z fun o9 j6 D=> ?_
  replace B:=B.aM j6 z (by decide) (by omega)
  replace z:=D
  refine sT [] fun a d=>cR (yB (yT ?_))
  refine rB z d ?_
  replace R:=R.bX j6 (fun x e=> .inr (by cases e;omega))
  rw[gW f2];exact⟨iX _ _,B,R⟩
 ·refine cS<|qP [(20,.bool (decide (kd=(4:Int))))] d fun a d=>cJ 20 d (fun f3=> ?_) fun f3=> ?_
  ·refine cN<|tK<|cJ 20 d (fun f4=> ?_) fun f4=>absurd f3 f4
   refine qS d<|tR 1 C ?_
   replace q:=q.ext Q
   refine tG 2 (hU _ rb M T oa oc ea ec es (md.ext q) kd n s pa l.length pc ka kn kc hsz hE) ?_
   rintro _ j7 ⟨rfl,B,gm⟩
   have R:RG rb h j7:=(RG.aI q).then gm
   replace z:j7[P.size]? =_:=(gm.2 _ (aj z) (by omega)).trans z
   refine bt 4 (bY ((fL M kd n s).2)) z fun p0 j8 D=> ?_
   replace B:=B.aM j8 z (by decide) (by omega)
   replace z:=D
   refine sT [] fun a d=>cR (yB (yT ?_))
   refine rB z d ?_
   replace R:=R.bX j8 (fun x e=> .inr (by cases e;omega))
   rw[fp (by omega)];exact⟨iX _ _,B,R⟩
  ·refine qP [(20,.bool (decide (kd=(5:Int))))] d fun a d=>cJ 20 d (fun f5=> ?_) fun f5=> ?_
   ·refine cN<|tK<|cJ 20 d (fun f6=> ?_) fun f6=>absurd f5 f6
    refine qS d<|tR 1 C ?_
    replace q:=q.ext Q
    refine tG 2 (hU _ rb M T oa oc ea ec es (md.ext q) kd n s pa l.length pc ka kn kc hsz hE) ?_
    rintro _ j9 ⟨rfl,B,gm⟩
    have R:RG rb h j9:=(RG.aI q).then gm
    replace z:j9[P.size]? =_:=(gm.2 _ (aj z) (by omega)).trans z
    refine bt 4 (bY ((fL M kd n s).2)) z fun p1 k0 D=> ?_
    replace B:=B.aM k0 z (by decide) (by omega)
    replace z:=D
    refine sT [] fun a d=>cR (yB (yT ?_))
    refine rB z d ?_
    replace R:=R.bX k0 (fun x e=> .inr (by cases e;omega))
    rw[fp (by omega)];exact⟨iX _ _,B,R⟩
   ·refine rP [(20,.bool (decide (kd=(6:Int))))] d fun a d=>tK<|cJ 20 d (fun k1=> ?_) fun k1=> ?_
    ·refine qS d<|tR 1 C ?_
     replace q:=q.ext Q
     refine tG 2 (hU _ rb M T oa oc ea ec es (md.ext q) kd n s pa l.length pc ka kn kc hsz hE) ?_
     rintro _ k2 ⟨rfl,B,gm⟩
     have R:RG rb h k2:=(RG.aI q).then gm
     replace z:k2[P.size]? =_:=(gm.2 _ (aj z) (by omega)).trans z
     refine bt 4 (bY ((fL M kd n s).2)) z fun p2 k3 D=> ?_
     replace B:=B.aM k3 z (by decide) (by omega)
     replace z:=D
     refine sT [] fun a d=>cR (yB (yT ?_))
     refine rB z d ?_
     replace R:=R.bX k3 (fun x e=> .inr (by cases e;omega))
     rw[fp (by omega)];exact⟨iX _ _,B,R⟩
    ·refine cS<|qP [(28,.bool (decide (kd=(2:Int))))] d fun a d=>cJ 28 d (fun f7=> ?_) fun f7=> ?_
     ·refine cN<|tK<|cJ 28 d (fun f8=> ?_) fun f8=>absurd f7 f8
      refine qS d<|tR 1 C ?_
      obtain⟨A,hA⟩:∃A,dm M kd s=A:=⟨_,rfl⟩
      replace q:=q.ext Q
      refine tG 2 (jW _ rb M T oa oc ea ec es (md.ext q) kd n s pa l.length pc ka kn kc hsz hE A hA) ?_
      rintro _ p3 ⟨⟨qa,qc,N,V,a4,a5,rfl,r1,r2,r3,r4⟩,g⟩
      replace q:=q.ext g
      replace z:=z.x g
      replace r:=r.up g.size
      clear g
      refine bt 3 (bb A.c (.slice qa A.b.length qc) A.sx A.se A.sh A.sg (.slice N A.i.length V) A.n A.y A.k (.slice a4 A.p.length a5)) z fun p4 e3 D=> ?_
      replace r1:=r1.aM e3 z (by decide)
      replace r2:=r2.aM e3 z (by decide)
      replace r3:=r3.aM e3 z (by decide)
      replace z:=D
      refine sT [] fun a d=>cR (yB (yT ?_))
      refine rB z d ?_
      replace q:=q.grew e3 (r.l 0)
      rw[dI (by omega),hA];exact⟨⟨_,_,_,_,_,_,rfl,r1,r2,r3,r4⟩,⟨_,_,_,_,_,_,md.ext q⟩,RG.aI q⟩
     ·refine qP [(28,.bool (decide (kd=(3:Int))))] d fun a d=>cJ 28 d (fun f9=> ?_) fun f9=> ?_
      ·refine cN<|tK<|cJ 28 d (fun g0=> ?_) fun g0=>absurd f9 g0
       refine qS d<|tR 1 C ?_
       obtain⟨A,hA⟩:∃A,dm M kd s=A:=⟨_,rfl⟩
       replace q:=q.ext Q
       refine tG 2 (jW _ rb M T oa oc ea ec es (md.ext q) kd n s pa l.length pc ka kn kc hsz hE A hA) ?_
       rintro _ p5 ⟨⟨qa,qc,N,V,a4,a5,rfl,r1,r2,r3,r4⟩,g⟩
       replace q:=q.ext g
       replace z:=z.x g
       replace r:=r.up g.size
       clear g
       refine bt 3 (bb A.c (.slice qa A.b.length qc) A.sx A.se A.sh A.sg (.slice N A.i.length V) A.n A.y A.k (.slice a4 A.p.length a5)) z fun p6 e4 D=> ?_
       replace r1:=r1.aM e4 z (by decide)
       replace r2:=r2.aM e4 z (by decide)
       replace r3:=r3.aM e4 z (by decide)
       replace z:=D
       refine sT [] fun a d=>cR (yB (yT ?_))
       refine rB z d ?_
       replace q:=q.grew e4 (r.l 0)
       rw[dI (by omega),hA];exact⟨⟨_,_,_,_,_,_,rfl,r1,r2,r3,r4⟩,⟨_,_,_,_,_,_,md.ext q⟩,RG.aI q⟩
      ·refine qP [(28,.bool (decide (kd=(16:Int))))] d fun a d=>cJ 28 d (fun g1=> ?_) fun g1=> ?_
       ·refine cN<|tK<|cJ 28 d (fun g3=> ?_) fun g3=>absurd g1 g3
        refine qS d<|tR 1 C ?_
        obtain⟨A,hA⟩:∃A,dm M kd s=A:=⟨_,rfl⟩
        replace q:=q.ext Q
        refine tG 2 (jW _ rb M T oa oc ea ec es (md.ext q) kd n s pa l.length pc ka kn kc hsz hE A hA) ?_
        rintro _ p7 ⟨⟨qa,qc,N,V,a4,a5,rfl,r1,r2,r3,r4⟩,g⟩
        replace q:=q.ext g
        replace z:=z.x g
        replace r:=r.up g.size
        clear g
        refine bt 3 (bb A.c (.slice qa A.b.length qc) A.sx A.se A.sh A.sg (.slice N A.i.length V) A.n A.y A.k (.slice a4 A.p.length a5)) z fun p8 e5 D=> ?_
        replace r1:=r1.aM e5 z (by decide)
        replace r2:=r2.aM e5 z (by decide)
        replace r3:=r3.aM e5 z (by decide)
        replace z:=D
        refine sT [] fun a d=>cR (yB (yT ?_))
        refine rB z d ?_
        replace q:=q.grew e5 (r.l 0)
        rw[dI (by omega),hA];exact⟨⟨_,_,_,_,_,_,rfl,r1,r2,r3,r4⟩,⟨_,_,_,_,_,_,md.ext q⟩,RG.aI q⟩
       ·refine rP [(28,.bool (decide (kd=(15:Int))))] d fun a d=>tK<|cJ 28 d (fun k4=> ?_) fun k4=> ?_
        ·refine qS d<|tR 1 C ?_
         obtain⟨A,hA⟩:∃A,dm M kd s=A:=⟨_,rfl⟩
         replace q:=q.ext Q
         refine tG 2 (jW _ rb M T oa oc ea ec es (md.ext q) kd n s pa l.length pc ka kn kc hsz hE A hA) ?_
         rintro _ p9 ⟨⟨qa,qc,N,V,a4,a5,rfl,r1,r2,r3,r4⟩,g⟩
         replace q:=q.ext g
         replace z:=z.x g
         replace r:=r.up g.size
         clear g
         refine bt 3 (bb A.c (.slice qa A.b.length qc) A.sx A.se A.sh A.sg (.slice N A.i.length V) A.n A.y A.k (.slice a4 A.p.length a5)) z fun q0 e6 D=> ?_
         replace r1:=r1.aM e6 z (by decide)
         replace r2:=r2.aM e6 z (by decide)
         replace r3:=r3.aM e6 z (by decide)
         replace z:=D
         refine sT [] fun a d=>cR (yB (yT ?_))
         refine rB z d ?_
         replace q:=q.grew e6 (r.l 0)
         rw[dI (by omega),hA];exact⟨⟨_,_,_,_,_,_,rfl,r1,r2,r3,r4⟩,⟨_,_,_,_,_,_,md.ext q⟩,RG.aI q⟩
        ·refine cS<|qP [(36,.bool (decide (kd=(7:Int))))] d fun a d=>cJ 36 d (fun c1=> ?_) fun c1=> ?_
         ·refine cN<|tK<|cJ 36 d (fun g4=> ?_) fun g4=>absurd c1 g4
          refine qS d<|tN 0 (.slice (some ⟨h6.size,0,none⟩) 0 0) #[] 9 fun a6 i3 i4=> ?_
          replace q:=q.ext Q
          replace r:=r.nw q.size i4
          have u:Own a6 (.slice (some ⟨h6.size,0,none⟩) 0 0) 9 ([]:List ByteArray).length 1 (([]:List ByteArray).map Value.string):=Own.empty 1 i4
          replace r:Sep h.size a6.size [(some ⟨h6.size,0,none⟩:Option Addr).map (·.block),some (P.size),some (h.size)]:=r
          replace q:=q.ext i3
          replace C:=C.x i3
          replace z:=z.x i3
          clear i4
          refine sT [(5,.slice (some ⟨h6.size,0,none⟩) 0 0)] fun a d=>qS d<|tN 0 (.slice (some ⟨a6.size,0,none⟩) 0 0) #[] 95 fun k5 e7 i5=> ?_
          replace r:=r.nw q.size i5
          have w:Own k5 (.slice (some ⟨a6.size,0,none⟩) 0 0) 95 ([]:List Rec).length 39 (a_ []):=Own.empty 39 i5
          replace r:Sep h.size k5.size [(some ⟨a6.size,0,none⟩:Option Addr).map (·.block),(some ⟨h6.size,0,none⟩:Option Addr).map (·.block),some (P.size),some (h.size)]:=r
          replace q:=q.ext e7
          replace u:=u.ext e7
          replace C:=C.x e7
          replace z:=z.x e7
          clear i5
          refine sT [(6,.slice (some ⟨a6.size,0,none⟩) 0 0)] fun a d=>cS<|qP [(7,.int .i64 0)] d fun a d=>cB 1<|cL (fun m a h'=>∃k:Nat,∃O:Nat,∃N:Option Addr,∃V:Nat,∃ra:Option Addr,∃rd:Nat,m=T.length - k∧(Ext h h')∧(h'[h.size]? =some (.cells #[.int .i64 kd,.string s,.slice pa l.length pc,.int .i64 n,.slice ka kn kc] 35))∧(h'[P.size]? =some (.cells (bY 0).toArray 47))∧(k≤T.length)∧((live ((T.take k).map iI)).length =O)∧(O≤k)∧(Own h' (.slice N O V) 9 O 1 ((live ((T.take k).map iI)).map Value.string))∧(Own h' (.slice ra k rd) 95 k 39 (a_ ((T.take k).map iI)))∧(Sep h.size h'.size [ra.map (·.block),N.map (·.block),some (P.size),some (h.size)])∧(Fr a 133 [(0,.pointer (some ⟨rb,0,none⟩)),(3,.pointer (some ⟨h.size,0,none⟩)),(4,.pointer (some ⟨P.size,0,none⟩)),(5,.slice N O V),(6,.slice ra k rd),(7,.int .i64 ((k:Nat):Int))])) (T.length - 0) ⟨0,0,(some ⟨h6.size,0,none⟩),0,(some ⟨a6.size,0,none⟩),0,rfl,q,C,z,(Nat.zero_le _),rfl,(Nat.le_refl _),u,w,r,d.to⟩ ?_
          clear d a
          clear q
          clear C
          clear z
          clear u
          clear w
          clear r
          rintro m a m2 ⟨k,O,N,V,ra,rd,rfl,q,C,z,hk,X,m4,u,w,r,d⟩
          refine cS<|qS d<|tO 4 0 (q.blk hm)<|sT [(47,.bool (decide (((k:Nat):Int)<((T.length :Nat):Int))))] fun a d=>cJ 47 d (fun k6=> ?_) fun k6=> ?_
          ·have i6:k<T.length :=by omega
           obtain⟨x,S⟩:∃x,T[k]? =some x:=⟨_,List.getElem?_eq_getElem i6⟩
           have c2:=d
           obtain⟨F,rfl,c3⟩:=md.row.1.bf (by omega)
           have d:=c2;clear c2
           refine cN<|tK<|cS<|cB 2<|qS d<|tO 4 0 (q.blk hm)<|tI 6 F T.length 40 k (k*40) ?_
           refine t1 7 (.pointer (some (Addr.add F (k*40)))) (.pointer (some ((Addr.add F (k*40)).add 0))) (by rw[add_add,Nat.add_zero])<|tC 8 (.agg (rc x.o.b x.o.e x.o.ho x.o.go (.slice x.ca 0 x.cc)).toArray) (Calm.load (T:=95) (p:=(Addr.add F (k*40))) (by kernel_rfl) (Row.Du (md.row.1.ext q) S (by kernel_rfl) rfl))<|tN 9 (.slice (some ⟨m2.size,0,none⟩) 1 1) ((rc x.o.b x.o.e x.o.ho x.o.go (.slice x.ca 0 x.cc)).toArray) 95 fun q1 Y e8=> ?_
           replace r:=r.nw q.size e8
           replace w:=w.ext Y
           refine tP 10 (k+1) 104 (a_ (((T.take k).map iI)++[iI x])) w (Row.A5 (x:=x) e8) (eH _) (fun Z a7 m5 w a0 g5=> ?_) (ys:=(a_ ([iI x]))) (hZ:=by first|rfl|exact List.flatMap_append.symm |simp[a_])
           replace q:=q.ext Y
           have a8:=r
           replace r:=r.sa a0 1 g5 w q.size;clear g5
           refine sT [(6,.slice Z (k+1) a7)] fun a d=>qS d ?_
           replace q:=q.grew a0 (a8.l 1)
           refine tO 3 0 (q.blk hm)<|tI 5 F T.length 40 k (k*40)<|t1 6 (.pointer (some (Addr.add F (k*40)))) (.pointer (some ((Addr.add F (k*40)).add 0))) (by rw[add_add,Nat.add_zero])<|t1 7 (.pointer (some (Addr.add F ((k*40)+37)))) (.pointer (some ((Addr.add F (k*40)).add 37))) (by rw[add_add])<|tC 8 (.bool x.o.go) (Calm.load (T:=4) (p:=(Addr.add F ((k*40)+37))) (by kernel_rfl) (Loads.one (k:=1) (by kernel_rfl) (Row.CP (md.row.1.ext q) S)))<|sT [(70,.bool (!x.o.go))] fun a d=>cC 70 (!x.o.go) d (fun c4=> ?_) (fun c4=> ?_)
           ·have J:x.o.go =false:=by simpa using c4
            refine rS d<|tO 4 0 (q.blk hm)<|tI 6 F T.length 40 k (k*40)<|t1 7 (.pointer (some (Addr.add F (k*40)))) (.pointer (some ((Addr.add F (k*40)).add 0))) (by rw[add_add,Nat.add_zero])<|t1 8 (.pointer (some (Addr.add F (k*40)))) (.pointer (some ((Addr.add F (k*40)).add 0))) (by rw[add_add,Nat.add_zero])<|tC 9 (.string x.o.b.id) (Calm.load (T:=9) (p:=(Addr.add F (k*40))) (by kernel_rfl) (Loads.one (k:=1) (by kernel_rfl) (Row.xt (md.row.1.ext q) S)))<|tN 10 (.slice (some ⟨m5.size,0,none⟩) 1 1) #[.string x.o.b.id] 9 fun q2 c5 i7=> ?_
            replace r:=r.nw q.size i7
            replace u:=((u.ext Y).k a0 (a8.ap 2 1)).ext c5
            refine tP 11 (O+1) 16 (((live ((T.take k).map iI))++[x.o.b.id]).map Value.string) u (Row.blk (n:=1) (sz:=1) (l:=[.string x.o.b.id]) i7 rfl) (List.all_eq_true.1 (by rfl)) (fun c6 c7 q3 u c8 g6=> ?_) (ys:=(([x.o.b.id]).map Value.string))
            replace q:=q.ext c5
            have e9:=r
            replace r:=r.sa c8 3 g6 u q.size;clear g6
            refine sE [(5,.slice c6 (O+1) c7)] fun a d=>bK<|tK<|rS d<|tA 1 k 1<|sE [(7,nV (k+1))] fun a d=> ?_
            clear e8
            clear i7
            replace C:=(((C.x Y).y a0 (a8.bp 4 1)).x c5).y c8 (e9.bp 5 3)
            replace z:=(((z.x Y).y a0 (a8.bp 3 1)).x c5).y c8 (e9.bp 4 3)
            replace w:=(w.ext c5).k c8 (e9.ap 2 3)
            replace q:=q.grew c8 (e9.l 3)
            replace r:=r.sub (l':=[Z.map (·.block),c6.map (·.block),some (P.size),some (h.size)]) (.cons _ (.cons _ (.cons_cons _ (.cons_cons _ (.cons_cons _ (.cons_cons _ (.slnil)))))))
            rw[←iE S] at w
            rw[←iG S J] at u
            have G:=congrArg List.length (iG S J)
            rw[List.length_append,X] at G
            show ∃m',m'<_∧_
            refine⟨_,?_,(k+1),(O+1),c6,c7,Z,a7,rfl,q,C,z,(by omega),G,(by omega),u,w,r,d.to⟩
            omega
           ·have J:x.o.go =true:=by simpa using c4
            refine cN<|bK<|tK<|rS d<|tA 1 k 1<|sE [(7,nV (k+1))] fun a d=> ?_
            clear e8
            replace u:=(u.ext Y).k a0 (a8.ap 2 1)
            replace C:=(C.x Y).y a0 (a8.bp 4 1)
            replace z:=(z.x Y).y a0 (a8.bp 3 1)
            replace r:=r.sub (l':=[Z.map (·.block),N.map (·.block),some (P.size),some (h.size)]) (.cons _ (.cons_cons _ (.cons_cons _ (.cons_cons _ (.cons_cons _ (.slnil))))))
            rw[←iE S] at w
            rw[←iF S J] at u
            have G:=(congrArg List.length (iF S J)).trans X
            show ∃m',m'<_∧_
            refine⟨_,?_,(k+1),O,N,V,Z,a7,rfl,q,C,z,(by omega),G,(by omega),u,w,r,d.to⟩
            omega
          ·refine cX 1 (xT (xT (xB ?_)))
           refine tK<|cS<|cS ?_
           obtain rfl:k=T.length :=by omega
           rw[List.take_length] at w u X
           ·refine rS d<|tO 1 0 C<|eF 2 kd 8<|sE [(85,.bool false)] fun a d=>tK<|cF 85 d<|cN ?_
            refine tK<|qS d<|bt 2 (bb (0:Int) (.slice none 0 0) dF 0 false false (.slice N O V) (0:Int) dF (0:Int) (.slice none 0 0)) z fun q4 k7 D=> ?_
            replace z:=D
            refine sT [] fun a d=>cR (yB (yT ?_))
            refine rB z d ?_
            replace q:=q.grew k7 (r.l 2)
            replace u:=u.k k7 (r.ap 1 2)
            rw[pY c1,md.CO];rw[←X] at u⊢;exact⟨iD rfl (Own.nil _ _ _) u (Own.nil _ _ _) aq.nil,⟨_,_,_,_,_,_,md.ext q⟩,RG.aI q⟩
         ·refine rP [(36,.bool (decide (kd=(8:Int))))] d fun a d=>tK<|cJ 36 d (fun g8=> ?_) fun g8=> ?_
          ·refine qS d<|tN 0 (.slice (some ⟨h6.size,0,none⟩) 0 0) #[] 9 fun a9 i8 i9=> ?_
           replace q:=q.ext Q
           replace r:=r.nw q.size i9
           have u:Own a9 (.slice (some ⟨h6.size,0,none⟩) 0 0) 9 ([]:List ByteArray).length 1 (([]:List ByteArray).map Value.string):=Own.empty 1 i9
           replace r:Sep h.size a9.size [(some ⟨h6.size,0,none⟩:Option Addr).map (·.block),some (P.size),some (h.size)]:=r
           replace q:=q.ext i8
           replace C:=C.x i8
           replace z:=z.x i8
           clear i9
           refine sT [(5,.slice (some ⟨h6.size,0,none⟩) 0 0)] fun a d=>qS d<|tN 0 (.slice (some ⟨a9.size,0,none⟩) 0 0) #[] 95 fun k8 f0 j0=> ?_
           replace r:=r.nw q.size j0
           have w:Own k8 (.slice (some ⟨a9.size,0,none⟩) 0 0) 95 ([]:List Rec).length 39 (a_ []):=Own.empty 39 j0
           replace r:Sep h.size k8.size [(some ⟨a9.size,0,none⟩:Option Addr).map (·.block),(some ⟨h6.size,0,none⟩:Option Addr).map (·.block),some (P.size),some (h.size)]:=r
           replace q:=q.ext f0
           replace u:=u.ext f0
           replace C:=C.x f0
           replace z:=z.x f0
           clear j0
           refine sT [(6,.slice (some ⟨a9.size,0,none⟩) 0 0)] fun a d=>cS<|qP [(7,.int .i64 0)] d fun a d=>cB 1<|cL (fun m a h'=>∃k:Nat,∃O:Nat,∃N:Option Addr,∃V:Nat,∃ra:Option Addr,∃rd:Nat,m=T.length - k∧(Ext h h')∧(h'[h.size]? =some (.cells #[.int .i64 kd,.string s,.slice pa l.length pc,.int .i64 n,.slice ka kn kc] 35))∧(h'[P.size]? =some (.cells (bY 0).toArray 47))∧(k≤T.length)∧((live ((T.take k).map iI)).length =O)∧(O≤k)∧(Own h' (.slice N O V) 9 O 1 ((live ((T.take k).map iI)).map Value.string))∧(Own h' (.slice ra k rd) 95 k 39 (a_ ((T.take k).map iI)))∧(Sep h.size h'.size [ra.map (·.block),N.map (·.block),some (P.size),some (h.size)])∧(Fr a 133 [(0,.pointer (some ⟨rb,0,none⟩)),(3,.pointer (some ⟨h.size,0,none⟩)),(4,.pointer (some ⟨P.size,0,none⟩)),(5,.slice N O V),(6,.slice ra k rd),(7,.int .i64 ((k:Nat):Int))])) (T.length - 0) ⟨0,0,(some ⟨h6.size,0,none⟩),0,(some ⟨a9.size,0,none⟩),0,rfl,q,C,z,(Nat.zero_le _),rfl,(Nat.le_refl _),u,w,r,d.to⟩ ?_
           clear d a
           clear q
           clear C
           clear z
           clear u
           clear w
           clear r
           rintro m a m6 ⟨k,O,N,V,ra,rd,rfl,q,C,z,hk,X,m4,u,w,r,d⟩
           refine cS<|qS d<|tO 4 0 (q.blk hm)<|sT [(47,.bool (decide (((k:Nat):Int)<((T.length :Nat):Int))))] fun a d=>cJ 47 d (fun k9=> ?_) fun k9=> ?_
           ·have i6:k<T.length :=by omega
            obtain⟨x,S⟩:∃x,T[k]? =some x:=⟨_,List.getElem?_eq_getElem i6⟩
            have c2:=d
            obtain⟨F,rfl,c3⟩:=md.row.1.bf (by omega)
            have d:=c2;clear c2
            refine cN<|tK<|cS<|cB 2<|qS d<|tO 4 0 (q.blk hm)<|tI 6 F T.length 40 k (k*40) ?_
            refine t1 7 (.pointer (some (Addr.add F (k*40)))) (.pointer (some ((Addr.add F (k*40)).add 0))) (by rw[add_add,Nat.add_zero])<|tC 8 (.agg (rc x.o.b x.o.e x.o.ho x.o.go (.slice x.ca 0 x.cc)).toArray) (Calm.load (T:=95) (p:=(Addr.add F (k*40))) (by kernel_rfl) (Row.Du (md.row.1.ext q) S (by kernel_rfl) rfl))<|tN 9 (.slice (some ⟨m6.size,0,none⟩) 1 1) ((rc x.o.b x.o.e x.o.ho x.o.go (.slice x.ca 0 x.cc)).toArray) 95 fun n1 H b6=> ?_
            replace r:=r.nw q.size b6
            replace w:=w.ext H
            refine tP 10 (k+1) 104 (a_ (((T.take k).map iI)++[iI x])) w (Row.A5 (x:=x) b6) (eH _) (fun K U l0 w I c9=> ?_) (ys:=(a_ ([iI x]))) (hZ:=by first|rfl|exact List.flatMap_append.symm |simp[a_])
            replace q:=q.ext H
            have L:=r
            replace r:=r.sa I 1 c9 w q.size;clear c9
            refine sT [(6,.slice K (k+1) U)] fun a d=>qS d ?_
            replace q:=q.grew I (L.l 1)
            refine tO 3 0 (q.blk hm)<|tI 5 F T.length 40 k (k*40)<|t1 6 (.pointer (some (Addr.add F (k*40)))) (.pointer (some ((Addr.add F (k*40)).add 0))) (by rw[add_add,Nat.add_zero])<|t1 7 (.pointer (some (Addr.add F ((k*40)+37)))) (.pointer (some ((Addr.add F (k*40)).add 37))) (by rw[add_add])<|tC 8 (.bool x.o.go) (Calm.load (T:=4) (p:=(Addr.add F ((k*40)+37))) (by kernel_rfl) (Loads.one (k:=1) (by kernel_rfl) (Row.CP (md.row.1.ext q) S)))<|sT [(70,.bool (!x.o.go))] fun a d=>cC 70 (!x.o.go) d (fun b0=> ?_) (fun b0=> ?_)
            ·have J:x.o.go =false:=by simpa using b0
             refine rS d<|tO 4 0 (q.blk hm)<|tI 6 F T.length 40 k (k*40)<|t1 7 (.pointer (some (Addr.add F (k*40)))) (.pointer (some ((Addr.add F (k*40)).add 0))) (by rw[add_add,Nat.add_zero])<|t1 8 (.pointer (some (Addr.add F (k*40)))) (.pointer (some ((Addr.add F (k*40)).add 0))) (by rw[add_add,Nat.add_zero])<|tC 9 (.string x.o.b.id) (Calm.load (T:=9) (p:=(Addr.add F (k*40))) (by kernel_rfl) (Loads.one (k:=1) (by kernel_rfl) (Row.xt (md.row.1.ext q) S)))<|tN 10 (.slice (some ⟨l0.size,0,none⟩) 1 1) #[.string x.o.b.id] 9 fun n2 a1 d0=> ?_
             replace r:=r.nw q.size d0
             replace u:=((u.ext H).k I (L.ap 2 1)).ext a1
             refine tP 11 (O+1) 16 (((live ((T.take k).map iI))++[x.o.b.id]).map Value.string) u (Row.blk (n:=1) (sz:=1) (l:=[.string x.o.b.id]) d0 rfl) (List.all_eq_true.1 (by rfl)) (fun b1 b7 n3 u a2 d1=> ?_) (ys:=(([x.o.b.id]).map Value.string))
             replace q:=q.ext a1
             have b8:=r
             replace r:=r.sa a2 3 d1 u q.size;clear d1
             refine sE [(5,.slice b1 (O+1) b7)] fun a d=>bK<|tK<|rS d<|tA 1 k 1<|sE [(7,nV (k+1))] fun a d=> ?_
             clear b6
             clear d0
             replace C:=(((C.x H).y I (L.bp 4 1)).x a1).y a2 (b8.bp 5 3)
             replace z:=(((z.x H).y I (L.bp 3 1)).x a1).y a2 (b8.bp 4 3)
             replace w:=(w.ext a1).k a2 (b8.ap 2 3)
             replace q:=q.grew a2 (b8.l 3)
             replace r:=r.sub (l':=[K.map (·.block),b1.map (·.block),some (P.size),some (h.size)]) (.cons _ (.cons _ (.cons_cons _ (.cons_cons _ (.cons_cons _ (.cons_cons _ (.slnil)))))))
             rw[←iE S] at w
             rw[←iG S J] at u
             have G:=congrArg List.length (iG S J)
             rw[List.length_append,X] at G
             show ∃m',m'<_∧_
             refine⟨_,?_,(k+1),(O+1),b1,b7,K,U,rfl,q,C,z,(by omega),G,(by omega),u,w,r,d.to⟩
             omega
            ·have J:x.o.go =true:=by simpa using b0
             refine cN<|bK<|tK<|rS d<|tA 1 k 1<|sE [(7,nV (k+1))] fun a d=> ?_
             clear b6
             replace u:=(u.ext H).k I (L.ap 2 1)
             replace C:=(C.x H).y I (L.bp 4 1)
             replace z:=(z.x H).y I (L.bp 3 1)
             replace r:=r.sub (l':=[K.map (·.block),N.map (·.block),some (P.size),some (h.size)]) (.cons _ (.cons_cons _ (.cons_cons _ (.cons_cons _ (.cons_cons _ (.slnil))))))
             rw[←iE S] at w
             rw[←iF S J] at u
             have G:=(congrArg List.length (iF S J)).trans X
             show ∃m',m'<_∧_
             refine⟨_,?_,(k+1),O,N,V,K,U,rfl,q,C,z,(by omega),G,(by omega),u,w,r,d.to⟩
             omega
           ·refine cX 1 (xT (xT (xB ?_)))
            refine tK<|cS<|cS ?_
            obtain rfl:k=T.length :=by omega
            rw[List.take_length] at w u X
            ·refine rS d<|tO 1 0 C<|eT 2 kd 8<|sE [(85,.bool true)] fun a d=>tK<|cT 85 d<|rS d ?_
             refine tO 4 2 (q.blk hm)<|tG 5 (BZ _ rb M T oa oc ea ec es md ra rd w.row hE) ?_
             rintro _ n4 ⟨b2,c0,rfl,d2,l1,g⟩
             have l2:=q.size
             have g9:=r
             replace q:=q.ext g
             replace z:=z.x g
             replace r:=g9.cons (x:=b2.map (fun(x:Addr)=>x.block)) g.size l2 (fun k e=>⟨l1 k e,d2.lt (by rw[ae];exact e)⟩)
             have b3:=d2;clear d2 g9 l2 l1 g
             refine sE [(5,.slice b2 ((eZ M).length) c0)] fun a d=>tK<|qS d<|bt 2 (bb (0:Int) (.slice none 0 0) dF 0 false false (.slice b2 ((eZ M).length) c0) (0:Int) dF (0:Int) (.slice none 0 0)) z fun n5 i0 D=> ?_
             replace z:=D
             refine sT [] fun a d=>cR (yB (yT ?_))
             refine rB z d ?_
             replace q:=q.grew i0 (r.l 3)
             replace b3:=b3.k i0 (r.ap 0 3)
             rw[pZ g8];exact⟨iD rfl (Own.nil _ _ _) b3 (Own.nil _ _ _) aq.nil,⟨_,_,_,_,_,_,md.ext q⟩,RG.aI q⟩
          ·refine qP [(94,.bool (decide (kd=(9:Int))))] d fun a d=>cJ 94 d (fun d3=> ?_) fun d3=> ?_
           ·refine cS<|cD [0,1,3,7,15,0,32,96,255,511,1023] 28 mixed d<|mP 7 [0,1,2] [pV rb,pV rb,.pointer (some ⟨rb,1,none⟩)] ?_
            replace q:=q.ext Q
            refine mO 15 8 3 1 (.slice ea M.E.length ec) (q.blk hm)<|mP 63 [4,5] [nV M.E.length,pV rb]<|gD 127 96 6 [3] (Does.call (f:=43) (args:= #[.pointer (some ⟨rb,0,none⟩)]) (by kernel_rfl) (kN _ rb M T oa oc ea ec es (md.ext q) hE)) ?_
            rintro _ n6 ⟨j1,f1,rfl,d4,j2,d5⟩
            replace r:=r.co d5 j2 d4 q.size
            replace q:=q.ext d5
            refine⟨?_,?_⟩
            ·intro j hj
             simp only[List.mem_cons,List.not_mem_nil,or_false] at hj
             subst hj
             exact aE (Calm.load (T:=67) (p:=⟨rb,1,none⟩) (by kernel_rfl) (Loads.one (k:=1) (by kernel_rfl) ((an (q.blk hm)).trans rfl)))
            refine gD 255 224 7 [3] (Does.call (f:=42) (args:= #[.slice j1 M.E.length f1]) (by kernel_rfl) (Ap _ (cP M.E) _ _ M.E.length (HR.of d4 (iz _)) (by omega))) ?_
            rintro _ n7 ⟨rfl,i1⟩
            replace q:=q.ext i1
            refine⟨?_,?_⟩
            ·intro j hj
             simp only[List.mem_cons,List.not_mem_nil,or_false] at hj
             subst hj
             exact aE (Calm.load (T:=67) (p:=⟨rb,1,none⟩) (by kernel_rfl) (Loads.one (k:=1) (by kernel_rfl) ((an (q.blk hm)).trans rfl)))
            refine mP 1023 [8,9] [.agg (hdc ((M.E.length :Nat):Int) (pN (root (cP M.E)))).toArray,.agg (bb (0:Int) (.slice none 0 0) dF 0 false false (.slice none 0 0) ((M.E.length :Nat):Int) (pN (root (cP M.E))) (0:Int) (.slice none 0 0)).toArray] ?_
            replace z:=(z.x d5).x i1
            refine mV 2047 2047 10 0 (bb (0:Int) (.slice none 0 0) dF 0 false false (.slice none 0 0) ((M.E.length :Nat):Int) (pN (root (cP M.E))) (0:Int) (.slice none 0 0)) (bb (0:Int) (.slice none 0 0) dF 0 false false (.slice none 0 0) ((M.E.length :Nat):Int) (pN (root (cP M.E))) (0:Int) (.slice none 0 0)) z fun n8 l3 D=> ?_
            replace z:=D
            refine mE [] fun a d=>tK<|cR (yB (yT ?_))
            refine rB z d ?_
            replace q:=q.grew l3 (r.l 1)
            rw[step_head d3];exact⟨iD rfl (Own.nil _ _ _) (Own.nil _ _ _) (Own.nil _ _ _) aq.nil,⟨_,_,_,_,_,_,md.ext q⟩,RG.aI q⟩
           ·refine qP [(106,.bool (decide (kd=(10:Int))))] d fun a d=>cJ 106 d (fun b5=> ?_) fun b5=> ?_
            ·refine qS d<|tO 1 3 C<|sT [(110,.bool (decide ((0:Int)<n)))] fun a d=>cJ 110 d (fun j3=> ?_) fun j3=> ?_
             ·refine cD [0,0,2,6,14,0,32,0,128,384,896,1920,4064,8190,16383,32767,65535] 31 mixed d<|mP 15 [0,1,2,3] [pV rb,pV rb,pV rb,.pointer (some ⟨rb,2,none⟩)] ?_
              replace q:=q.ext Q
              refine mO 31 16 4 2 (.int .i64 M.t) (q.blk hm)<|mP 63 [5] [.pointer (some ⟨h.size,3,none⟩)]<|mO 127 80 6 3 (.int .i64 n) C<|mP 1023 [7,8,9] [pV rb,pV rb,.pointer (some ⟨rb,2,none⟩)]<|mO 2047 1104 10 2 (.int .i64 M.t) (q.blk hm)<|m1 4095 11 (.int .i64 (1099511627776 - M.t)) (.int .i64 (IntKind.i64.wrap ((1099511627776:Int) - M.t))) (congrArg (Value.int .i64) (kg (by have:=md.t0;have:=md.t1;omega) (by have:=md.t0;have:=md.t1;omega)))<|m1 8191 12 (.int .i64 (min n (1099511627776 - M.t))) (.int .i64 (if (1099511627776 - M.t)<n then (1099511627776 - M.t) else n)) (congrArg (Value.int .i64) (by have:=md.t0;have:=md.t1;omega)) ?_
              refine m1 16383 13 (.int .i64 (M.t +min n (1099511627776 - M.t))) (.int .i64 (IntKind.i64.wrap (M.t +min n (1099511627776 - M.t)))) (congrArg (Value.int .i64) (kg (by have:=md.t0;have:=md.t1;omega) (by have:=md.t0;have:=md.t1;omega)))<|mP 65535 [14,15] [pV rb,.pointer (some ⟨rb,2,none⟩)] ?_
              have l4:=q.blk hm
              refine i' 131071 131071 16 (Does.store (b:=rb) (off:=2) (vs:=[.int .i64 (M.t +min n (1099511627776 - M.t))]) (l:=[.slice oa T.length oc,.slice ea M.E.length ec,.int .i64 M.t]) (by kernel_rfl) l4 (of_decide_eq_true (by kernel_rfl)) (List.all_eq_true.1 (by kernel_rfl))) ?_
              rintro _ a3 ⟨rfl,hh⟩
              have gt:=bD hh
              have m7:a3[rb]? =some (.cells ([.slice oa T.length oc,.slice ea M.E.length ec,.int .i64 (M.t +min n (1099511627776 - M.t))]).toArray 86):=bR (off:=2) (vs:=[.int .i64 (M.t +min n (1099511627776 - M.t))]) (l:=[.slice oa T.length oc,.slice ea M.E.length ec,.int .i64 M.t]) hh (by kernel_rfl) l4
              have q5:=md.t0;have q6:=md.t1
              have gm:RG rb _ a3:=RG.one (Ext.refl _) gt
              have B:bC W a3 rb ⟨M.f,M.E,(M.t +min n (1099511627776 - M.t))⟩:=⟨_,_,_,_,_,_,(md.ext q).tick gm m7 (by omega) (by omega)⟩
              have R:RG rb h a3:=(RG.aI q).then gm
              replace z:a3[P.size]? =_:=(gm.2 _ (aj z) (by omega)).trans z
              refine mE [] fun a d=>bK<|tK<|qS d<|bt 1 (bY 0) z fun n9 i2 D=> ?_
              replace B:=B.aM i2 z (by decide) (by omega)
              replace z:=D
              refine sT [] fun a d=>cR<|rB z d ?_
              replace R:=R.bX i2 (fun x e=> .inr (by cases e;omega))
              rw[ep b5,show max 0 n=n by omega];exact⟨iX _ 0,B,R⟩
             ·refine cN<|bK<|tK<|qS d<|bt 1 (bY 0) z fun o0 l5 D=> ?_
              replace z:=D
              refine sT [] fun a d=>cR<|rB z d ?_
              replace q:=(q.ext Q).grew l5 (r.l 0)
              rw[ep b5,show M.t +min (max 0 n) (1099511627776 - M.t)=M.t by have:=md.t1;omega];exact⟨iX _ 0,⟨_,_,_,_,_,_,md.ext q⟩,RG.aI q⟩
            ·refine cS<|qP [(127,.bool (decide (kd=(11:Int))))] d fun a d=>cJ 127 d (fun d6=> ?_) fun d6=> ?_
             ·refine cN<|tK<|cJ 127 d (fun d7=> ?_) fun d7=>absurd d6 d7
              refine cN<|bK<|tK<|qS d<|bt 1 (bY 0) z fun o1 l6 D=> ?_
              replace z:=D
              refine sT [] fun a d=>cR<|rB z d ?_
              replace q:=(q.ext Q).grew l6 (r.l 0)
              rw[cf (by omega)];exact⟨iX _ 0,⟨_,_,_,_,_,_,md.ext q⟩,RG.aI q⟩
             ·refine qP [(127,.bool (decide (kd=(12:Int))))] d fun a d=>cJ 127 d (fun d8=> ?_) fun d8=> ?_
              ·refine cN<|tK<|cJ 127 d (fun d9=> ?_) fun d9=>absurd d8 d9
               refine cN<|bK<|tK<|qS d<|bt 1 (bY 0) z fun o2 l7 D=> ?_
               replace z:=D
               refine sT [] fun a d=>cR<|rB z d ?_
               replace q:=(q.ext Q).grew l7 (r.l 0)
               rw[cf (by omega)];exact⟨iX _ 0,⟨_,_,_,_,_,_,md.ext q⟩,RG.aI q⟩
              ·refine qP [(127,.bool (decide (kd=(13:Int))))] d fun a d=>cJ 127 d (fun e1=> ?_) fun e1=> ?_
               ·refine cN<|tK<|cJ 127 d (fun e2=> ?_) fun e2=>absurd e1 e2
                refine cN<|bK<|tK<|qS d<|bt 1 (bY 0) z fun o3 l8 D=> ?_
                replace z:=D
                refine sT [] fun a d=>cR<|rB z d ?_
                replace q:=(q.ext Q).grew l8 (r.l 0)
                rw[cf (by omega)];exact⟨iX _ 0,⟨_,_,_,_,_,_,md.ext q⟩,RG.aI q⟩
               ·refine rP [(127,.bool (decide (kd=(14:Int))))] d fun a d=>tK<|cJ 127 d (fun j4=> ?_) fun j4=> ?_
                ·refine cN<|bK<|tK<|qS d<|bt 1 (bY 0) z fun o4 l9 D=> ?_
                 replace z:=D
                 refine sT [] fun a d=>cR<|rB z d ?_
                 replace q:=(q.ext Q).grew l9 (r.l 0)
                 rw[cf (by omega)];exact⟨iX _ 0,⟨_,_,_,_,_,_,md.ext q⟩,RG.aI q⟩
                ·refine qS d<|bt 1 (bY 1) z fun o5 m0 D=> ?_
                 replace z:=D
                 refine sT [] fun a d=>cR (yB (yT ?_))
                 refine rB z d ?_
                 replace q:=(q.ext Q).grew m0 (r.l 0)
                 rw[jC (by omega) (by omega) (by omega) (by omega) (by omega) (by omega) (by omega) (by omega)];exact⟨iX _ 1,⟨_,_,_,_,_,_,md.ext q⟩,RG.aI q⟩
end Go.Proofs.YtegkejcglfgpmaaGreatDoor
end
section
namespace Go.aL
open Go Go.ai
/-! ### the document's models: the same; a clone -/
section
variable {W W2:Nat→Prop} {h h':Heap} {rb nb c i:Nat} {M N:Md} {T T2:List RO} {oa oa2 ra:Option Addr} {oc oc2 rc:Nat} {ea BN na:Option Addr} {ec Ac nc:Nat} {es es2:List Value} {x y:RO}
def FY(T:List RO)(i:Nat):Option ByteArray:=T[i]?.map fun x=>x.o.b.id
theorem bE.cloned(m:bE W h rb M T oa oc ea ec es)(e:Ext h h')(hc:h'[c]? =some (.cells #[.slice ra T.length rc, .slice na M.E.length nc, .int .i64 M.t] 86))(o1:Own h' (.slice ra T.length rc) 97 T.length 40 (bB T))(o2:Own h' (.slice na M.E.length nc) 32 M.E.length 1 es)(hn:∀k,na.map (fun(x:Addr)=>x.block)=some k→h.size ≤k)(hW:∀k,W k→k<h.size)(kc:h.size ≤c):bC W h' c M:=
  have k1:=m.kb
  have k2:=aj m.hm
  ⟨T,ra,rc,na,nc,es,hc,jN.of o1,m.gA,(m.ext e).ob,m.al,cz.new o2 (by decide) hW hn,m.en.ext e,m.ln,m.t0,m.t1,by omega,m.ix⟩
end
end Go.aL
end
section
namespace Go.Proofs.YtegkejcglfgpmaaGreatDoor
open Go Go.ai Go.aL
noncomputable def b24:Code:=Tryz.f24.body.getD .skip
set_option maxHeartbeats 1000000 in
theorem yu {W:Nat→Prop}(h:Heap)(rb:Nat)(M:Md)(T:List RO)(oa:Option Addr)(oc:Nat)(ea:Option Addr)(ec:Nat)(es:List Value)(md:bE W h rb M T oa oc ea ec es)(hW:∀k,W k→k<h.size)(hE:M.E.length ≤1099511627):Sat Tryz.prog 24 #[.pointer (some ⟨rb,0,none⟩)] h fun v h'=>∃c,v= .pointer (some ⟨c,0,none⟩)∧bC W h' c M∧h.size ≤c∧Ext h h':=by
 have hm:=md.hm
 have d9:=md.ln
 have g:=Ext.refl h
 have d:Sep h.size h.size []:=Sep.nil _ _
 refine ag Tryz.func24 21 fun a P=>qP [] P fun a P=>cS<|C.mono (K:=fun e a hJ=>∃(Q:Nat),∃(a0:Option Addr) (R:Nat),∃(F:Option Addr) (w:Nat),e= .normal ∧(Ext h hJ)∧(Own hJ (.slice a0 T.length R) 97 T.length 40 (bB T))∧(Own hJ (.slice F M.E.length w) 32 M.E.length 1 es)∧(hJ[Q]? =some (.cells #[.slice a0 T.length R,.slice F M.E.length w,.int .i64 M.t] 86))∧(Sep h.size hJ.size [some Q,a0.map (·.block),F.map (·.block)])∧Fr a 21 [(2,.pointer (some ⟨Q,0,none⟩))]) ?_ ?_
 ·refine cD [0,0,2,6,14,31,0,0,128,384,896,2047,0,4096,12288,28672,65535,131071,262143] 1 mixed P<|mP 14 [1,2,3] [pV rb,pV rb,pV rb]<|mO 30 16 4 0 (.slice oa T.length oc) (g.blk hm)<|mP 926 [7,8,9] [pV rb,pV rb,.pointer (some ⟨rb,1,none⟩)]<|mO 1950 1040 10 1 (.slice ea M.E.length ec) (g.blk hm)<|mP 30622 [12,13,14] [pV rb,pV rb,.pointer (some ⟨rb,2,none⟩)]<|mO 63390 33808 15 2 (.int .i64 M.t) (g.blk hm) ?_
  refine aF.ov (is:=[0,6]) (by kernel_rfl) (by simp) ?_
  intro q hq
  simp only[List.mem_cons,List.not_mem_nil,or_false] at hq
  rcases hq with rfl|rfl
  ·refine pg 63391 1 0 [4,10,15] (Does.new (v:= .slice (some ⟨h.size,0,none⟩) 0 0) (o:= .cells #[] 97) (by kernel_rfl)) ?_
   rintro _ h3 ⟨rfl,s⟩
   have g4:Ext h h3:=aT s
   have m5:h3[h.size]? =some (.cells #[] 97):=bj s
   clear s
   replace d:=d.nw g.size m5
   replace g:=g.ext g4
   refine⟨?_,?_⟩
   ·intro j i
    simp only[List.mem_cons,List.not_mem_nil,or_false] at i
    rcases i with rfl|rfl|rfl
    ·exact aE (Calm.load (T:=84) (p:=⟨rb,0,none⟩) (by kernel_rfl) (Loads.one (k:=1) (by kernel_rfl) ((an (g.blk hm)).trans rfl)))
    ·exact aE (Calm.load (T:=67) (p:=⟨rb,1,none⟩) (by kernel_rfl) (Loads.one (k:=1) (by kernel_rfl) ((an (g.blk hm)).trans rfl)))
    ·exact aE (Calm.load (T:=3) (p:=⟨rb,2,none⟩) (by kernel_rfl) (Loads.one (k:=1) (by kernel_rfl) ((an (g.blk hm)).trans rfl)))
   have f:Own h3 (.slice (some ⟨h.size,0,none⟩) 0 0) 97 ([]:List RO).length 40 (bB []):=Own.empty 40 m5
   replace d:Sep h.size h3.size [(some ⟨h.size,0,none⟩:Option Addr).map (·.block)]:=d
   clear m5
   refine aF.ov (is:=[5,6]) (by kernel_rfl) (by simp) ?_
   intro q hq
   simp only[List.mem_cons,List.not_mem_nil,or_false] at hq
   rcases hq with rfl|rfl
   ·refine pg 63423 63 5 [10,15] (Does.eX (t:=84) (E:=97) (sz:=40) (db:=128) (n:=0) (m:=T.length) (c:=0) (N:=T.length) (a:=(some ⟨h.size,0,none⟩)) (x:= .slice oa T.length oc) (xs:=(bB ([]))) (ys:=(bB T)) (Z:=(bB T)) (by kernel_rfl) (by kernel_rfl) f (md.row.1.ext g) (et _) (by unfold maxLen;omega) (by omega) (by first|rfl| (simp;done)| (simp;omega)) (by first|rfl|exact List.flatMap_append.symm |simp[bB])) ?_
    rintro _ O ⟨S,U,rfl,f,g8,c3⟩
    have d6:=d
    replace d:=d.sa g8 0 c3 f g.size;clear c3
    replace g:=g.grew g8 (d6.l 0)
    refine⟨?_,?_⟩
    ·intro j i
     simp only[List.mem_cons,List.not_mem_nil,or_false] at i
     rcases i with rfl|rfl
     ·exact aE (Calm.load (T:=67) (p:=⟨rb,1,none⟩) (by kernel_rfl) (Loads.one (k:=1) (by kernel_rfl) ((an (g.blk hm)).trans rfl)))
     ·exact aE (Calm.load (T:=3) (p:=⟨rb,2,none⟩) (by kernel_rfl) (Loads.one (k:=1) (by kernel_rfl) ((an (g.blk hm)).trans rfl)))
    refine gD 63487 127 6 [10,15] (Does.new (v:= .slice (some ⟨O.size,0,none⟩) 0 0) (o:= .cells #[] 32) (by kernel_rfl)) ?_
    rintro _ a1 ⟨rfl,s⟩
    have c4:Ext O a1:=aT s
    have a9:a1[O.size]? =some (.cells #[] 32):=bj s
    clear s
    replace d:=d.nw g.size a9
    replace g:=g.ext c4
    refine⟨?_,?_⟩
    ·intro j i
     simp only[List.mem_cons,List.not_mem_nil,or_false] at i
     rcases i with rfl|rfl
     ·exact aE (Calm.load (T:=67) (p:=⟨rb,1,none⟩) (by kernel_rfl) (Loads.one (k:=1) (by kernel_rfl) ((an (g.blk hm)).trans rfl)))
     ·exact aE (Calm.load (T:=3) (p:=⟨rb,2,none⟩) (by kernel_rfl) (Loads.one (k:=1) (by kernel_rfl) ((an (g.blk hm)).trans rfl)))
    have b:Own a1 (.slice (some ⟨O.size,0,none⟩) 0 0) 32 ([]:List Value).length 1 ([]:List Value):=Own.empty 1 a9
    replace d:Sep h.size a1.size [(some ⟨O.size,0,none⟩:Option Addr).map (·.block),S.map (·.block)]:=d
    replace f:=f.ext c4
    clear a9
    refine gD 65535 4095 11 [15] (Does.eX (t:=67) (E:=32) (sz:=1) (db:=24) (n:=0) (m:=M.E.length) (c:=0) (N:=M.E.length) (a:=(some ⟨O.size,0,none⟩)) (x:= .slice ea M.E.length ec) (xs:=[]) (ys:=es) (Z:=es) (by kernel_rfl) (by kernel_rfl) b (md.er.1.1.ext g) (fU md.en) (by unfold maxLen;omega) (by omega) (by first|rfl| (simp;done)| (simp;omega)) (by first|rfl|exact List.flatMap_append.symm | (simp;done)| (simp;rfl))) ?_
    rintro _ V ⟨G,y,rfl,b,b0,a4⟩
    have c5:=d
    replace d:=d.sa b0 0 a4 b g.size;clear a4
    replace g:=g.grew b0 (c5.l 0)
    refine⟨?_,?_⟩
    ·intro j i
     simp only[List.mem_cons,List.not_mem_nil,or_false] at i
     subst i
     exact aE (Calm.load (T:=3) (p:=⟨rb,2,none⟩) (by kernel_rfl) (Loads.one (k:=1) (by kernel_rfl) ((an (g.blk hm)).trans rfl)))
    refine mP 131071 [16] [.agg #[.slice S T.length U,.slice G M.E.length y,.int .i64 M.t]]<|mN 262143 262143 17 (pV V.size) #[.slice S T.length U,.slice G M.E.length y,.int .i64 M.t] 86 fun e1 b1 c6=> ?_
    replace d:=d.nw g.size c6
    refine mP 524287 [18] [pV V.size]<|mE [(2,pV V.size)] fun a P=> ?_
    have u:=d.pick (l':=[some V.size,S.map (·.block),G.map (·.block)]) [0,2,1] rfl (by decide)
    replace f:=(f.k b0 (c5.ap 1 0)).ext b1
    replace g:=g.ext b1
    replace b:=b.ext b1
    exact⟨V.size,S,U,G,y,rfl,g,f,b,c6,u,P.to⟩
   ·refine pg 63455 65 6 [4,10,15] (Does.new (v:= .slice (some ⟨h3.size,0,none⟩) 0 0) (o:= .cells #[] 32) (by kernel_rfl)) ?_
    rintro _ a2 ⟨rfl,s⟩
    have c7:Ext h3 a2:=aT s
    have b2:a2[h3.size]? =some (.cells #[] 32):=bj s
    clear s
    replace d:=d.nw g.size b2
    replace g:=g.ext c7
    refine⟨?_,?_⟩
    ·intro j i
     simp only[List.mem_cons,List.not_mem_nil,or_false] at i
     rcases i with rfl|rfl|rfl
     ·exact aE (Calm.load (T:=84) (p:=⟨rb,0,none⟩) (by kernel_rfl) (Loads.one (k:=1) (by kernel_rfl) ((an (g.blk hm)).trans rfl)))
     ·exact aE (Calm.load (T:=67) (p:=⟨rb,1,none⟩) (by kernel_rfl) (Loads.one (k:=1) (by kernel_rfl) ((an (g.blk hm)).trans rfl)))
     ·exact aE (Calm.load (T:=3) (p:=⟨rb,2,none⟩) (by kernel_rfl) (Loads.one (k:=1) (by kernel_rfl) ((an (g.blk hm)).trans rfl)))
    have b:Own a2 (.slice (some ⟨h3.size,0,none⟩) 0 0) 32 ([]:List Value).length 1 ([]:List Value):=Own.empty 1 b2
    replace d:Sep h.size a2.size [(some ⟨h3.size,0,none⟩:Option Addr).map (·.block),(some ⟨h.size,0,none⟩:Option Addr).map (·.block)]:=d
    replace f:=f.ext c7
    clear b2
    refine gD 63487 127 5 [10,15] (Does.eX (t:=84) (E:=97) (sz:=40) (db:=128) (n:=0) (m:=T.length) (c:=0) (N:=T.length) (a:=(some ⟨h.size,0,none⟩)) (x:= .slice oa T.length oc) (xs:=(bB ([]))) (ys:=(bB T)) (Z:=(bB T)) (by kernel_rfl) (by kernel_rfl) f (md.row.1.ext g) (et _) (by unfold maxLen;omega) (by omega) (by first|rfl| (simp;done)| (simp;omega)) (by first|rfl|exact List.flatMap_append.symm |simp[bB])) ?_
    rintro _ e2 ⟨H,z,rfl,f,b3,a5⟩
    have c8:=d
    replace d:=d.sa b3 1 a5 f g.size;clear a5
    replace g:=g.grew b3 (c8.l 1)
    refine⟨?_,?_⟩
    ·intro j i
     simp only[List.mem_cons,List.not_mem_nil,or_false] at i
     rcases i with rfl|rfl
     ·exact aE (Calm.load (T:=67) (p:=⟨rb,1,none⟩) (by kernel_rfl) (Loads.one (k:=1) (by kernel_rfl) ((an (g.blk hm)).trans rfl)))
     ·exact aE (Calm.load (T:=3) (p:=⟨rb,2,none⟩) (by kernel_rfl) (Loads.one (k:=1) (by kernel_rfl) ((an (g.blk hm)).trans rfl)))
    replace b:=b.k b3 (c8.ap 0 1)
    refine gD 65535 4095 11 [15] (Does.eX (t:=67) (E:=32) (sz:=1) (db:=24) (n:=0) (m:=M.E.length) (c:=0) (N:=M.E.length) (a:=(some ⟨h3.size,0,none⟩)) (x:= .slice ea M.E.length ec) (xs:=[]) (ys:=es) (Z:=es) (by kernel_rfl) (by kernel_rfl) b (md.er.1.1.ext g) (fU md.en) (by unfold maxLen;omega) (by omega) (by first|rfl| (simp;done)| (simp;omega)) (by first|rfl|exact List.flatMap_append.symm | (simp;done)| (simp;rfl))) ?_
    rintro _ X ⟨I,A,rfl,b,b5,a6⟩
    have c9:=d
    replace d:=d.sa b5 0 a6 b g.size;clear a6
    replace g:=g.grew b5 (c9.l 0)
    refine⟨?_,?_⟩
    ·intro j i
     simp only[List.mem_cons,List.not_mem_nil,or_false] at i
     subst i
     exact aE (Calm.load (T:=3) (p:=⟨rb,2,none⟩) (by kernel_rfl) (Loads.one (k:=1) (by kernel_rfl) ((an (g.blk hm)).trans rfl)))
    refine mP 131071 [16] [.agg #[.slice H T.length z,.slice I M.E.length A,.int .i64 M.t]]<|mN 262143 262143 17 (pV X.size) #[.slice H T.length z,.slice I M.E.length A,.int .i64 M.t] 86 fun e3 b6 d0=> ?_
    replace d:=d.nw g.size d0
    refine mP 524287 [18] [pV X.size]<|mE [(2,pV X.size)] fun a P=> ?_
    have u:=d.pick (l':=[some X.size,H.map (·.block),I.map (·.block)]) [0,2,1] rfl (by decide)
    replace f:=(f.k b5 (c9.ap 1 0)).ext b6
    replace g:=g.ext b6
    replace b:=b.ext b6
    exact⟨X.size,H,z,I,A,rfl,g,f,b,d0,u,P.to⟩
  ·refine pg 63454 64 6 [4,10,15] (Does.new (v:= .slice (some ⟨h.size,0,none⟩) 0 0) (o:= .cells #[] 32) (by kernel_rfl)) ?_
   rintro _ r ⟨rfl,s⟩
   have d7:Ext h r:=aT s
   have b7:r[h.size]? =some (.cells #[] 32):=bj s
   clear s
   replace d:=d.nw g.size b7
   replace g:=g.ext d7
   refine⟨?_,?_⟩
   ·intro j i
    simp only[List.mem_cons,List.not_mem_nil,or_false] at i
    rcases i with rfl|rfl|rfl
    ·exact aE (Calm.load (T:=84) (p:=⟨rb,0,none⟩) (by kernel_rfl) (Loads.one (k:=1) (by kernel_rfl) ((an (g.blk hm)).trans rfl)))
    ·exact aE (Calm.load (T:=67) (p:=⟨rb,1,none⟩) (by kernel_rfl) (Loads.one (k:=1) (by kernel_rfl) ((an (g.blk hm)).trans rfl)))
    ·exact aE (Calm.load (T:=3) (p:=⟨rb,2,none⟩) (by kernel_rfl) (Loads.one (k:=1) (by kernel_rfl) ((an (g.blk hm)).trans rfl)))
   have b:Own r (.slice (some ⟨h.size,0,none⟩) 0 0) 32 ([]:List Value).length 1 ([]:List Value):=Own.empty 1 b7
   replace d:Sep h.size r.size [(some ⟨h.size,0,none⟩:Option Addr).map (·.block)]:=d
   clear b7
   refine gD 63455 65 0 [4,10,15] (Does.new (v:= .slice (some ⟨r.size,0,none⟩) 0 0) (o:= .cells #[] 97) (by kernel_rfl)) ?_
   rintro _ a3 ⟨rfl,s⟩
   have d1:Ext r a3:=aT s
   have b8:a3[r.size]? =some (.cells #[] 97):=bj s
   clear s
   replace d:=d.nw g.size b8
   replace g:=g.ext d1
   refine⟨?_,?_⟩
   ·intro j i
    simp only[List.mem_cons,List.not_mem_nil,or_false] at i
    rcases i with rfl|rfl|rfl
    ·exact aE (Calm.load (T:=84) (p:=⟨rb,0,none⟩) (by kernel_rfl) (Loads.one (k:=1) (by kernel_rfl) ((an (g.blk hm)).trans rfl)))
    ·exact aE (Calm.load (T:=67) (p:=⟨rb,1,none⟩) (by kernel_rfl) (Loads.one (k:=1) (by kernel_rfl) ((an (g.blk hm)).trans rfl)))
    ·exact aE (Calm.load (T:=3) (p:=⟨rb,2,none⟩) (by kernel_rfl) (Loads.one (k:=1) (by kernel_rfl) ((an (g.blk hm)).trans rfl)))
   have f:Own a3 (.slice (some ⟨r.size,0,none⟩) 0 0) 97 ([]:List RO).length 40 (bB []):=Own.empty 40 b8
   replace d:Sep h.size a3.size [(some ⟨r.size,0,none⟩:Option Addr).map (·.block),(some ⟨h.size,0,none⟩:Option Addr).map (·.block)]:=d
   replace b:=b.ext d1
   clear b8
   refine gD 63487 127 5 [10,15] (Does.eX (t:=84) (E:=97) (sz:=40) (db:=128) (n:=0) (m:=T.length) (c:=0) (N:=T.length) (a:=(some ⟨r.size,0,none⟩)) (x:= .slice oa T.length oc) (xs:=(bB ([]))) (ys:=(bB T)) (Z:=(bB T)) (by kernel_rfl) (by kernel_rfl) f (md.row.1.ext g) (et _) (by unfold maxLen;omega) (by omega) (by first|rfl| (simp;done)| (simp;omega)) (by first|rfl|exact List.flatMap_append.symm |simp[bB])) ?_
   rintro _ e4 ⟨J,B,rfl,f,c0,a7⟩
   have d2:=d
   replace d:=d.sa c0 0 a7 f g.size;clear a7
   replace g:=g.grew c0 (d2.l 0)
   refine⟨?_,?_⟩
   ·intro j i
    simp only[List.mem_cons,List.not_mem_nil,or_false] at i
    rcases i with rfl|rfl
    ·exact aE (Calm.load (T:=67) (p:=⟨rb,1,none⟩) (by kernel_rfl) (Loads.one (k:=1) (by kernel_rfl) ((an (g.blk hm)).trans rfl)))
    ·exact aE (Calm.load (T:=3) (p:=⟨rb,2,none⟩) (by kernel_rfl) (Loads.one (k:=1) (by kernel_rfl) ((an (g.blk hm)).trans rfl)))
   replace b:=b.k c0 (d2.ap 1 0)
   refine gD 65535 4095 11 [15] (Does.eX (t:=67) (E:=32) (sz:=1) (db:=24) (n:=0) (m:=M.E.length) (c:=0) (N:=M.E.length) (a:=(some ⟨h.size,0,none⟩)) (x:= .slice ea M.E.length ec) (xs:=[]) (ys:=es) (Z:=es) (by kernel_rfl) (by kernel_rfl) b (md.er.1.1.ext g) (fU md.en) (by unfold maxLen;omega) (by omega) (by first|rfl| (simp;done)| (simp;omega)) (by first|rfl|exact List.flatMap_append.symm | (simp;done)| (simp;rfl))) ?_
   rintro _ Y ⟨L,D,rfl,b,c1,a8⟩
   have d3:=d
   replace d:=d.sa c1 1 a8 b g.size;clear a8
   replace g:=g.grew c1 (d3.l 1)
   refine⟨?_,?_⟩
   ·intro j i
    simp only[List.mem_cons,List.not_mem_nil,or_false] at i
    subst i
    exact aE (Calm.load (T:=3) (p:=⟨rb,2,none⟩) (by kernel_rfl) (Loads.one (k:=1) (by kernel_rfl) ((an (g.blk hm)).trans rfl)))
   refine mP 131071 [16] [.agg #[.slice J T.length B,.slice L M.E.length D,.int .i64 M.t]]<|mN 262143 262143 17 (pV Y.size) #[.slice J T.length B,.slice L M.E.length D,.int .i64 M.t] 86 fun e5 c2 d4=> ?_
   replace d:=d.nw g.size d4
   refine mP 524287 [18] [pV Y.size]<|mE [(2,pV Y.size)] fun a P=> ?_
   have u:=d.pick (l':=[some Y.size,J.map (·.block),L.map (·.block)]) [0,1,2] rfl (by decide)
   replace f:=(f.k c1 (d3.ap 0 1)).ext c2
   replace g:=g.ext c2
   replace b:=b.ext c2
   exact⟨Y.size,J,B,L,D,rfl,g,f,b,d4,u,P.to⟩
 ·clear P a g d
  rintro e a e6 ⟨Q,a0,R,F,w,rfl,g,f,b,d8,d,P⟩
  refine tK<|cR<|rT 2 (pV Q) P ?_
  have d5:=(d.l 0) _ rfl
  exact⟨_,rfl,md.cloned g d8 f b (d.l 2) hW d5,d5,g⟩
noncomputable def b26:Code:=Tryz.f26.body.getD .skip
end Go.Proofs.YtegkejcglfgpmaaGreatDoor
end
section
namespace Go.aL
open Go Go.ai
theorem bC.other{W W2:Nat→Prop}{h h':Heap}{rb nb:Nat}{M N:Md}(m:bC W h rb M)(g:RG nb h h')(k:bC W2 h nb N)(hne:rb≠nb):bC W h' rb M:=by
  obtain⟨_,_,_,_,_,_,k⟩:=k
  exact m.fr g (fun i e=>e▸⟨.inl (aY.cells k.hm (by decide)),oR.cells k.hm (by decide)⟩) hne
end Go.aL
namespace Go.Proofs.YtegkejcglfgpmaaGreatDoor
open Go Go.ai Go.aL
theorem oY(h:Heap)(rb:Nat)(M:Md)(m:bC (fun _=>False) h rb M)(kd n:Int)(s:ByteArray)(l:List UInt8)(oa:Option Addr)(oc:Nat)(ka:Option Addr)(kn kc:Nat)(hr:Row h (.slice oa l.length oc) l.length 1 (l.map bv))(hsz:s.size ≤9223372036854775807)(hE:M.E.length ≤1099511627)(N:Md)(X:An)(hs:step M kd n s l=(N,X)):
    Sat Tryz.prog 18 #[.pointer (some ⟨rb,0,none⟩), .agg #[.int .i64 kd, .string s, .slice oa l.length oc, .int .i64 n, .slice ka kn kc]] h fun v h'=>∃qa qc ia ic pa pc,v=pX X (.slice qa X.b.length qc) (.slice ia X.i.length ic) (.slice pa X.p.length pc)∧
      ay h' (.slice qa X.b.length qc) X.b.length 1 (X.b.map bv)∧ay h' (.slice ia X.i.length ic) X.i.length 1 (X.i.map Value.string)∧ay h' (.slice pa X.p.length pc) X.p.length 32 (hcs X.p)∧aq X.p ∧bC (fun _=>False) h' rb N∧RG rb h h':=by
  obtain⟨T,ra,rc,ea,ec,es,md⟩:=m
  refine(Aq h rb M T ra rc ea ec es md (fun _ e=>e.elim) kd n s l oa oc ka kn kc hr hsz hE).mono fun v h' ⟨a,m',g⟩=> ?_
  rw[hs] at a m'
  obtain⟨qa,qc,ia,ic,pa,pc,e,r1,r2,r3,r4⟩:=a
  exact⟨qa,qc,ia,ic,pa,pc,e,r1,r2,r3,r4,m',g⟩
theorem qB(h:Heap)(rb:Nat)(M:Md)(m:bC (fun _=>False) h rb M)(hE:M.E.length ≤1099511627):Sat Tryz.prog 24 #[.pointer (some ⟨rb,0,none⟩)] h fun v h'=>∃c,v= .pointer (some ⟨c,0,none⟩)∧bC (fun _=>False) h' c M∧h.size ≤c∧Ext h h':=by
  obtain⟨T,ra,rc,ea,ec,es,md⟩:=m
  exact yu h rb M T ra rc ea ec es md (fun _ e=>e.elim) hE
end Go.Proofs.YtegkejcglfgpmaaGreatDoor
end
section
namespace Go.aL
open Go Go.ai
/-! ### an answer's own rows, written over -/
/-! ### beside both models: what is written past a mark -/
section
variable {lo:Nat} {h h':Heap} {b p rb c:Nat} {M:Md} {o:Option Nat} {v:Value} {n sz E:Nat} {xs:List Value}
theorem _root_.Go.ai.Own.rg{W:Nat→Prop}(own:Own h v E n sz xs)(g:RG rb h h')(m:bC W h rb M)(hE:E≠86):Own h' v E n sz xs:=by
  obtain⟨_,_,_,_,_,_,m⟩:=m
  rcases own.2 with⟨rfl,h0⟩|⟨q,off,cap,l,rfl,q2,r⟩
  · exact⟨own.1, .inl ⟨rfl,h0⟩⟩
  · refine ⟨own.1, .inr ⟨q, off, cap, l, rfl, ?_, r⟩⟩
    rw[g.2 q (aj q2) (fun e=>by have:=m.hm;rw[←e,q2] at this;cases this;exact hE rfl)];exact q2
def F3(mb mp rb i:Nat):Prop:=i=mb∨i=mp∨i=rb
def WR(lo c e k:Nat):Prop:=(lo≤k∧k<c)∨e≤k
def WP(lo c e:Nat)(qa ia pa:Option Addr)(k:Nat):Prop:=(lo≤k∧k<c)∨AF qa ia pa k∨e≤k
variable {mb mp:Nat} {h0:Heap} {qa ia pa:Option Addr} {F:Nat→Prop}
end
/-! ### luck -/
structure Lk where
  dark:Int
  full:Int
  work:Int
@[reducible] def Cf(x:Lk):List Value:=[.int .i64 x.dark, .int .i64 x.full, .int .i64 x.work]
def eM:Lk:=⟨3,1,0⟩
@[reducible] def A9(L:List Lk):List Value:=L.flatMap Cf
theorem Ar(x:Lk):(Cf x).length =3:=rfl
def bV(c:Int)(n:Nat):Nat:=(if c<0 then -(c+1) else c).toNat %n
/-! ### models whose hashes are 32 bytes and nothing more: the same just if they are equal -/
def Canon(M:Md):Prop:=∀s o,M.f s=some o→o.b.id =s∧∀i,32≤i→o.b.root i=0
theorem uC{x y:RB}(h:hl x=hl y):∀i,i<32→x.root i=y.root i:=by
  have hg:∀(x:RB) (i:Nat),i<32→(hl x).getD i 0=x.root i:=fun x i hi=>by
    rcases i with _|_|_|_|_|_|_|_|_|_|_|_|_|_|_|_|_|_|_|_|_|_|_|_|_|_|_|_|_|_|_|_|i<;>first|rfl|omega
  intro i hi;rw[←hg x i hi, ←hg y i hi,h]
theorem As{o p:Ob}{s:ByteArray}(e:vB o p)(h1:o.b.id =s∧∀i,32≤i→o.b.root i=0)(h2:p.b.id =s∧∀i,32≤i→p.b.root i=0):o=p:=by
  obtain⟨⟨i1,l1,r1,x1⟩,e1,a1,g1,d1⟩:=o
  obtain⟨⟨i2,l2,r2,x2⟩,e2,a2,g2,d2⟩:=p
  obtain⟨hs,hd⟩:=e
  unfold fJ at hs
  simp only[List.all_cons,List.all_nil,id,Bool.and_true,Bool.and_eq_true,beq_iff_eq,decide_eq_true_eq] at hs hd h1 h2
  obtain⟨hl1,hr,hx,he,ha,hg⟩:=hs
  have hroot:r1=r2:=funext fun i=>by
    by_cases hi:i<32
    · exact uC hr i hi
    · rw[h1.2 i (by omega),h2.2 i (by omega)]
  subst hroot;subst hl1;subst hx;subst he;subst ha;subst hg;subst hd
  rw[h1.1,h2.1]
theorem yv {M N : Md} (q : iP M N) (hM : Canon M) (hN : Canon N) (ht : M.t = N.t) : M = N := by
  obtain⟨f,E,t⟩:=M
  obtain⟨g,E',t'⟩:=N
  have hf:f=g:=funext fun s=>by
    have:=q.1 s
    cases h1:f s with
    | none => cases h2 : g s with
      |none=>rfl
      |some p=>exact absurd this (by show ¬qu (f s) (g s);rw[h1,h2];exact id)
    | some o => cases h2 : g s with
      |none=>exact absurd this (by show ¬qu (f s) (g s);rw[h1,h2];exact id)
      | some p =>
        have e:qu (f s) (g s):=this
        rw[h1,h2] at e
        rw[As e (hM s o h1) (hN s p h2)]
  have hE:E=E':=q.2
  have ht':t=t':=ht
  subst hf;subst hE;subst ht';rfl
theorem Au(E:List (List UInt8))(t:Int):Canon ⟨fun _=>none,E,t⟩:=fun s o h=>by cases h
theorem n_{M:Md}(h:Canon M){s:ByteArray}{o:Ob}(ho:o.b.id =s∧∀i,32≤i→o.b.root i=0)(E:List (List UInt8))(t:Int):Canon ⟨upd M.f s o,E,t⟩:=fun k p hp=>by
  by_cases e:k=s
  · subst e;have hp':upd M.f k o k=some p:=hp;rw[gU] at hp';cases hp';exact ho
  · exact h k p (by rw[←upd_ne (f:=M.f) (o:=o) e];exact hp)
theorem B0(o:Ob)(kd n t:Int):(eR o kd n t).1.b =o.b :=by
  unfold eR;split
  · split<;>rfl
  split
  · split<;>rfl
  split
  · rfl
  split
  · rfl
  split<;>rfl
theorem B1(o:Ob)(kd n t:Int):(eR o kd n t).2 =0∨200≤(eR o kd n t).2 :=by
  unfold eR;split
  · split<;>simp
  split
  · split<;>simp
  split
  · simp
  split
  · simp
  split<;>simp
theorem Av{M:Md}(h:Canon M)(t:Int):Canon ⟨M.f,M.E,t⟩:=h
theorem vS{M:Md}(h:Canon M)(kd n:Int)(s:ByteArray):Canon (fL M kd n s).1 :=by
  unfold fL;split
  · exact h
  split
  · exact h
  split
  · exact h
  · rename_i o ho
    split
    · exact n_ h (by rw[B0];exact h s o ho) _ _
    · exact h
theorem vT{M:Md}(h:Canon M)(s:ByteArray)(b:List UInt8):Canon (du M s b).1 :=by
  unfold du;split
  · exact h
  split
  · exact h
  split
  · exact h
  · refine n_ h (s := s) (o := pP s b M.E.length) ⟨rfl, fun i hi => ?_⟩ _ _
    show(bF b).getD i 0=0
    rw[List.getD_eq_getElem?_getD,List.getElem?_eq_none (by rw[eo];exact hi)];rfl
theorem Dc(M:Md)(kd n:Int)(s:ByteArray):(fL M kd n s).1.t =M.t :=by
  unfold fL;split
  · rfl
  split
  · rfl
  split
  · rfl
  split<;>rfl
theorem Dd(M:Md)(s:ByteArray)(b:List UInt8):(du M s b).1.t =M.t :=by
  unfold du;split
  · rfl
  split
  · rfl
  split<;>rfl
theorem c23(c:Int)(h:c≠2∧c≠3:=by decide):c≠2∧c≠3:=h
theorem De(M:Md)(kd n:Int)(s:ByteArray):(fL M kd n s).2 ≠2∧(fL M kd n s).2 ≠3:=by
  unfold fL;split
  · exact c23 (210)
  split
  · exact c23 (1)
  split
  · exact c23 (211)
  · rename_i o _
    have:=B1 o kd n M.t
    split
    · exact c23 (0)
    · constructor<;>(intro e;dsimp only at e;omega)
theorem Df(M:Md)(s:ByteArray)(b:List UInt8):(du M s b).2 ≠2∧(du M s b).2 ≠3:=by
  unfold du;split
  · exact c23 (210)
  split
  · exact c23 (5)
  split
  · exact c23 212
  · exact c23 0
theorem ez(A:An):au A A=0:=p_ rfl rfl (dR ..) rfl (ff ..) rfl rfl
theorem qC{Ns:List Md}{M N:Md}(h:N∈Ns):N∈g_ Ns M:=by unfold g_;split;exact h;exact List.mem_append_left _ h
theorem qD{Ns:List Md}{M N:Md}(h:N∈g_ Ns M):N∈Ns∨N=M:=by
  unfold g_ at h;split at h
  · exact .inl h
  · exact(List.mem_append.1 h).imp id List.mem_singleton.1
theorem oh{Ns:List Md}{M:Md}(hM:Canon M)(hc:∀N∈Ns,Canon N∧N.t =M.t):M∈g_ Ns M:=by
  unfold g_;split
  · rename_i h
    unfold vD at h
    obtain⟨N,hN,e⟩:=List.any_eq_true.1 h
    have q:iP M N:=by
      by_cases k:iP M N
      · exact k
      · rw[gq k] at e;cases e
    rw[yv q hM (hc N hN).1 (hc N hN).2.symm];exact hN
  · exact List.mem_append_right _ (List.mem_singleton.2 rfl)
end Go.aL
namespace Go.Proofs.YtegkejcglfgpmaaGreatDoor
open Go Go.ai Go.aL
section
variable {M N:Md} {kd n:Int} {s:ByteArray} {l:List UInt8}
theorem my(h:Canon M):Canon (step M kd n s l).1 :=by
  unfold step;split
  · exact vT h s l
  split
  · exact vS h kd n s
  split
  · exact h
  split
  · exact h
  split
  · exact h
  split
  · exact h
  split
  · exact Av h _
  split<;>exact h
theorem oZ(hk:kd≠10):(step M kd n s l).1.t =M.t :=by
  unfold step;split
  · exact Dd M s l
  split
  · exact Dc M kd n s
  split
  · rfl
  split
  · rfl
  split
  · rfl
  split
  · rfl
  split<;>rfl
theorem Aw(h:M.t =N.t):(step M kd n s l).1.t =(step N kd n s l).1.t :=by
  by_cases hk:kd=10
  · rw[ep hk,ep hk];show M.t +_=N.t +_;rw[h]
  · rw[oZ hk,oZ hk,h]
theorem Ax(L:List Hs)(m:Int):(cO L m).2 ≠2∧(cO L m).2 ≠3:=by unfold cO;split;exact c23 0;exact c23 _
theorem B2(M:Md)(kd:Int)(s:ByteArray):(dm M kd s).c ≠2∧(dm M kd s).c ≠3:=by
  unfold dm;split
  · exact c23 210
  cases M.f s with
  |none=>exact c23 211
  | some o =>
    dsimp only
    split
    · exact c23 0
    split
    · exact Ax ..
    split
    · exact c23 213
    split<;>exact c23 0
theorem sL:(step M kd n s l).2.c ≠2∧(step M kd n s l).2.c ≠3:=by
  unfold step;split
  · exact Df M s l
  split
  · exact De M kd n s
  split
  · exact B2 M kd s
  split
  · exact c23 0
  split
  · exact c23 0
  split
  · exact c23 0
  split
  · exact c23 0
  split
  · exact c23 0
  · exact c23 1
end
/-! ### a round of what is played -/
structure kE where
  M:Md
  off:Bool
  aC:Bool
def eb(kd:Int)(W:An)(x:Lk):An:=if kd=11 then {W with k:=((bV x.work 7:Nat):Int)} else if kd=15∧W.c =0 then {W with k:=((bV x.work 5:Nat):Int)} else W
def b_(kd n:Int)(off aC:Bool):Bool×Bool:=if kd=12∧off=false then (off,decide (0≤n)) else if kd=13 then (false,false) else (off,aC)
noncomputable def fD(S:kE)(o:dJ)(x:Lk):kE×An:=
  if (ak o.kd).1 =true∧((b_ o.kd o.n S.off S.aC).1 =true∨((b_ o.kd o.n S.off S.aC).2 =true∧bV x.dark 4<2)) then
    (⟨if (b_ o.kd o.n S.off S.aC).1 =false∧(ak o.kd).2 =true∧bV x.dark 4=0 then (aG S.M o).1 else S.M,true,(b_ o.kd o.n S.off S.aC).2⟩,cm 2)
  else if (ak o.kd).2 =true∧bV x.full 5=0∧(aG S.M o).2.c =0 then (⟨S.M,(b_ o.kd o.n S.off S.aC).1,(b_ o.kd o.n S.off S.aC).2⟩,cm 3)
  else (⟨(aG S.M o).1,(b_ o.kd o.n S.off S.aC).1,(b_ o.kd o.n S.off S.aC).2⟩,eb o.kd (aG S.M o).2 x)
/-! ### the judge, in plain Lean -/
noncomputable def kV(J:Jd)(o:dJ)(X:An):Jd×Int:=
  if J.gave =true then (J,0)
  else if (ak o.kd).1 =false then
    (if o.kd =12 then (if J.off =true then J else {J with aC:=decide (0≤o.n)}) else if o.kd =13 then {J with off:=false,aC:=false} else if o.kd =10 then {J with c:=J.c.map fun M=>(aG M o).1 } else J,
      au (if o.kd =12∨o.kd =13∨o.kd =10∨o.kd =14 then dy else cm 1) X)
  else if J.off =true then (J,au (cm 2) X)
  else if X.c =2∧J.aC =true then
    (if (ak o.kd).2 =true then ⟨eL o.kd o.n o.s o.l J.c,true,J.aC,J.qd,decide (16<(eL o.kd o.n o.s o.l J.c).length)⟩ else {J with off:=true},au (cm 2) X)
  else bz J (if (ak o.kd).2 =true∧X.c =3 then bh o.kd o.n o.s o.l X else bA o.kd o.n o.s o.l X)
theorem qE{kd:Int}(h:(ak kd).1 =true):ak kd=(true,(ak kd).2):=Prod.ext h rfl
theorem mB{kd:Int}(h:(ak kd).1 =false):ak kd=(false,false):=by
  unfold ak at h⊢;split
  · rename_i k;rw[if_pos k] at h;cases h
  split
  · rename_i k1 k;rw[if_neg k1,if_pos k] at h;cases h
  · rfl
theorem yw{kd:Int}(h:(ak kd).1 =true):kd≠10∧kd≠12∧kd≠13∧kd≠14:=by
  refine⟨?_, ?_, ?_, ?_⟩<;>(rintro rfl;exact absurd h (by decide))
theorem uD{h:Heap}{o:dJ}{x:dM}{J:Jd}(ho:mr h o)(hx:je h x)(hr:J.qd =false)(hk:o.kd =14→x.X.k ≠1)(hE:J.gave =false→∀M∈J.c,M.E.length ≤1099511627)(hn:J.gave =false→J.c.length ≤109951162):aU h o x J (kV J o x.X).1 (kV J o x.X).2 :=by
  obtain⟨Ms,off,b,qd,gave⟩:=J
  dsimp only at hr hE hn
  subst hr
  dsimp only[kV]
  cases gave with
  |true=>rw[if_pos rfl];exact aU.gave
  | false =>
    rw[if_neg Bool.false_ne_true]
    have hE':=hE rfl
    have hn':=hn rfl
    by_cases hc:(ak o.kd).1 =false
    · rw [if_pos hc]
      by_cases k12:o.kd =12
      · rw [if_pos k12, if_pos (Or.inl k12)]
        cases off with
        |true=>rw[if_pos rfl];exact aU.C3 hx k12
        |false=>rw[if_neg Bool.false_ne_true];exact aU.fuse hx k12
      by_cases k13:o.kd =13
      · rw[if_neg k12,if_pos k13,if_pos (Or.inr (.inl k13))];exact aU.C4 hx k13
      by_cases k10:o.kd =10
      · rw[if_neg k12,if_neg k13,if_pos k10,if_pos (Or.inr (.inr (.inl k10)))];exact aU.tick ho hx k10 hE' (by omega)
      rw[if_neg k12,if_neg k13,if_neg k10]
      by_cases k14:o.kd =14
      · rw[if_pos (Or.inr (.inr (.inr k14)))];exact aU.qd hx k14 (hk k14)
      · rw[if_neg (by omega)];exact aU.none hx (mB hc) ⟨k12,k10,k14,k13⟩
    · rw [if_neg hc]
      have hc1:(ak o.kd).1 =true:=by cases e:(ak o.kd).1 with|true=>rfl|false=>exact absurd e hc
      have hkc:=qE hc1
      cases off with
      |true=>rw[if_pos rfl];exact aU.off hx hkc
      | false =>
        rw[if_neg Bool.false_ne_true]
        by_cases hp:x.X.c =2∧b=true
        · rw [if_pos hp]
          obtain⟨hX,rfl⟩:=hp
          cases hg:(ak o.kd).2 with
          |true=>rw[if_pos rfl];rw[hg] at hkc;exact aU.yh ho hx hkc hX hE' hn'
          |false=>rw[if_neg Bool.false_ne_true];rw[hg] at hkc;exact aU.dark hx hkc hX
        · rw [if_neg hp]
          have hb:x.X.c =2→b=false:=fun e=>by cases b with|false=>rfl|true=>exact absurd ⟨e,rfl⟩ hp
          cases hg:(ak o.kd).2 with
          |false=>rw[if_neg (by rintro⟨e,_⟩;cases e)];rw[hg] at hkc;exact aU.yj ho hx hkc hb hE' (by omega) rfl
          | true =>
            rw[hg] at hkc
            by_cases h3:x.X.c =3
            · rw[if_pos ⟨rfl,h3⟩];exact aU.C5 ho hx hkc hb h3 hE' (by omega) rfl
            · rw[if_neg (fun e=>h3 e.2)];exact aU.yi ho hx hkc hb h3 hE' (by omega) rfl
/-! ### no false blame -/
structure Ay(S:kE)(J:Jd)(k:Nat):Prop where
  qd:J.qd =false
  off:J.gave =false→J.off =S.off ∧J.aC =S.aC
  mem:J.gave =false→S.M ∈J.c
  all:J.gave =false→∀N∈J.c,Canon N∧N.t =S.M.t ∧N.E.length ≤k
  len:J.gave =false→J.c.length ≤16
theorem om{J:Jd}{f:Md→Md×Int}{M:Md}(hM:M∈J.c)(h0:(f M).2 =0):(bz J f).2 =0∧(f M).1 ∈(bz J f).1.c ∧(∀N∈(bz J f).1.c,∃K∈J.c,N=(f K).1)∧(bz J f).1.c.length ≤J.c.length ∧(bz J f).1.off =J.off ∧(bz J f).1.aC =J.aC ∧(bz J f).1.qd =J.qd ∧(bz J f).1.gave =J.gave :=by
  have hin:f M∈(J.c.map f).filter fun y=>decide (y.2 =0):=List.mem_filter.2 ⟨List.mem_map.2 ⟨M,hM,rfl⟩,decide_eq_true h0⟩
  rw[mi (fun e=>by rw[e] at hin;cases hin)]
  refine⟨rfl,List.mem_map.2 ⟨f M,hin,rfl⟩,fun N hN=> ?_, ?_,rfl,rfl,rfl,rfl⟩
  · obtain ⟨y, hy, rfl⟩ := List.mem_map.1 hN
    obtain⟨K,hK,rfl⟩:=List.mem_map.1 (List.mem_filter.1 hy).1
    exact⟨K,hK,rfl⟩
  · show (List.map _ _).length ≤ _
    rw[List.length_map];exact Nat.le_trans (List.length_filter_le _ _) (by rw[List.length_map];exact Nat.le_refl _)
theorem qF{kd n:Int}{s:ByteArray}{l:List UInt8}{t:Int}{k:Nat}(hk:kd≠10):∀(Ms A:List Md),(∀N∈Ms,Canon N∧N.t =t∧N.E.length ≤k)→(∀N∈A,Canon N∧N.t =t∧N.E.length ≤k+1)→
    (∀N∈Ms.foldl (ef kd n s l) A,Canon N∧N.t =t∧N.E.length ≤k+1)∧(∀N∈A,N∈Ms.foldl (ef kd n s l) A)∧∀M∈Ms,M∈Ms.foldl (ef kd n s l) A∧((step M kd n s l).2.c =0→(step M kd n s l).1 ∈Ms.foldl (ef kd n s l) A)
  |[],A,_,hA=>⟨hA,fun _ h=>h,fun _ h=>by cases h⟩
  | M :: Ms, A, hM, hA => by
    have hm:=hM M (List.mem_cons_self ..)
    have c1:Canon (step M kd n s l).1 :=my hm.1
    have t1:(step M kd n s l).1.t =t:=(oZ hk).trans hm.2.1
    have e1:(step M kd n s l).1.E.length ≤k+1:=by have:=oP M kd n s l;omega
    have hB:∀N∈g_ A M,Canon N∧N.t =t∧N.E.length ≤k+1:=fun N hN=>(qD hN).elim (hA N) fun e=>by rw[e];exact⟨hm.1,hm.2.1,by omega⟩
    have sB:M∈g_ A M:=oh hm.1 fun N hN=>⟨(hA N hN).1,(hA N hN).2.1.trans hm.2.1.symm⟩
    have hC:∀N∈ef kd n s l A M,Canon N∧N.t =t∧N.E.length ≤k+1:=fun N hN=>by
      unfold ef at hN;split at hN
      · exact(qD hN).elim (hB N) fun e=>by rw[e];exact⟨c1,t1,e1⟩
      · exact hB N hN
    have sC:∀N∈g_ A M,N∈ef kd n s l A M:=fun N hN=>by unfold ef;split;exact qC hN;exact hN
    have nC:(step M kd n s l).2.c =0→(step M kd n s l).1 ∈ef kd n s l A M:=fun h=>by
      unfold ef;rw[if_pos h];exact oh c1 fun N hN=>⟨(hB N hN).1,(hB N hN).2.1.trans t1.symm⟩
    obtain⟨r1,r2,r3⟩:=qF hk Ms (ef kd n s l A M) (fun N hN=>hM N (List.mem_cons_of_mem _ hN)) hC
    rw[List.foldl_cons]
    refine⟨r1,fun N hN=>r2 N (sC N (qC hN)),fun N hN=> ?_⟩
    rcases List.mem_cons.1 hN with rfl|hN
    · exact⟨r2 _ (sC _ sB),fun h=>r2 _ (nC h)⟩
    · exact r3 N hN
theorem yx{M:Md}{kd n:Int}{s:ByteArray}{l:List UInt8}(hk:kd=1∨kd=4∨kd=5∨kd=6)(h:(step M kd n s l).2.c ≠0):(step M kd n s l).1 =M:=by
  rcases hk with k|k
  · rw [gW k] at h ⊢
    have h:(du M s l).2 ≠0:=h
    show(du M s l).1 =M
    unfold du at h⊢;split
    · rfl
    split
    · rfl
    split
    · rfl
    · rename_i e1 e2 _ e3
      rw[if_neg e1,if_neg e2,e3] at h;exact absurd rfl h
  · rw [fp k] at h ⊢
    have h:(fL M kd n s).2 ≠0:=h
    show(fL M kd n s).1 =M
    unfold fL at h⊢;split
    · rfl
    split
    · rfl
    split
    · rfl
    · rename_i e1 e2 _ o e3
      rw[if_neg e1,if_neg e2,e3] at h
      dsimp only at h
      split
      · rename_i e4;rw[if_pos e4] at h;exact absurd rfl h
      · rfl
theorem vU(kd:Int)(W:An):dz kd W W=W:=by unfold dz;split<;>rfl
theorem o_(c:Int){n:Nat}(h:0<n):bV c n<n:=Nat.mod_lt _ h
theorem yy(kd:Int)(W:An)(x:Lk):dz kd W (eb kd W x)=eb kd W x:=by
  have h7:=o_ x.work (n:=7) (by decide)
  have h5:=o_ x.work (n:=5) (by decide)
  unfold eb;split
  · rename_i k;exact jK (.inl ⟨k,by show(0:Int)≤((bV x.work 7:Nat):Int);omega,by show((bV x.work 7:Nat):Int)≤6;omega⟩)
  split
  · rename_i k;exact jK (.inr ⟨k.1,k.2,by show(0:Int)≤((bV x.work 5:Nat):Int);omega,by show((bV x.work 5:Nat):Int)≤8;omega⟩)
  · exact vU ..
theorem A_(kd:Int)(W:An)(x:Lk):(eb kd W x).c =W.c :=by unfold eb;split;rfl;split<;>rfl
theorem sM{kd:Int}(W:An)(x:Lk)(h:kd≠11)(k:kd≠15):eb kd W x=W:=by unfold eb;rw[if_neg h,if_neg fun e=>k e.1]
theorem sN{kd:Int}(h:(ak kd).2 =true):kd=1∨kd=4∨kd=5∨kd=6:=by
  unfold ak at h;split at h
  · assumption
  split at h<;>cases h
theorem yz{kd n:Int}{off b:Bool}(h12:kd≠12)(h13:kd≠13):b_ kd n off b=(off,b):=by unfold b_;rw[if_neg fun e=>h12 e.1,if_neg h13]
theorem qG{Ms:List Md}{t:Int}{k:Nat}{M:Md}(o:dJ)(ht:M.t =t)(h:∀N∈Ms,Canon N∧N.t =t∧N.E.length ≤k):∀N∈Ms,Canon (aG N o).1 ∧(aG N o).1.t =(aG M o).1.t ∧(aG N o).1.E.length ≤k+1:=fun N hN=>
  ⟨my (h N hN).1,Aw ((h N hN).2.1.trans ht.symm),by have:=oP N o.kd o.n o.s o.l;have:=(h N hN).2.2;unfold aG;omega⟩
theorem iZ{Ms:List Md}{t:Int}{k:Nat}(h:∀N∈Ms,Canon N∧N.t =t∧N.E.length ≤k):∀N∈Ms,Canon N∧N.t =t∧N.E.length ≤k+1:=fun N hN=>⟨(h N hN).1,(h N hN).2.1,Nat.le_succ_of_le (h N hN).2.2⟩
theorem qH{S:kE}{J:Jd}{k:Nat}(o:dJ)(x:Lk)(i:Ay S J k):(kV J o (fD S o x).2).2 =0∧Ay (fD S o x).1 (kV J o (fD S o x).2).1 (k+1):=by
  obtain⟨qd,off,mem,all,len⟩:=i
  cases hg:J.gave with
  | true =>
    unfold kV;rw[if_pos hg]
    exact⟨rfl,qd,fun e=>(by rw[hg] at e;cases e),fun e=>(by rw[hg] at e;cases e),fun e=>(by rw[hg] at e;cases e),fun e=>(by rw[hg] at e;cases e)⟩
  | false =>
    obtain⟨Ms,vV,jb,FZ,jg⟩:=J
    obtain⟨M,F0,sb⟩:=S
    dsimp only at qd off mem all len hg
    subst hg;subst qd
    obtain⟨rfl,rfl⟩:=off rfl
    have mem:=mem rfl
    have all:=all rfl
    have len:=len rfl
    dsimp only[kV]
    rw[if_neg Bool.false_ne_true]
    by_cases hc:(ak o.kd).1 =false
    · rw [if_pos hc]
      have hc2:(ak o.kd).2 =false:=by rw[mB hc]
      have h11:o.kd ≠11:=fun e=>by rw[e] at hc;exact absurd hc (by decide)
      have h15:o.kd ≠15:=fun e=>by rw[e] at hc;exact absurd hc (by decide)
      have hp:fD ⟨M,vV,jb⟩ o x=(⟨(aG M o).1,(b_ o.kd o.n vV jb).1,(b_ o.kd o.n vV jb).2⟩,(aG M o).2):=by
        unfold fD;rw[if_neg (fun e=>by rw[hc] at e;exact absurd e.1 (by decide)),if_neg (fun e=>by rw[hc2] at e;exact absurd e.1 (by decide)),sM _ _ h11 h15]
      rw[hp]
      have hst:=qG o rfl all
      have B3:o.kd ≠10→(aG M o).1 =M:=fun k10=>by
        unfold aG
        have hn:¬(o.kd =1∨o.kd =4∨o.kd =5∨o.kd =6):=fun e=>by rw[bS e] at hc;cases hc
        by_cases ha:o.kd =2∨o.kd =3∨o.kd =7∨o.kd =8∨o.kd =9∨o.kd =11∨o.kd =15∨o.kd =16
        · rw[bO hn ha] at hc;cases hc
        by_cases h4:o.kd =11∨o.kd =12∨o.kd =13∨o.kd =14
        · rw[cf h4]
        · rw[jC (by omega) (by omega) (by omega) (by omega) (by omega) (by omega) k10 h4]
      have Dg:au (if o.kd =12∨o.kd =13∨o.kd =10∨o.kd =14 then dy else cm 1) (aG M o).2 =0:=by
        unfold aG
        by_cases k10:o.kd =10
        · rw[if_pos (by omega),ep k10];exact ez _
        by_cases h4:o.kd =11∨o.kd =12∨o.kd =13∨o.kd =14
        · rw[if_pos (by omega),cf h4];exact ez _
        have hn:¬(o.kd =1∨o.kd =4∨o.kd =5∨o.kd =6):=fun e=>by rw[bS e] at hc;cases hc
        by_cases ha:o.kd =2∨o.kd =3∨o.kd =7∨o.kd =8∨o.kd =9∨o.kd =11∨o.kd =15∨o.kd =16
        · rw[bO hn ha] at hc;cases hc
        rw[if_neg (by omega),jC (by omega) (by omega) (by omega) (by omega) (by omega) (by omega) k10 h4];exact ez _
      refine⟨Dg, ?_⟩
      dsimp only
      by_cases k12:o.kd =12
      · rw [if_pos k12, B3 (by omega)]
        cases vV with
        |true=>rw[if_pos rfl];unfold b_;rw[if_neg (fun e=>by cases e.2),if_neg (by omega)];exact⟨rfl,fun _=>⟨rfl,rfl⟩,fun _=>mem,fun _=>iZ all,fun _=>len⟩
        |false=>rw[if_neg Bool.false_ne_true];unfold b_;rw[if_pos ⟨k12,rfl⟩];exact⟨rfl,fun _=>⟨rfl,rfl⟩,fun _=>mem,fun _=>iZ all,fun _=>len⟩
      rw[if_neg k12]
      by_cases k13:o.kd =13
      · rw[if_pos k13,B3 (by omega)];unfold b_;rw[if_neg (fun e=>k12 e.1),if_pos k13];exact⟨rfl,fun _=>⟨rfl,rfl⟩,fun _=>mem,fun _=>iZ all,fun _=>len⟩
      rw[if_neg k13,yz k12 k13]
      by_cases k10:o.kd =10
      · rw [if_pos k10]
        refine⟨rfl,fun _=>⟨rfl,rfl⟩,fun _=>List.mem_map.2 ⟨M,mem,rfl⟩,fun _ N hN=> ?_,fun _=>(by show(List.map _ _).length ≤_;rw[List.length_map];exact len)⟩
        obtain⟨K,hK,rfl⟩:=List.mem_map.1 hN
        exact hst K hK
      · rw[if_neg k10,B3 k10];exact⟨rfl,fun _=>⟨rfl,rfl⟩,fun _=>mem,fun _=>iZ all,fun _=>len⟩
    · rw [if_neg hc]
      have hc1:(ak o.kd).1 =true:=by cases e:(ak o.kd).1 with|true=>rfl|false=>exact absurd e hc
      obtain⟨k10,k12,k13,k14⟩:=yw hc1
      have hF:=yz (n:=o.n) (off:=vV) (b:=jb) k12 k13
      cases vV with
      | true =>
        have hp:fD ⟨M,true,jb⟩ o x=(⟨M,true,jb⟩,cm 2):=by
          unfold fD;dsimp only;rw[hF,if_pos ⟨hc1, .inl rfl⟩,if_neg (fun e=>by cases e.1)]
        rw[hp,if_pos rfl]
        exact⟨ez (cm 2),rfl,fun _=>⟨rfl,rfl⟩,fun _=>mem,fun _=>iZ all,fun _=>len⟩
      | false =>
        rw[if_neg Bool.false_ne_true]
        by_cases hd:jb=true∧bV x.dark 4<2
        · obtain ⟨rfl, hd⟩ := hd
          have hp:fD ⟨M,false,true⟩ o x=(⟨if (ak o.kd).2 =true∧bV x.dark 4=0 then (aG M o).1 else M,true,true⟩,cm 2):=by
            unfold fD;dsimp only;rw[hF,if_pos ⟨hc1, .inr ⟨rfl,hd⟩⟩]
            by_cases q:(ak o.kd).2 =true∧bV x.dark 4=0
            · rw[if_pos ⟨rfl,q⟩,if_pos q]
            · rw[if_neg (fun e=>q e.2),if_neg q]
          rw[hp];dsimp only
          rw[if_pos ⟨rfl,rfl⟩]
          refine⟨ez (cm 2), ?_⟩
          cases hg:(ak o.kd).2 with
          | false =>
            rw[if_neg Bool.false_ne_true,if_neg (fun e=>by cases e.1)]
            exact⟨rfl,fun _=>⟨rfl,rfl⟩,fun _=>mem,fun _=>iZ all,fun _=>len⟩
          | true =>
            rw[if_pos rfl]
            obtain⟨p1,_,p3⟩:=qF (kd:=o.kd) (n:=o.n) (s:=o.s) (l:=o.l) k10 Ms [] all (fun N hN=>by cases hN)
            obtain⟨q1,q2⟩:=p3 M mem
            have hM:(if true=true∧bV x.dark 4=0 then (aG M o).1 else M)∈eL o.kd o.n o.s o.l Ms:=by
              split
              · by_cases h0 : (step M o.kd o.n o.s o.l).2.c = 0
                · exact q2 h0
                · unfold aG;rw[yx (sN hg) h0];exact q1
              · exact q1
            have ht:(if true=true∧bV x.dark 4=0 then (aG M o).1 else M).t =M.t :=by
              split
              · exact oZ k10
              · rfl
            refine⟨rfl,fun _=>⟨rfl,rfl⟩,fun _=>hM,fun _ N hN=> ?_,fun e=> ?_⟩
            · dsimp only;rw[ht];exact p1 N hN
            · have:=of_decide_eq_false e;dsimp only;omega
        · have hx : ∀ c : Int, c ≠ 2 → ¬ (c = 2 ∧ jb = true) := fun c h e => h e.1
          have hd':¬((ak o.kd).1 =true∧(false=true∨jb=true∧bV x.dark 4<2)):=fun e=>e.2.elim (fun q=>by cases q) hd
          by_cases hf:(ak o.kd).2 =true∧bV x.full 5=0∧(aG M o).2.c =0
          · have hp : fD ⟨M, false, jb⟩ o x = (⟨M, false, jb⟩, cm 3) := by
              unfold fD;dsimp only;rw[hF,if_neg hd',if_pos hf]
            rw[hp];dsimp only
            rw[if_neg (hx (cm 3).c (by decide)),if_pos ⟨hf.1,rfl⟩]
            have hy:bh o.kd o.n o.s o.l (cm 3) M=(M,0):=jL hf.2.2 (ez _)
            have Ep:∀K,(bh o.kd o.n o.s o.l (cm 3) K).1 =K:=fun _=>rfl
            obtain⟨r1,r2,r3,r4,r5,r6,r7,r8⟩:=om (J:=⟨Ms,false,jb,false,false⟩) (f:=bh o.kd o.n o.s o.l (cm 3)) mem (congrArg Prod.snd hy)
            refine⟨r1,r7,fun _=>⟨r5,r6⟩,fun _=>by rw[Ep] at r2;exact r2,fun _ N hN=> ?_,fun _=>Nat.le_trans r4 len⟩
            obtain⟨K,hK,e⟩:=r3 N hN
            rw[show N=K from e];exact iZ all K hK
          · have hp : fD ⟨M, false, jb⟩ o x = (⟨(aG M o).1, false, jb⟩, eb o.kd (aG M o).2 x) := by
              unfold fD;dsimp only;rw[hF,if_neg hd',if_neg hf]
            have hcc:=sL (M:=M) (kd:=o.kd) (n:=o.n) (s:=o.s) (l:=o.l)
            have hpc:(eb o.kd (aG M o).2 x).c ≠2∧(eb o.kd (aG M o).2 x).c ≠3:=by rw[A_];exact hcc
            rw[hp];dsimp only
            rw[if_neg (hx _ hpc.1),if_neg (fun e=>hpc.2 e.2)]
            have hy:(bA o.kd o.n o.s o.l (eb o.kd (aG M o).2 x) M).2 =0:=by
              show au (dz o.kd (aG M o).2 _) _=0
              rw[yy];exact ez _
            obtain⟨r1,r2,r3,r4,r5,r6,r7,r8⟩:=om (J:=⟨Ms,false,jb,false,false⟩) mem hy
            refine⟨r1,r7,fun _=>⟨r5,r6⟩,fun _=>r2,fun _ N hN=> ?_,fun _=>Nat.le_trans r4 len⟩
            obtain⟨K,hK,rfl⟩:=r3 N hN
            exact qG o rfl all K hK
theorem Dh:Ay ⟨M0,false,false⟩ ⟨[M0],false,false,false,false⟩ 0:=⟨rfl,fun _=>⟨rfl,rfl⟩,fun _=>List.mem_singleton.2 rfl,fun _ N hN=>(by rw[List.mem_singleton.1 hN];exact⟨Au _ _,rfl,Nat.le_refl _⟩),fun _=>(by decide)⟩
end Go.Proofs.YtegkejcglfgpmaaGreatDoor
end
section
namespace Go.aL
open Go Go.ai
structure pb(x:Lk):Prop where
  d1: -9223372036854775808≤x.dark
  d2:x.dark ≤9223372036854775807
  f1: -9223372036854775808≤x.full
  f2:x.full ≤9223372036854775807
  w1: -9223372036854775808≤x.work
  w2:x.work ≤9223372036854775807
theorem Az{V:List Lk}{i:Nat}(h:∀x∈V,pb x)(hi:i<V.length):pb (V.getD i eM):=by
  rw[List.getD_eq_getElem?_getD,List.getElem?_eq_getElem hi];exact h _ (List.getElem_mem hi)
theorem Di:pb eM:=⟨by decide,by decide,by decide,by decide,by decide,by decide⟩
theorem B4{V:List Lk}{i:Nat}(hi:¬i<V.length):V.getD i eM=eM:=by
  rw[List.getD_eq_getElem?_getD,List.getElem?_eq_none (by omega)];rfl
theorem jX{c:Int}(n:Nat)(h:c<0):(-(c+1)).toNat %n=bV c n:=by unfold bV;rw[if_pos h]
theorem jY{c:Int}(n:Nat)(h:¬c<0):c.toNat %n=bV c n:=by unfold bV;rw[if_neg h]
theorem AA{P:Program}{h:Heap}{a:Addr}{V:List Lk}{n c k q:Nat}{x:Lk}(hx:V.getD k eM=x)(r:Row h (.slice (some a) n c) V.length 3 (A9 V)){T:TypeId}(ht:cM P T=some (true,3))(hk:k<V.length)(hq:q=k*3):
    Loads P h T (a.add q) (.agg #[.int .i64 x.dark, .int .i64 x.full, .int .i64 x.work]):=by
  subst hx;exact Row.fm (d:=eM) Ar r ht hk hq
theorem bC.B5{W:Nat→Prop}{h:Heap}{rb c:Nat}{M:Md}{cs:Array Value}{E:TypeId}{fr:Nat×Nat}(m:bC W h rb M)(k:h[c]? =some (.cells cs E fr))(hM:E≠86):rb≠c:=by
  obtain⟨_,_,_,_,_,_,md⟩:=m
  rintro rfl
  have:=md.hm;rw[k] at this;cases this;exact hM rfl
theorem bC.vW{W:Nat→Prop}{h h':Heap}{rb c:Nat}{M:Md}{cs:Array Value}{E:TypeId}{fr:Nat×Nat}(m:bC W h rb M)(g:Grew (some c) h h')(k:h[c]? =some (.cells cs E fr))(hE:lj E=false∧E≠97)(hM:E≠86):bC W h' rb M:=m.aM g k hE (m.B5 k hM)
theorem bC.eJ{W:Nat→Prop}{h h':Heap}{rb:Nat}{M:Md}{o:Option Nat}{v:Value}{E:TypeId}{n sz:Nat}{xs:List Value}(m:bC W h rb M)(g:Grew o h h')(w:Own h v E n sz xs)(ho:aZ v=o)(hE:lj E=false)(hT:E≠97)(hM:E≠86):bC W h' rb M:=by
  subst ho
  rcases w.2 with⟨rfl,_⟩|⟨k,off,cap,l,rfl,q,_⟩
  · exact m.ext g
  · have hne : rb ≠ k := by
      obtain⟨_,_,_,_,_,_,md⟩:=m
      rintro rfl
      have:=md.hm;rw[q] at this;cases this;exact hM rfl
    exact m.fr (F:=fun i=>i=k) ⟨g.1,fun i hi hn=>g.2 i hi (fun e=>hn (Option.some.inj e))⟩ (by rintro i rfl;exact⟨.inl (aY.cells q hE),oR.cells q hT⟩) hne
end Go.aL
namespace Go.Proofs.YtegkejcglfgpmaaGreatDoor
open Go Go.ai Go.aL
section
variable {h h':Heap} {x:dM} {L:List dM}
theorem je.F1{F:Nat→Prop}(a:je h x)(g:Gr F h h')(hF:∀k,F k→aY h k):je h' x:=⟨a.1.fr g hF,a.2.1.fr g hF,a.2.2.1.fr g hF,a.2.2.2⟩
def cQ(h:Heap)(L:List dM):Prop:=∀r∈L,je h r
theorem cQ.nil(h:Heap):cQ h []:=fun _ e=>by cases e
theorem cQ.fr{F:Nat→Prop}(a:cQ h L)(g:Gr F h h')(hF:∀k,F k→aY h k):cQ h' L:=fun r hr=>(a r hr).F1 g hF
theorem cQ.ext(a:cQ h L)(g:Ext h h'):cQ h' L:=a.fr (F:=fun _=>False) ⟨g.1,fun k hk _=>g.2 k hk (by simp)⟩ fun _ e=>e.elim
theorem cQ.aM{c:Nat}{cs:Array Value}{E:TypeId}{fr:Nat×Nat}(a:cQ h L)(g:Grew (some c) h h')(m:h[c]? =some (.cells cs E fr))(hE:lj E=false):cQ h' L:=a.fr g.pM (by rintro k rfl;exact aY.cells m hE)
theorem cQ.rg{W:Nat→Prop}{rb:Nat}{M:Md}(a:cQ h L)(g:RG rb h h')(k:bC W h rb M):cQ h' L:=by
  obtain⟨_,_,_,_,_,_,k⟩:=k
  exact a.fr g fun i e=>e▸aY.cells k.hm (by decide)
theorem cQ.eJ{o:Option Nat}{v:Value}{E:TypeId}{n sz:Nat}{xs:List Value}(a:cQ h L)(g:Grew o h h')(w:Own h v E n sz xs)(ho:aZ v=o)(hE:lj E=false):cQ h' L:=by
  subst ho
  rcases w.2 with⟨rfl,_⟩|⟨k,off,cap,l,rfl,q,_⟩
  · exact a.ext g
  · exact a.fr (F:=fun i=>i=k) ⟨g.1,fun i hi hn=>g.2 i hi (fun e=>hn (Option.some.inj e))⟩ (by rintro i rfl;exact aY.cells q hE)
theorem cQ.snoc(a:cQ h L)(k:je h x):cQ h (L++[x]):=fun r hr=>(List.mem_append.1 hr).elim (a r) fun e=>by rw[List.mem_singleton.1 e];exact k
end
/-! ### how much an answer holds -/
def y5(X:An):Prop:=X.b.length ≤512∧X.i.length ≤1048576∧X.p.length ≤1048576
theorem B6(c:Int):y5 (cm c):=⟨Nat.zero_le _,Nat.zero_le _,Nat.zero_le _⟩
def jZ(L:List dM):Prop:=∀r∈L,y5 r.X
theorem jZ.snoc{L:List dM}{x:dM}(a:jZ L)(k:y5 x.X):jZ (L++[x]):=fun r hr=>(List.mem_append.1 hr).elim (a r) fun e=>by rw[List.mem_singleton.1 e];exact k
theorem vX{W:Nat→Prop}{h:Heap}{rb:Nat}{M:Md}(m:bC W h rb M)(hE:M.E.length ≤1048576)(kd n:Int)(s:ByteArray)(l:List UInt8):y5 (step M kd n s l).2 :=by
  obtain⟨T,oa,oc,ea,ec,es,m⟩:=m
  have hi:(iW M).length ≤M.E.length :=by
    have:=iy (T.map iI);rw[List.length_map,m.ln] at this;rw[m.CO];exact this
  have hd:(eZ M).length ≤M.E.length :=by
    unfold eZ;split
    · rename_i hh
      obtain⟨K,S,E',h',s',e⟩:=Classical.choose_spec hh
      have:=qf m.enum E'
      rw[List.length_map,m.ln] at this
      rw[e,this];unfold ids;rw[List.length_map,h'.length_eq];exact List.length_filter_le _ _
    · exact Nat.zero_le _
  have z:∀c,y5 (cm c):=B6
  have z0:y5 dy:=B6 0
  unfold step
  split
  · exact z _
  split
  · exact z _
  split
  · show y5 (dm M kd s)
    unfold dm
    split
    · exact z _
    split
    · exact z _
    rename_i o ho
    split
    · exact⟨Nat.zero_le _,Nat.zero_le _,Nat.zero_le _⟩
    split
    · refine ⟨Nat.zero_le _, Nat.zero_le _, ?_⟩
      exact Nat.le_trans (Nat.le_trans (nG (cP M.E) o.b.idx) (by unfold cP;rw[List.length_map];exact Nat.le_refl _)) hE
    split
    · exact z _
    split
    · obtain ⟨x, hx, e⟩ := m.al s o ho
      have k:=m.ob x hx
      rw[e,ho] at k
      refine⟨?_,Nat.zero_le _,Nat.zero_le _⟩
      show o.dt.length ≤512
      rw[Option.some.inj k.1];exact k.2.1
    · exact z0
  split
  · exact⟨Nat.zero_le _,Nat.le_trans hi hE,Nat.zero_le _⟩
  split
  · exact⟨Nat.zero_le _,Nat.le_trans hd hE,Nat.zero_le _⟩
  split
  · exact⟨Nat.zero_le _,Nat.zero_le _,Nat.zero_le _⟩
  split
  · exact z0
  split
  · exact z0
  · exact z _
noncomputable def ke(L:List dJ)(V:List Lk):Nat→kE
  |0=>⟨M0,false,false⟩
  |k+1=>(fD (ke L V k) (L.getD k dX) (V.getD k eM)).1
noncomputable def mC(L:List dJ)(V:List Lk)(k:Nat):An:=(fD (ke L V k) (L.getD k dX) (V.getD k eM)).2
def j_(o:dJ)(S:kE)(x:Lk):Prop:=(ak o.kd).1 =true∧((b_ o.kd o.n S.off S.aC).1 =true∨((b_ o.kd o.n S.off S.aC).2 =true∧bV x.dark 4<2))
instance (o:dJ) (S:kE) (x:Lk):Decidable (j_ o S x):=by unfold j_;infer_instance
theorem ed(L:List dM):∀u∈bI L,u.oneCell' =true:=im (fun r=>List.all_eq_true.1 (show(mq r).all _=true by rfl)) L
theorem ee{L:List dJ}{V:List Lk}{k:Nat}{Out:List dM}{r:dM}(hol:Out.length =k)(hon:∀j,j<k→(Out.getD j eB).X =mC L V j)(e:r.X =mC L V k):∀j,j<k+1→((Out++[r]).getD j eB).X =mC L V j:=fun j hj=>by
  rcases Nat.lt_succ_iff_lt_or_eq.1 hj with h1|rfl
  · rw[←hon j h1,List.getD_eq_getElem?_getD,List.getD_eq_getElem?_getD,List.getElem?_append_left (by omega)]
  · rw[List.getD_eq_getElem?_getD,List.getElem?_append_right (by omega),hol,Nat.sub_self];exact e
theorem AB(a b c:Bool)(d:Nat):a=false∨(a=true∧b=true)∨(a=true∧b=false∧c=false)∨(a=true∧b=false∧c=true∧d<2)∨(a=true∧b=false∧c=true∧¬d<2):=by
  cases a<;>cases b<;>cases c<;>simp<;>omega
theorem yD(b:Bool)(k:Int):(b=false∧k=12)∨(b=false∧k=13)∨(b=false∧(k≠12∧k≠13))∨(b=true∧k=12)∨(b=true∧k=13)∨(b=true∧(k≠12∧k≠13)):=by
  cases b<;>simp<;>omega
theorem yE(b c:Bool)(d:Nat):b=true∨(b=false∧c=false)∨(b=false∧c=true∧d=0)∨(b=false∧c=true∧d≠0):=by
  cases b<;>cases c<;>simp<;>omega
theorem yF(c:Bool)(f:Nat)(e:Int):c=false∨(c=true∧f≠0)∨(c=true∧f=0∧e=0)∨(c=true∧f=0∧e≠0):=by
  cases c<;>simp<;>omega
def sO(o:dJ)(x:Lk)(X:An):Prop:=(ak o.kd).2 =true∧bV x.full 5=0∧X.c =0
instance (o:dJ) (x:Lk) (X:An):Decidable (sO o x X):=by unfold sO;infer_instance
section
variable {S:kE} {o:dJ} {x:Lk} {N:Md} {X:An} {b:Bool}
theorem B7(d:j_ o S x)(h1:(b_ o.kd o.n S.off S.aC).1 =true)(hb:(b_ o.kd o.n S.off S.aC).2 =b):fD S o x=(⟨S.M,true,b⟩,cm 2):=by unfold j_ at d;unfold fD;rw[if_pos d,if_neg (by rw[h1];rintro⟨e,_⟩;cases e),hb]
theorem Dj(d:j_ o S x)(h1:(b_ o.kd o.n S.off S.aC).1 =false)(h2:(ak o.kd).2 =true)(h3:bV x.dark 4=0)(hs:step S.M o.kd o.n o.s o.l =(N,X))(hb:(b_ o.kd o.n S.off S.aC).2 =b):fD S o x=(⟨N,true,b⟩,cm 2):=by unfold j_ at d;unfold fD;rw[if_pos d,if_pos ⟨h1,h2,h3⟩,hb];unfold aG;rw[hs]
theorem yG(d:j_ o S x)(h:¬((ak o.kd).2 =true∧bV x.dark 4=0))(hb:(b_ o.kd o.n S.off S.aC).2 =b):fD S o x=(⟨S.M,true,b⟩,cm 2):=by unfold j_ at d;unfold fD;rw[if_pos d,if_neg (fun e=>h e.2),hb]
theorem AD(d:¬j_ o S x)(h2:(ak o.kd).2 =true)(h3:bV x.full 5=0)(hs:step S.M o.kd o.n o.s o.l =(N,X))(hc:X.c =0):fD S o x=(⟨S.M,(b_ o.kd o.n S.off S.aC).1,(b_ o.kd o.n S.off S.aC).2⟩,cm 3):=by unfold j_ at d;unfold fD;rw[if_neg d,if_pos ⟨h2,h3,by unfold aG;rw[hs];exact hc⟩]
theorem pd(d:¬j_ o S x)(h:¬((ak o.kd).2 =true∧bV x.full 5=0∧X.c =0))(hs:step S.M o.kd o.n o.s o.l =(N,X)):fD S o x=(⟨N,(b_ o.kd o.n S.off S.aC).1,(b_ o.kd o.n S.off S.aC).2⟩,eb o.kd X x):=by unfold j_ at d;unfold fD;rw[if_neg d,if_neg (by unfold aG;rw[hs];exact h)];unfold aG;rw[hs]
end
/-! ### the judge beside it -/
noncomputable def qM(L:List dJ)(V:List Lk):Nat→Jd
  |0=>⟨[M0],false,false,false,false⟩
  |k+1=>(kV (qM L V k) (L.getD k dX) (mC L V k)).1
theorem ly(L:List dJ)(V:List Lk):∀k,Ay (ke L V k) (qM L V k) k
  |0=>Dh
  |k+1=>(qH (L.getD k dX) (V.getD k eM) (ly L V k)).2
theorem Dk(L:List dJ)(V:List Lk)(k:Nat):(kV (qM L V k) (L.getD k dX) (mC L V k)).2 =0:=(qH (L.getD k dX) (V.getD k eM) (ly L V k)).1
theorem AE{L:List dJ}{V:List Lk}{k:Nat}(h:(L.getD k dX).kd =14):(mC L V k).k ≠1:=by
  have hc:ak (L.getD k dX).kd =(false,false):=dY (by omega) (by omega)
  have hs:step (ke L V k).M (L.getD k dX).kd (L.getD k dX).n (L.getD k dX).s (L.getD k dX).l =((ke L V k).M,dy):=cf (by omega)
  unfold mC
  rw[pd (fun e=>by have:=e.1;rw[hc] at this;cases this) (fun e=>by have:=e.1;rw[hc] at this;cases this) hs,sM _ _ (by omega) (by omega)]
  exact(by decide:(0:Int)≠1)
theorem mD(n:Nat):fC (fun _=>0) n=[]:=by
  induction n with
  |zero=>rfl
  |succ n ih=>rw[mo (r:=fun _=>0) rfl,ih]
theorem sP{h:Heap}{L:List dJ}{V:List Lk}{Out:List dM}(hol:Out.length =L.length)(hon:∀j,j<L.length →(Out.getD j eB).X =mC L V j)(hAl:cQ h Out)(ho:∀o∈L,mr h o)(hn:L.length ≤1048576)(k:Nat)(hk:k<L.length):aU h (L.getD k dX) (Out.getD k eB) (qM L V k) (qM L V (k+1)) 0:=by
  have i:=ly L V k
  have e:=hon k hk
  have hm:Out.getD k eB∈Out:=by
    rw[List.getD_eq_getElem?_getD,List.getElem?_eq_getElem (by omega)];exact List.getElem_mem _
  have F2:mr h (L.getD k dX):=jM ho hk
  have:=uD (J:=qM L V k) (o:=L.getD k dX) (x:=Out.getD k eB) F2 (hAl _ hm) i.qd (fun Er=>by rw[e];exact AE Er) (fun g M hM=>by have:=(i.all g M hM).2.2;omega) (fun g=>by have:=i.len g;omega)
  rw[e,Dk] at this
  exact this
end Go.Proofs.YtegkejcglfgpmaaGreatDoor
end
section
namespace Go.Proofs.YtegkejcglfgpmaaGreatDoor
open Go.ChangeShapes Go.WideShapes Go.ChangeAt Go.RowKit
section
variable {H:Type} {enc:TypeId×Value→H}
theorem vY{P:Program}{W:World}{b0:Nat}{rr:Reach}{tl t ti ts tb te tk:TypeId}{v:Value}{d:DataW H}{ps:List MemPlace}(hO:BE P t ti ts tb te tk)(ht:P.underlying tl=some (.slice t))(hval:Value.okWide P W rr b0 tl v)(h:DataW.Trod enc P W 0 (fun _=>true) true tl v d ps):
    ∃(va:Option Addr) (vc:Nat) (L:List dJ),v= .slice va L.length vc∧ai.Row W.heap (.slice va L.length vc) L.length 5 (dZ L)∧(∀o∈L,mr W.heap o∧o.l.length +1≤Rows.uptoBulk d)∧L.length +1≤Rows.uptoBulk d:=by
  obtain⟨a0,l0,c0,rfl⟩:=okWide_slice ht hval
  obtain⟨fuel,h⟩:=h
  obtain⟨va,vc,L,e0,hr,hb,ds,hdl,hdb,hel⟩:=rX dX lr ht hO.2.1 (by decide) (fun o dd=>mr W.heap o∧o.l.length +1≤Rows.uptoBulk dd) (fun n cs' y hy=>by
    obtain⟨o,h1,h2,h3,_,_,h4⟩:=xo hO hy;exact⟨o,h1,⟨⟨h2.1,h4⟩,h2.2⟩,h3⟩) h
  have e:Value.slice a0 l0 c0= .slice va L.length vc:=by simpa[Value.cells] using e0
  cases e
  refine⟨_,_,L,rfl,hr,fun o hm=> ?_,hb⟩
  obtain⟨i,hi,rfl⟩:=List.getElem_of_mem hm
  obtain⟨dd,hd,h1,h2⟩:=hel i hi
  rw[show L.getD i dX=L[i] by simp[List.getD,hi]] at h1 h2
  refine⟨h1, ?_⟩
  have h3:=vo hd
  have h4:Rows.uptoBulkAll ds≤Rows.uptoBulk d:=hdb
  omega
def B8(P:Program)(t ti:TypeId):Prop:=fieldsOf P t=some [(ti,0),(ti,1),(ti,2)]∧P.cellsOf t=3∧P.underlying ti=some (.int .i64)∧P.cellsOf ti=1
theorem yH{P:Program}{W:World}{t ti:TypeId}{fuel:Nat}{cs:List Value}{x:DataW H×List MemPlace}(hO:B8 P t ti)(h:DataW.trod enc P W 0 (fun _=>true) true fuel t cs=some x):∃y:aL.Lk,cs=aL.Cf y∧aL.pb y:=by
  obtain⟨hf,hct,hi,hci⟩:=hO
  obtain⟨xs,n0,hl,hd,hel⟩:=kL hf h
  obtain⟨y0,_,h0⟩:=hel 0 _ rfl
  obtain⟨y1,_,h1⟩:=hel 1 _ rfl
  obtain⟨y2,_,h2⟩:=hel 2 _ rfl
  obtain⟨a,e0,_,ha⟩:=DataW.trod_int hi h0
  obtain⟨b,e1,_,hb⟩:=DataW.trod_int hi h1
  obtain⟨c,e2,_,hc⟩:=DataW.trod_int hi h2
  refine⟨⟨a,b,c⟩, ?_,⟨(gX ha).1,(gX ha).2,(gX hb).1,(gX hb).2,(gX hc).1,(gX hc).2⟩⟩
  rw[hct] at hl
  rw[hci] at e0 e1 e2
  dsimp only at e0 e1 e2
  have c0:=cut cs 0 1
  have c1:=cut cs 1 1
  have c2:=cut cs 2 1
  rw[List.drop_of_length_le (l:=cs) (i:=2+1) (by omega),List.append_nil,e2] at c2
  rw[e1,c2] at c1
  rw[e0,c1,List.drop_zero] at c0
  rw[c0];rfl
end
section
variable {H:Type} {enc:TypeId×Value→H}
theorem yI{P:Program}{W:World}{b0:Nat}{rr:Reach}{t ti:TypeId}{v:Value}{d:DataW H}{ps:List MemPlace}(hO:B8 P t ti)(hval:Value.okWide P W rr b0 t v)(h:DataW.Trod enc P W 0 (fun _=>true) true t v d ps):∃y:aL.Lk,v= .agg (aL.Cf y).toArray ∧aL.pb y:=by
  obtain⟨fs,ht⟩:=vn hO.1
  obtain⟨cs,rfl,hsz⟩:=okWide_struct ht hval
  obtain⟨fuel,h⟩:=h
  obtain⟨y,hy,h1⟩:=yH hO h
  refine⟨y, ?_,h1⟩
  have:cs.toList =aL.Cf y:=hy
  rw[←this]
end
end Go.Proofs.YtegkejcglfgpmaaGreatDoor
end
section
namespace Go.aL
open Go Go.ai
theorem pe{x:Int}{b:Nat}(h1:1≤b)(h2:b≤250):IntKind.i64.wrap (x+(b:Int))≠x:=by
  intro e
  simp only[IntKind.wrap,IntKind.bits,IntKind.signed] at e
  simp at e
  omega
end Go.aL
namespace Go.Proofs.YtegkejcglfgpmaaGreatDoor
open Go Go.ai Go.aL
@[reducible] def J1(M:Md):Jd:=⟨[M],false,false,false,false⟩
@[reducible] def fE(kd:Int):Prop:=kd≠12∧kd≠13∧kd≠14
theorem yJ{M:Md}{f:Md→Md×Int}:bz (J1 M) f=(J1 (f M).1,(f M).2):=by
  by_cases h:(f M).2 =0
  · rw[h];exact A7 (M:=M) (N:=(f M).1) (f:=f) (Prod.ext rfl h)
  · exact uA (M:=M) (N:=(f M).1) (r:=(f M).2) rfl h
theorem qI{M:Md}{o:dJ}(hc:(ak o.kd).1 =false)(hk:fE o.kd):(aG M o).2 =(if o.kd =12∨o.kd =13∨o.kd =10∨o.kd =14 then dy else cm 1)∧(o.kd ≠10→(aG M o).1 =M)∧o.kd ≠11∧o.kd ≠15:=by
  obtain⟨k12,k13,k14⟩:=hk
  have k11:o.kd ≠11:=by intro e;rw[e] at hc;exact absurd hc (by decide)
  have k15:o.kd ≠15:=by intro e;rw[e] at hc;exact absurd hc (by decide)
  unfold aG
  by_cases k10:o.kd =10
  · rw[if_pos (by omega),ep k10];exact⟨rfl,fun e=>absurd k10 e,k11,k15⟩
  have hn:¬(o.kd =1∨o.kd =4∨o.kd =5∨o.kd =6):=fun e=>by rw[bS e] at hc;cases hc
  by_cases ha:o.kd =2∨o.kd =3∨o.kd =7∨o.kd =8∨o.kd =9∨o.kd =11∨o.kd =15∨o.kd =16
  · rw[bO hn ha] at hc;cases hc
  rw[if_neg (by omega),jC (by omega) (by omega) (by omega) (by omega) (by omega) (by omega) k10 (by omega)]
  exact⟨rfl,fun _=>rfl,k11,k15⟩
theorem uE{M:Md}{o:dJ}{X:An}(hk:fE o.kd)(hX:¬((ak o.kd).2 =true∧X.c =3)):kV (J1 M) o X=(J1 (aG M o).1,au (dz o.kd (aG M o).2 X) X):=by
  unfold kV
  rw[if_neg Bool.false_ne_true]
  by_cases hc:(ak o.kd).1 =false
  · obtain ⟨e2, e1, k11, k15⟩ := qI (M := M) hc hk
    rw[if_pos hc,if_neg hk.1,if_neg hk.2.1, ←e2,e_ (by omega)]
    by_cases k10:o.kd =10
    · rw[if_pos k10];rfl
    · rw[if_neg k10,e1 k10]
  · rw [if_neg hc, if_neg Bool.false_ne_true, if_neg (fun e => Bool.false_ne_true e.2), if_neg hX, yJ]
    rfl
theorem sQ{M:Md}{o:dJ}(hk:fE o.kd):fD ⟨M,false,false⟩ o eM=(⟨(aG M o).1,false,false⟩,eb o.kd (aG M o).2 eM):=by
  have hf:b_ o.kd o.n false false=(false,false):=by unfold b_;rw[if_neg fun e=>hk.1 e.1,if_neg hk.2.1]
  have:=pd (S:=⟨M,false,false⟩) (o:=o) (x:=eM) (N:=(aG M o).1) (X:=(aG M o).2) (by
    unfold j_;rw[hf];rintro⟨_,e|⟨e,_⟩⟩<;>cases e) (by rintro⟨_,e,_⟩;exact absurd e (by decide)) rfl
  rw[this,hf]
theorem lz{C:List dJ}(hC:∀o∈C,fE o.kd):∀k,k≤C.length →ke C [] k=⟨run (C.take k) M0,false,false⟩∧qM C [] k=J1 (run (C.take k) M0)
  |0,_=>⟨rfl,rfl⟩
  | k + 1, hk => by
    obtain⟨e1,e2⟩:=lz hC k (by omega)
    have ho:fE (C.getD k dX).kd :=jM (P:=fun o=>fE o.kd) hC (by omega)
    have hr:=qh (M:=M0) (getD_at (L:=C) (i:=k) (by omega))
    have hN:mC C [] k=eb (C.getD k dX).kd (aG (run (C.take k) M0) (C.getD k dX)).2 eM:=by
      show(fD (ke C [] k) (C.getD k dX) eM).2 =_
      rw[e1,sQ ho]
    constructor
    · show (fD (ke C [] k) (C.getD k dX) eM).1 = _
      rw[e1,sQ ho,hr]
    · show (kV (qM C [] k) (C.getD k dX) (mC C [] k)).1 = _
      rw[e2,hr,uE ho (fun e=>by
        have:=e.2;rw[hN,A_] at this;exact(sL (M:=run (C.take k) M0)).2 this)]
theorem yK{C:List dJ}(hC:∀o∈C,fE o.kd){k:Nat}(hk:k<C.length):mC C [] k=eb (C.getD k dX).kd (aG (run (C.take k) M0) (C.getD k dX)).2 eM:=by
  show(fD (ke C [] k) (C.getD k dX) eM).2 =_
  rw[(lz hC k (by omega)).1,sQ (jM (P:=fun o=>fE o.kd) hC hk)]
/-! ### an answer one part of which is turned -/
def sZ:ByteArray:=⟨#[122]⟩
def vZ(y:RB)(q:Nat):RB:={y with root:=fun i=>if i=q then y.root i+1 else y.root i}
def qN(kd:Int)(p b:Nat)(X:An):An×Int:=
  if p=0 then ({X with c:=IntKind.i64.wrap (X.c +(b:Int))},if IntKind.i64.wrap (X.c +(b:Int))=2∨((ak kd).2 =true∧IntKind.i64.wrap (X.c +(b:Int))=3) then 0 else 1)
  else if p=1 then ({X with b:=X.b ++[UInt8.ofNat b]},2)
  else if p=2 then ({X with se:=IntKind.i64.wrap (X.se +(b:Int))},3)
  else if p=3 then ({X with i:=X.i ++[sZ]},4)
  else if p=4 then ({X with y:=vZ X.y (b%32)},5)
  else if p=5 then if kd=11∨kd=15 then (X,0) else ({X with k:=IntKind.i64.wrap (X.k +(b:Int))},6)
  else ({X with p:=X.p ++[UInt8.ofNat b::List.replicate 31 0]},6)
theorem B9(kd:Int)(W X:An):(dz kd W X).c =W.c ∧(dz kd W X).b =W.b ∧(dz kd W X).sx =W.sx ∧(dz kd W X).se =W.se ∧(dz kd W X).sh =W.sh ∧(dz kd W X).sg =W.sg ∧(dz kd W X).i =W.i ∧(dz kd W X).n =W.n ∧(dz kd W X).y =W.y ∧(dz kd W X).p =W.p :=by
  unfold dz;split<;>exact⟨rfl,rfl,rfl,rfl,rfl,rfl,rfl,rfl,rfl,rfl⟩
theorem Dl(kd:Int)(W:An)(x:Lk):(eb kd W x).c =W.c ∧(eb kd W x).b =W.b ∧(eb kd W x).sx =W.sx ∧(eb kd W x).se =W.se ∧(eb kd W x).sh =W.sh ∧(eb kd W x).sg =W.sg ∧(eb kd W x).i =W.i ∧(eb kd W x).n =W.n ∧(eb kd W x).y =W.y ∧(eb kd W x).p =W.p :=by
  unfold eb;split
  · exact⟨rfl,rfl,rfl,rfl,rfl,rfl,rfl,rfl,rfl,rfl⟩
  split<;>exact⟨rfl,rfl,rfl,rfl,rfl,rfl,rfl,rfl,rfl,rfl⟩
theorem pf{α:Type}(l:List α)(x:α):l≠l++[x]:=fun e=>by
  have:=congrArg List.length e
  rw[List.length_append] at this
  simp at this
theorem B_(y:RB){q:Nat}(hq:q<32):hl y≠hl (vZ y q):=fun e=>by
  have:=uC e q hq
  have h2:(vZ y q).root q=y.root q+1:=if_pos rfl
  rw[h2] at this
  have h3:=congrArg UInt8.toNat this
  rw[UInt8.toNat_add] at h3
  have h4:(1:UInt8).toNat =1:=rfl
  rw[h4] at h3
  omega
theorem AG{M:Md}{o:dJ}{X':An}{r:Int}{p b:Nat}(h1:1≤b)(h2:b≤250)(e:qN o.kd p b (eb o.kd (aG M o).2 eM)=(X',r))(hr:r≠0):¬((ak o.kd).2 =true∧X'.c =3)∧au (dz o.kd (aG M o).2 X') X'=r:=by
  obtain⟨a1,a2,a3,a4,a5,a6,a7,a8,a9,a10⟩:=Dl o.kd (aG M o).2 eM
  have hc:(aG M o).2.c ≠2∧(aG M o).2.c ≠3:=sL
  have g:=B9 o.kd (aG M o).2
  unfold qN at e
  split at e
  · cases e
    obtain⟨g1,_⟩:=g {eb o.kd (aG M o).2 eM with c:=IntKind.i64.wrap ((eb o.kd (aG M o).2 eM).c +(b:Int))}
    split at hr
    · exact absurd rfl hr
    rename_i hno
    rw[if_neg hno]
    refine⟨fun k=>hno (.inr k),xh ?_⟩
    rw[g1]
    show(aG M o).2.c ≠IntKind.i64.wrap ((eb o.kd (aG M o).2 eM).c +(b:Int))
    rw[a1];exact fun k=>pe h1 h2 k.symm
  split at e
  · cases e
    obtain⟨g1,g2,_⟩:=g {eb o.kd (aG M o).2 eM with b:=(eb o.kd (aG M o).2 eM).b ++[UInt8.ofNat b]}
    refine⟨fun k=>hc.2 (a1.symm.trans k.2),rule2 (g1.trans a1.symm) ?_⟩
    rw[g2]
    show(aG M o).2.b ≠(eb o.kd (aG M o).2 eM).b ++[UInt8.ofNat b]
    rw[a2];exact pf _ _
  split at e
  · cases e
    obtain⟨g1,g2,g3,g4,g5,g6,_⟩:=g {eb o.kd (aG M o).2 eM with se:=IntKind.i64.wrap ((eb o.kd (aG M o).2 eM).se +(b:Int))}
    refine⟨fun k=>hc.2 (a1.symm.trans k.2),AZ (g1.trans a1.symm) (g2.trans a2.symm) ?_⟩
    rw[g3,g4,g5,g6]
    show fJ (aG M o).2.sx (aG M o).2.se (aG M o).2.sh (aG M o).2.sg (eb o.kd (aG M o).2 eM).sx (IntKind.i64.wrap ((eb o.kd (aG M o).2 eM).se +(b:Int))) (eb o.kd (aG M o).2 eM).sh (eb o.kd (aG M o).2 eM).sg =false
    rw[a3,a4,a5,a6]
    have hne:((aG M o).2.se ==IntKind.i64.wrap ((aG M o).2.se +(b:Int)))=false:=beq_eq_false_iff_ne.2 fun k=>pe h1 h2 k.symm
    unfold fJ
    simp[hne]
  split at e
  · cases e
    obtain⟨g1,g2,g3,g4,g5,g6,g7,_⟩:=g {eb o.kd (aG M o).2 eM with i:=(eb o.kd (aG M o).2 eM).i ++[sZ]}
    refine⟨fun k=>hc.2 (a1.symm.trans k.2),A1 (g1.trans a1.symm) (g2.trans a2.symm) ?_ ?_⟩
    · rw[g3,g4,g5,g6, ←a3, ←a4, ←a5, ←a6];exact dR ..
    · rw [g7]
      show(aG M o).2.i ≠(eb o.kd (aG M o).2 eM).i ++[sZ]
      rw[a7];exact pf _ _
  split at e
  · cases e
    obtain⟨g1,g2,g3,g4,g5,g6,g7,g8,g9,_⟩:=g {eb o.kd (aG M o).2 eM with y:=vZ (eb o.kd (aG M o).2 eM).y (b%32)}
    refine⟨fun k=>hc.2 (a1.symm.trans k.2),A2 (g1.trans a1.symm) (g2.trans a2.symm) ?_ (g7.trans a7.symm) ?_⟩
    · rw[g3,g4,g5,g6, ←a3, ←a4, ←a5, ←a6];exact dR ..
    · rw [g8, g9]
      show kT (aG M o).2.n (aG M o).2.y (eb o.kd (aG M o).2 eM).n (vZ (eb o.kd (aG M o).2 eM).y (b%32))=false
      rw[a8,a9]
      have hne:decide (hl (aG M o).2.y =hl (vZ (aG M o).2.y (b%32)))=false:=decide_eq_false (B_ _ (Nat.mod_lt _ (by decide)))
      unfold kT
      simp only[hne,List.all_cons,List.all_nil,id,Bool.false_and,Bool.and_false]
  split at e
  · split at e
    · cases e;exact absurd rfl hr
    rename_i hk
    cases e
    rw[sM _ _ (fun k=>hk (.inl k)) (fun k=>hk (.inr k))]
    refine⟨fun k=>hc.2 k.2, ?_⟩
    rw[e_ (by omega)]
    exact ub rfl rfl (dR ..) rfl (ff ..) (.inl fun k=>pe h1 h2 k.symm)
  · cases e
    obtain⟨g1,g2,g3,g4,g5,g6,g7,g8,g9,g10⟩:=g {eb o.kd (aG M o).2 eM with p:=(eb o.kd (aG M o).2 eM).p ++[UInt8.ofNat b::List.replicate 31 0]}
    refine⟨fun k=>hc.2 (a1.symm.trans k.2),ub (g1.trans a1.symm) (g2.trans a2.symm) ?_ (g7.trans a7.symm) ?_ (.inr ?_)⟩
    · rw[g3,g4,g5,g6, ←a3, ←a4, ←a5, ←a6];exact dR ..
    · rw[g8,g9, ←a8, ←a9];exact ff ..
    · rw [g10]
      show(aG M o).2.p ≠(eb o.kd (aG M o).2 eM).p ++[UInt8.ofNat b::List.replicate 31 0]
      rw[a10];exact pf _ _
theorem AH(b:Bool)(c:Int):c=2∨(c≠2∧b=false)∨(c≠2∧b=true∧c=3)∨(c≠2∧b=true∧c≠3):=by
  cases b<;>simp<;>omega
theorem Ca(x:UInt8):Value.int .u8 (IntKind.u8.wrap ((x.toNat :Int)+1))=bv (x+1):=by
  have h1:((x.toNat :Int)+1)=((x.toNat +1:Nat):Int):=by omega
  rw[h1,bn]
  congr 1
theorem Dm{c:Int}{b:Value}{x:RB}{e:Int}{ho go:Bool}{i:Value}{n:Int}{y:RB}{k:Int}{p:Value}{q:Nat}(hq:q<32):((bb c b x e ho go i n y k p).toArray)[41+q]? =some (bv (y.root q)):=by
  rcases q with _|_|_|_|_|_|_|_|_|_|_|_|_|_|_|_|_|_|_|_|_|_|_|_|_|_|_|_|_|_|_|_|q<;>first|rfl|omega
theorem Cb{c:Int}{b:Value}{x:RB}{e:Int}{ho go:Bool}{i:Value}{n:Int}{y:RB}{k:Int}{p:Value}{q:Nat}(hq:q<32):splice (bb c b x e ho go i n y k p) (41+q) [bv (y.root q+1)]=bb c b x e ho go i n (vZ y q) k p:=by
  rcases q with _|_|_|_|_|_|_|_|_|_|_|_|_|_|_|_|_|_|_|_|_|_|_|_|_|_|_|_|_|_|_|_|q<;>first|rfl|omega
theorem je.kW{h h':Heap}{x:dM}(a:je h x)(g:Ext h h'):je h' x:=⟨a.1.ext g,a.2.1.ext g,a.2.2.1.ext g,a.2.2.2⟩
theorem sR{l:List Hs}{x:Hs}(a:aq l)(h:x.length =32):aq (l++[x]):=a.append (aq.one h)
/-! ### the operations without fuses, boots, rot -/
def cal(L:List dJ):List dJ:=L.filter fun o=>decide (fE o.kd)
section
variable {L:List dJ} {k:Nat} {x:dJ}
theorem qJ(hx:L.getD k dX=x)(hk:k<L.length):cal (L.take (k+1))=cal (L.take k)++cal [x]:=by
  unfold cal
  rw[List.take_add_one,getD_at hk,hx,List.filter_append];rfl
theorem AI(hx:L.getD k dX=x)(hk:k<L.length)(h:fE x.kd):cal (L.take (k+1))=cal (L.take k)++[x]:=by
  rw[qJ hx hk,show cal [x]=[x] from by unfold cal;rw[List.filter_cons,if_pos (decide_eq_true h)];rfl]
theorem sS(hx:L.getD k dX=x)(hk:k<L.length)(h:¬fE x.kd):cal (L.take (k+1))=cal (L.take k):=by
  rw[qJ hx hk,show cal [x]=[] from by unfold cal;rw[List.filter_cons,if_neg (fun e=>h (of_decide_eq_true e))];rfl,List.append_nil]
theorem yP{o:dJ}(h:o∈cal (L.take k)):o∈L∧fE o.kd :=by
  have:=List.mem_filter.1 h
  exact⟨List.mem_of_mem_take this.1,of_decide_eq_true this.2⟩
theorem yQ(L:List dJ)(k:Nat):(cal (L.take k)).length ≤k:=Nat.le_trans (List.length_filter_le _ _) (by rw[List.length_take];omega)
end
theorem fa{h:Heap}{a:Addr}{L:List dJ}{n c k:Nat}{x:dJ}(hx:L.getD k dX=x)(r:Row h (.slice (some a) n c) L.length 5 (dZ L))(hk:k<L.length):hcell h (a.add (k*5))=some (.int .i64 x.kd):=by
  subst hx;exact r.cells (k*5) _ (oH lr (d:=dX) (j:=0) hk rfl)
theorem uG{P:Program}{h:Heap}{a:Addr}{L:List dM}{n m c k q:Nat}{x:dM}(hx:L.getD k eB=x)(r:Row h (.slice (some a) n c) m 75 (bI L)){T:TypeId}(ht:cM P T=some (true,75))(hk:k<L.length)(hq:q=k*75):Loads P h T (a.add q) (.agg (mq x).toArray):=by
  subst hx;exact Row.fm (d:=eB) jU r ht hk hq
theorem yS{L:List dM}{k:Nat}{x:dM}(hx:L.getD k eB=x)(hk:k<L.length):x∈L:=by
  rw[←hx,List.getD_eq_getElem?_getD,List.getElem?_eq_getElem hk];exact List.getElem_mem hk
theorem v7(L:List dJ):∀u∈dZ L,u.oneCell' =true:=im (fun r=>List.all_eq_true.1 (show(Ce r).all _=true by rfl)) L
theorem qK{r:Nat→Int}:∀n,(∀j,j<n→r j=0)→fC r n=[]
  |0,_=>rfl
  |n+1,h=>by rw[mo (h n (by omega))];exact qK n fun j hj=>h j (by omega)
theorem uH{r:Nat→Int}{q:Nat}(hr:r q≠0):∀n,q<n→(∀j,j<n→j≠q→r j=0)→fC r n=[((q:Int),r q)]
  |0,hq,_=>by omega
  | n + 1, hq, h => by
    by_cases e:q=n
    · subst e;rw[oW hr,qK q fun j hj=>h j (by omega) (by omega)];rfl
    · rw[mo (h n (by omega) (by omega))];exact uH hr n (by omega) fun j hj=>h j (by omega)
theorem yU{q n:Nat}{r:Int}(hq:q<n)(hr:r≠0):fC (fun k=>if k=q then r else 0) n=[((q:Int),r)]:=by
  have:=uH (r:=fun k=>if k=q then r else 0) (q:=q) (by rw[if_pos rfl];exact hr) n hq (fun j _ hj=>if_neg hj)
  rw[this,if_pos rfl]
theorem yV{h:Heap}{C:List dJ}{Out:List dM}{q p b:Nat}{x':dM}{r:Int}(hC:∀o∈C,fE o.kd)(hol:Out.length =C.length)(hon:∀j,j<C.length →(Out.getD j eB).X =mC C [] j)(hAl:cQ h Out)(ho:∀o∈C,mr h o)(hn:C.length ≤1048576)(hx:je h x')(hq:q<C.length)(h1:1≤b)(h2:b≤250)(e:qN (C.getD q dX).kd p b (Out.getD q eB).X =(x'.X,r))(hr:r≠0)(k:Nat)(hk:k<C.length):
    aU h (C.getD k dX) ((Out.set q x').getD k eB) (qM C [] k) (qM C [] (k+1)) (if k=q then r else 0):=by
  by_cases ek:k=q
  · subst ek
    rw[if_pos rfl,show(Out.set k x').getD k eB=x' by rw[List.getD_eq_getElem?_getD,List.getElem?_set_self (by omega)];rfl]
    have i:=ly C [] k
    have hc:=hC _ (List.mem_of_getElem? (getD_at (L:=C) hk))
    have e1:=(lz hC k (by omega)).2
    have e2:=(lz hC (k+1) (by omega)).2
    rw[hon k hk,yK hC hk] at e
    obtain⟨g1,g2⟩:=AG h1 h2 e hr
    have:=uD (J:=qM C [] k) (o:=C.getD k dX) (x:=x') (jM ho hk) hx i.qd (fun Er=>absurd Er hc.2.2) (fun g M hM=>by have:=(i.all g M hM).2.2;omega) (fun g=>by have:=i.len g;omega)
    rw[e1,uE hc g1,g2] at this
    rw[e1,e2,qh (M:=M0) (getD_at (L:=C) hk)]
    exact this
  · rw [if_neg ek, show (Out.set q x').getD k eB = Out.getD k eB by rw [List.getD_eq_getElem?_getD, List.getElem?_set_ne (fun k' => ek k'.symm)]; rfl]
    exact sP hol hon hAl ho hn k hk
end Go.Proofs.YtegkejcglfgpmaaGreatDoor
end
section
namespace Go.ai
open Go
section
variable {P:Program} {ops:Array Oper} {base:Nat→Value} {vals:aQ} {i:Nat}
/-! a remainder by a number that is told elsewhere -/
def EY (e : Operand → Value) (o : Oper) : Option (IntKind × IntKind × Int × Int) :=
  match o.op with
  | .binOp .rem _ x y _ => match e x, e y with
    | .int k a, .int k' b=>some (k,k',a,b)
    |_,_=>none
  |_=>none
def Es(ops:Array Oper)(base:Nat→Value)(vals:aQ)(i:Nat):=(i_ ops base vals i).bind (EY (env ops base vals i))
theorem Calm.rem{k:IntKind}{x y r:Int}(hx:Es ops base vals i=some (k,k,x,y))(hy:y≠0)(hr:x.tmod y=r)(h:Heap):Calm P ops base vals i h (.int k r):=by
  subst hr
  refine aO hx fun o ho w hw=> ?_
  have hr:(execOp (env ops base vals i) o).run P w= .ok (.value (.int k (x.tmod y))) w:=by
    unfold EY at ho
    cases hop:o.op with
    | binOp op T a b T' =>
      cases op<;>simp only[hop] at ho<;>first| (cases ho;done)|skip
      cases ha:env ops base vals i a<;>cases hb:env ops base vals i b<;>simp only[ha,hb] at ho<;>first| (cases ho;done)|skip
      simp only[Option.some.injEq,Prod.mk.injEq] at ho
      obtain⟨rfl,rfl,rfl,rfl⟩:=ho
      unfold execOp
      simp[hop,eqGuard,binOp,ha,hb,Op.intDiv,hy]
    |_=>simp[hop] at ho
  rw[hr]
  exact⟨Same.refl w,rfl,hw⟩
end
end Go.ai
end
section
namespace Go.Proofs.YtegkejcglfgpmaaGreatDoor
open Go Go.ai Go.aL
theorem AJ(h:Heap)(c:Int)(h1: -9223372036854775808≤c)(h2:c≤9223372036854775807):Sat Tryz.prog 12 #[.int .i64 c,.int .i64 4] h fun v h'=>v= .int .i64 ((bV c 4:Nat):Int)∧h'=h:=by
 refine ag Tryz.func12 13 fun a b=>qP [] b fun a b=>cS<|qP [(6,.bool (decide (c<(0:Int))))] b fun a b=>cJ 6 b (fun d=> ?_) fun d=> ?_
 ·have e:=jX 4 d
  refine rS b<|t1 1 (.int .i64 (c+1)) (.int .i64 (IntKind.i64.wrap (c+1))) (congrArg (Value.int .i64) (kg (by omega) (by omega)))<|t1 2 (.int .i64 (-(c+1))) (.int .i64 (IntKind.i64.wrap (0 - (c+1)))) (congrArg (Value.int .i64) ((kg (by omega) (by omega)).trans (by omega)))<|sE [(0,.int .i64 (-(c+1)))] fun a b=>tK<|qS b<|t1 2 (.int .i64 (((bV c 4):Nat):Int)) (.int .i64 (Int.tmod ((-(c+1))) 4)) (congrArg (Value.int .i64) ((congrArg (fun x=>Int.tmod x 4) (show((-(c+1)):Int)=((((-(c+1)):Int).toNat :Nat):Int) by omega)).trans ((fj _ 4).trans (by rw[e])))) ?_
  exact sT [(4,nV (bV c 4))] fun a b=>cR<|rT 4 (nV (bV c 4)) b<|⟨rfl,rfl⟩
 ·have e:=jY 4 d
  refine cN<|tK<|qS b<|t1 2 (.int .i64 (((bV c 4):Nat):Int)) (.int .i64 (Int.tmod (c) 4)) (congrArg (Value.int .i64) ((congrArg (fun x=>Int.tmod x 4) (show(c:Int)=(((c:Int).toNat :Nat):Int) by omega)).trans ((fj _ 4).trans (by rw[e]))))<|sT [(4,nV (bV c 4))] fun a b=>cR<|rT 4 (nV (bV c 4)) b ?_
  exact⟨rfl,rfl⟩
theorem lA(h:Heap)(c:Int)(h1: -9223372036854775808≤c)(h2:c≤9223372036854775807):Sat Tryz.prog 12 #[.int .i64 c,.int .i64 5] h fun v h'=>v= .int .i64 ((bV c 5:Nat):Int)∧h'=h:=by
 refine ag Tryz.func12 13 fun a b=>qP [] b fun a b=>cS<|qP [(6,.bool (decide (c<(0:Int))))] b fun a b=>cJ 6 b (fun d=> ?_) fun d=> ?_
 ·have e:=jX 5 d
  refine rS b<|t1 1 (.int .i64 (c+1)) (.int .i64 (IntKind.i64.wrap (c+1))) (congrArg (Value.int .i64) (kg (by omega) (by omega)))<|t1 2 (.int .i64 (-(c+1))) (.int .i64 (IntKind.i64.wrap (0 - (c+1)))) (congrArg (Value.int .i64) ((kg (by omega) (by omega)).trans (by omega)))<|sE [(0,.int .i64 (-(c+1)))] fun a b=>tK<|qS b<|t1 2 (.int .i64 (((bV c 5):Nat):Int)) (.int .i64 (Int.tmod ((-(c+1))) 5)) (congrArg (Value.int .i64) ((congrArg (fun x=>Int.tmod x 5) (show((-(c+1)):Int)=((((-(c+1)):Int).toNat :Nat):Int) by omega)).trans ((fj _ 5).trans (by rw[e])))) ?_
  exact sT [(4,nV (bV c 5))] fun a b=>cR<|rT 4 (nV (bV c 5)) b<|⟨rfl,rfl⟩
 ·have e:=jY 5 d
  refine cN<|tK<|qS b<|t1 2 (.int .i64 (((bV c 5):Nat):Int)) (.int .i64 (Int.tmod (c) 5)) (congrArg (Value.int .i64) ((congrArg (fun x=>Int.tmod x 5) (show(c:Int)=(((c:Int).toNat :Nat):Int) by omega)).trans ((fj _ 5).trans (by rw[e]))))<|sT [(4,nV (bV c 5))] fun a b=>cR<|rT 4 (nV (bV c 5)) b ?_
  exact⟨rfl,rfl⟩
theorem uI(h:Heap)(c:Int)(h1: -9223372036854775808≤c)(h2:c≤9223372036854775807):Sat Tryz.prog 12 #[.int .i64 c,.int .i64 7] h fun v h'=>v= .int .i64 ((bV c 7:Nat):Int)∧h'=h:=by
 refine ag Tryz.func12 13 fun a b=>qP [] b fun a b=>cS<|qP [(6,.bool (decide (c<(0:Int))))] b fun a b=>cJ 6 b (fun d=> ?_) fun d=> ?_
 ·have e:=jX 7 d
  refine rS b<|t1 1 (.int .i64 (c+1)) (.int .i64 (IntKind.i64.wrap (c+1))) (congrArg (Value.int .i64) (kg (by omega) (by omega)))<|t1 2 (.int .i64 (-(c+1))) (.int .i64 (IntKind.i64.wrap (0 - (c+1)))) (congrArg (Value.int .i64) ((kg (by omega) (by omega)).trans (by omega)))<|sE [(0,.int .i64 (-(c+1)))] fun a b=>tK<|qS b<|t1 2 (.int .i64 (((bV c 7):Nat):Int)) (.int .i64 (Int.tmod ((-(c+1))) 7)) (congrArg (Value.int .i64) ((congrArg (fun x=>Int.tmod x 7) (show((-(c+1)):Int)=((((-(c+1)):Int).toNat :Nat):Int) by omega)).trans ((fj _ 7).trans (by rw[e])))) ?_
  exact sT [(4,nV (bV c 7))] fun a b=>cR<|rT 4 (nV (bV c 7)) b<|⟨rfl,rfl⟩
 ·have e:=jY 7 d
  refine cN<|tK<|qS b<|t1 2 (.int .i64 (((bV c 7):Nat):Int)) (.int .i64 (Int.tmod (c) 7)) (congrArg (Value.int .i64) ((congrArg (fun x=>Int.tmod x 7) (show(c:Int)=(((c:Int).toNat :Nat):Int) by omega)).trans ((fj _ 7).trans (by rw[e]))))<|sT [(4,nV (bV c 7))] fun a b=>cR<|rT 4 (nV (bV c 7)) b ?_
  exact⟨rfl,rfl⟩
theorem v8(h:Heap)(c:Int)(h1: -9223372036854775808≤c)(h2:c≤9223372036854775807):Sat Tryz.prog 12 #[.int .i64 c,.int .i64 250] h fun v h'=>v= .int .i64 ((bV c 250:Nat):Int)∧h'=h:=by
 refine ag Tryz.func12 13 fun a b=>qP [] b fun a b=>cS<|qP [(6,.bool (decide (c<(0:Int))))] b fun a b=>cJ 6 b (fun d=> ?_) fun d=> ?_
 ·have e:=jX 250 d
  refine rS b<|t1 1 (.int .i64 (c+1)) (.int .i64 (IntKind.i64.wrap (c+1))) (congrArg (Value.int .i64) (kg (by omega) (by omega)))<|t1 2 (.int .i64 (-(c+1))) (.int .i64 (IntKind.i64.wrap (0 - (c+1)))) (congrArg (Value.int .i64) ((kg (by omega) (by omega)).trans (by omega)))<|sE [(0,.int .i64 (-(c+1)))] fun a b=>tK<|qS b<|t1 2 (.int .i64 (((bV c 250):Nat):Int)) (.int .i64 (Int.tmod ((-(c+1))) 250)) (congrArg (Value.int .i64) ((congrArg (fun x=>Int.tmod x 250) (show((-(c+1)):Int)=((((-(c+1)):Int).toNat :Nat):Int) by omega)).trans ((fj _ 250).trans (by rw[e])))) ?_
  exact sT [(4,nV (bV c 250))] fun a b=>cR<|rT 4 (nV (bV c 250)) b<|⟨rfl,rfl⟩
 ·have e:=jY 250 d
  refine cN<|tK<|qS b<|t1 2 (.int .i64 (((bV c 250):Nat):Int)) (.int .i64 (Int.tmod (c) 250)) (congrArg (Value.int .i64) ((congrArg (fun x=>Int.tmod x 250) (show(c:Int)=(((c:Int).toNat :Nat):Int) by omega)).trans ((fj _ 250).trans (by rw[e]))))<|sT [(4,nV (bV c 250))] fun a b=>cR<|rT 4 (nV (bV c 250)) b ?_
  exact⟨rfl,rfl⟩
noncomputable def b13:Code:=Tryz.f13.body.getD .skip
set_option maxHeartbeats 1000000 in
theorem mG(h:Heap)(x:dJ)(X:An)(qa:Option Addr)(qc:Nat)(ia:Option Addr)(ic:Nat)(pa:Option Addr)(pc:Nat)(sU:je h ⟨X,qa,qc,ia,ic,pa,pc⟩)(F4:y5 X)(u pt db:Int)(p b0:Nat)(hp:bV pt 7=p)(hb0:bV db 250=b0)(hq1: -9223372036854775808≤pt)(hq2:pt≤9223372036854775807)(hy1: -9223372036854775808≤db)(hy2:db≤9223372036854775807)(kt:bq h):Sat Tryz.prog 13 #[.agg #[.int .i64 x.kd,.string x.s,.slice x.oa x.l.length x.oc,.int .i64 x.n,.slice x.ka x.kn x.kc],.agg (bb X.c (.slice qa X.b.length qc) X.sx X.se X.sh X.sg (.slice ia X.i.length ic) X.n X.y X.k (.slice pa X.p.length pc)).toArray,.agg #[.int .i64 u,.int .i64 pt,.int .i64 db]] h fun v h'=>∃x' r,v= .tuple #[.agg (mq x').toArray,.int .i64 r]∧qN x.kd p (b0+1) X=(x'.X,r)∧je h' x'∧Ext h h':=by
 have o:=Ext.refl h
 have a8:=kt.lt
 have d:Sep h.size h.size []:=Sep.nil _ _
 have j5:b0<250:=hb0▸Nat.mod_lt _ (by decide)
 have f7:Row h (.slice qa X.b.length qc) X.b.length 1 (X.b.map bv):=sU.1.1
 have f8:Row h (.slice ia X.i.length ic) X.i.length 1 (X.i.map Value.string):=sU.2.1.1
 have f9:Row h (.slice pa X.p.length pc) X.p.length 32 (hcs X.p):=sU.2.2.1.1
 obtain⟨i5,i6,i7⟩:=F4
 obtain⟨c,a2⟩:∃c,IntKind.i64.wrap (X.c +((b0+1:Nat):Int))=c:=⟨_,rfl⟩
 refine ag Tryz.func13 130 fun a m=>qS m<|tN 0 (pV h.size) #[.int .i64 x.kd,.string x.s,.slice x.oa x.l.length x.oc,.int .i64 x.n,.slice x.ka x.kn x.kc] 35 fun V g2 D=> ?_
 replace d:=d.nw o.size D
 refine tN 1 (pV V.size) ((bb X.c (.slice qa X.b.length qc) X.sx X.se X.sh X.sg (.slice ia X.i.length ic) X.n X.y X.k (.slice pa X.p.length pc)).toArray) 47 fun h6 g7 q=> ?_
 replace o:=o.ext g2
 replace d:=d.nw o.size q
 refine tN 2 (pV h6.size) #[.int .i64 u,.int .i64 pt,.int .i64 db] 31 fun a1 z a3=> ?_
 replace o:=o.ext g7
 replace d:=d.nw o.size a3
 refine tN 3 (pV a1.size) ((bY 0).toArray) 47 fun N w j=> ?_
 replace o:=o.ext z
 replace d:=d.nw o.size j
 refine sT [(3,pV h.size),(4,pV V.size),(5,pV h6.size),(6,pV a1.size)] fun a m=>qS m ?_
 replace a3:=a3.x w
 refine tO 1 2 a3<|tC 2 (nV b0) (Does.call (f:=12) (args:= #[.int .i64 db,.int .i64 250]) (by kernel_rfl) ((v8 _ db hy1 hy2).mono fun v h' e=>⟨by rw[e.1,hb0],e.2⟩))<|tA 3 b0 1<|sT [(8,nV (b0+1))] fun a m=>cS<|qS m<|tO 1 1 a3 ?_
 refine tC 2 (nV p) (Does.call (f:=12) (args:= #[.int .i64 pt,.int .i64 7]) (by kernel_rfl) ((uI _ pt hq1 hq2).mono fun v h' e=>⟨by rw[e.1,hp],e.2⟩))<|sT [(16,nV p)] fun a m=>cB 0<|qP [(17,.bool (decide (((p:Nat):Int)=(0:Int))))] m fun a m=>cJ 17 m (fun d8=> ?_) fun d8=> ?_
 ·refine qS m ?_
  replace q:=(q.x z).x w
  refine tO 1 0 q<|t1 3 (.int .i64 c) (.int .i64 (IntKind.i64.wrap (X.c +(((b0+1):Nat):Int)))) (congrArg (Value.int .i64) a2)<|tV 5 0 [.int .i64 c] (bb c (.slice qa X.b.length qc) X.sx X.se X.sh X.sg (.slice ia X.i.length ic) X.n X.y X.k (.slice pa X.p.length pc)) q fun g0 I B=> ?_
  replace q:=B
  refine sT [] fun a m=>cS<|C.mono (K:=fun e a hJ=>e= .normal ∧g0=hJ∧∃(un:Unit),True∧Fr a 130 [(4,.pointer (some ⟨V.size,0,none⟩)),(6,.pointer (some ⟨a1.size,0,none⟩)),(9,.bool ((ak x.kd).2))]) ?_ ?_
  ·rcases(by omega:x.kd =1∨x.kd =4∨x.kd =5∨x.kd =6∨¬(x.kd =1∨x.kd =4∨x.kd =5∨x.kd =6)) with O|O|O|O|O
   ·have P:(ak x.kd).2 =true:=by rw[bS (by omega)]
    refine rS m ?_
    replace D:=(((D.x g7).x z).x w).y I (d.bp 3 2)
    exact tO 1 0 D<|eT 2 x.kd 1<|t1 18 (.bool ((ak x.kd).2)) (.bool true) (congrArg Value.bool P.symm)<|sE [(9,.bool ((ak x.kd).2))] fun a m=>⟨rfl,rfl,⟨⟩,trivial,m.to⟩
   ·have P:(ak x.kd).2 =true:=by rw[bS (by omega)]
    refine rS m ?_
    replace D:=(((D.x g7).x z).x w).y I (d.bp 3 2)
    exact tO 1 0 D<|eF 2 x.kd 1<|tO 5 0 D<|eT 6 x.kd 4<|t1 18 (.bool ((ak x.kd).2)) (.bool true) (congrArg Value.bool P.symm)<|sE [(9,.bool ((ak x.kd).2))] fun a m=>⟨rfl,rfl,⟨⟩,trivial,m.to⟩
   ·have P:(ak x.kd).2 =true:=by rw[bS (by omega)]
    refine rS m ?_
    replace D:=(((D.x g7).x z).x w).y I (d.bp 3 2)
    refine tO 1 0 D<|eF 2 x.kd 1<|tO 5 0 D<|eF 6 x.kd 4<|tO 10 0 D<|eT 11 x.kd 5<|t1 18 (.bool ((ak x.kd).2)) (.bool true) (congrArg Value.bool P.symm) ?_
    exact sE [(9,.bool ((ak x.kd).2))] fun a m=>⟨rfl,rfl,⟨⟩,trivial,m.to⟩
   ·have P:(ak x.kd).2 =true:=by rw[bS (by omega)]
    refine rS m ?_
    replace D:=(((D.x g7).x z).x w).y I (d.bp 3 2)
    refine tO 1 0 D<|eF 2 x.kd 1<|tO 5 0 D<|eF 6 x.kd 4<|tO 10 0 D<|eF 11 x.kd 5<|tO 15 0 D ?_
    exact eT 16 x.kd 6<|t1 18 (.bool ((ak x.kd).2)) (.bool true) (congrArg Value.bool P.symm)<|sE [(9,.bool ((ak x.kd).2))] fun a m=>⟨rfl,rfl,⟨⟩,trivial,m.to⟩
   ·have P:(ak x.kd).2 =false:=by exact(if hq:x.kd =2∨x.kd =3∨x.kd =7∨x.kd =8∨x.kd =9∨x.kd =11∨x.kd =15∨x.kd =16 then (by rw[bO O hq]) else (by rw[dY O hq]))
    refine rS m ?_
    replace D:=(((D.x g7).x z).x w).y I (d.bp 3 2)
    refine tO 1 0 D<|eF 2 x.kd 1<|tO 5 0 D<|eF 6 x.kd 4<|tO 10 0 D<|eF 11 x.kd 5<|tO 15 0 D ?_
    exact eF 16 x.kd 6<|t1 18 (.bool ((ak x.kd).2)) (.bool false) (congrArg Value.bool P.symm)<|sE [(9,.bool ((ak x.kd).2))] fun a m=>⟨rfl,rfl,⟨⟩,trivial,m.to⟩
  ·rintro e a _ ⟨rfl,rfl,⟨⟩,j6,m⟩
   refine tK<|cS<|cS ?_
   rcases AH (ak x.kd).2 c with V|⟨V,h2⟩|⟨V,h2,h3⟩|⟨V,h2,h3⟩
   ·refine rS m<|tO 1 0 q<|eT 2 c 2<|sE [(52,.bool true)] fun a m=>tK<|cT 52 m<|qS m ?_
    refine tR 0 q ?_
    replace j:=j.y I (d.bp 0 2)
    refine bt 1 (bb c (.slice qa X.b.length qc) X.sx X.se X.sh X.sg (.slice ia X.i.length ic) X.n X.y X.k (.slice pa X.p.length pc)) j fun j7 g1 B=> ?_
    replace j:=B
    refine sT [(7,.int .i64 0)] fun a m=>cR (yT (yB (yT ?_)))
    refine aA [.cell 6 47,.tmp 7] [.agg (bb c (.slice qa X.b.length qc) X.sx X.se X.sh X.sg (.slice ia X.i.length ic) X.n X.y X.k (.slice pa X.p.length pc)).toArray,.int .i64 0] (.tuple #[.agg (bb c (.slice qa X.b.length qc) X.sx X.se X.sh X.sg (.slice ia X.i.length ic) X.n X.y X.k (.slice pa X.p.length pc)).toArray,.int .i64 0]) rfl m ⟨⟨_,rfl,Loads.blk (vs:=bb c (.slice qa X.b.length qc) X.sx X.se X.sh X.sg (.slice ia X.i.length ic) X.n X.y X.k (.slice pa X.p.length pc)) (by kernel_rfl) j rfl⟩,rfl,trivial⟩ rfl ?_
    replace o:=((o.ext w).grew I (d.l 2)).grew g1 (d.l 0)
    exact⟨⟨{X with c:=c},qa,qc,ia,ic,pa,pc⟩,0,rfl,by unfold qN;rw[if_pos (show p=0 by omega),a2,if_pos (.inl V)],sU.kW o,o⟩
   ·refine rS m<|tO 1 0 q<|eF 2 c 2<|t1 4 (.bool false) (.bool ((ak x.kd).2)) (congrArg Value.bool h2)<|sE [(52,.bool false)] fun a m=>tK<|cF 52 m ?_
    refine cN<|tK<|qS m<|tR 0 q ?_
    replace j:=j.y I (d.bp 0 2)
    refine bt 1 (bb c (.slice qa X.b.length qc) X.sx X.se X.sh X.sg (.slice ia X.i.length ic) X.n X.y X.k (.slice pa X.p.length pc)) j fun j8 g3 B=> ?_
    replace j:=B
    refine sT [(7,.int .i64 1)] fun a m=>cR (yB (yT ?_))
    refine aA [.cell 6 47,.tmp 7] [.agg (bb c (.slice qa X.b.length qc) X.sx X.se X.sh X.sg (.slice ia X.i.length ic) X.n X.y X.k (.slice pa X.p.length pc)).toArray,.int .i64 1] (.tuple #[.agg (bb c (.slice qa X.b.length qc) X.sx X.se X.sh X.sg (.slice ia X.i.length ic) X.n X.y X.k (.slice pa X.p.length pc)).toArray,.int .i64 1]) rfl m ⟨⟨_,rfl,Loads.blk (vs:=bb c (.slice qa X.b.length qc) X.sx X.se X.sh X.sg (.slice ia X.i.length ic) X.n X.y X.k (.slice pa X.p.length pc)) (by kernel_rfl) j rfl⟩,rfl,trivial⟩ rfl ?_
    replace o:=((o.ext w).grew I (d.l 2)).grew g3 (d.l 0)
    exact⟨⟨{X with c:=c},qa,qc,ia,ic,pa,pc⟩,1,rfl,by unfold qN;rw[if_pos (show p=0 by omega),a2,if_neg (fun e=>e.elim V fun e=>Bool.false_ne_true (h2.symm.trans e.1))],sU.kW o,o⟩
   ·refine rS m<|tO 1 0 q<|eF 2 c 2<|t1 4 (.bool true) (.bool ((ak x.kd).2)) (congrArg Value.bool h2)<|tO 7 0 q<|eT 8 c 3<|sE [(52,.bool true)] fun a m=> ?_
    refine tK<|cT 52 m<|qS m<|tR 0 q ?_
    replace j:=j.y I (d.bp 0 2)
    refine bt 1 (bb c (.slice qa X.b.length qc) X.sx X.se X.sh X.sg (.slice ia X.i.length ic) X.n X.y X.k (.slice pa X.p.length pc)) j fun j9 g4 B=> ?_
    replace j:=B
    refine sT [(7,.int .i64 0)] fun a m=>cR (yT (yB (yT ?_)))
    refine aA [.cell 6 47,.tmp 7] [.agg (bb c (.slice qa X.b.length qc) X.sx X.se X.sh X.sg (.slice ia X.i.length ic) X.n X.y X.k (.slice pa X.p.length pc)).toArray,.int .i64 0] (.tuple #[.agg (bb c (.slice qa X.b.length qc) X.sx X.se X.sh X.sg (.slice ia X.i.length ic) X.n X.y X.k (.slice pa X.p.length pc)).toArray,.int .i64 0]) rfl m ⟨⟨_,rfl,Loads.blk (vs:=bb c (.slice qa X.b.length qc) X.sx X.se X.sh X.sg (.slice ia X.i.length ic) X.n X.y X.k (.slice pa X.p.length pc)) (by kernel_rfl) j rfl⟩,rfl,trivial⟩ rfl ?_
    replace o:=((o.ext w).grew I (d.l 2)).grew g4 (d.l 0)
    exact⟨⟨{X with c:=c},qa,qc,ia,ic,pa,pc⟩,0,rfl,by unfold qN;rw[if_pos (show p=0 by omega),a2,if_pos (.inr ⟨h2,h3⟩)],sU.kW o,o⟩
   ·refine rS m<|tO 1 0 q<|eF 2 c 2<|t1 4 (.bool true) (.bool ((ak x.kd).2)) (congrArg Value.bool h2)<|tO 7 0 q<|eF 8 c 3<|sE [(52,.bool false)] fun a m=> ?_
    refine tK<|cF 52 m<|cN<|tK<|qS m<|tR 0 q ?_
    replace j:=j.y I (d.bp 0 2)
    refine bt 1 (bb c (.slice qa X.b.length qc) X.sx X.se X.sh X.sg (.slice ia X.i.length ic) X.n X.y X.k (.slice pa X.p.length pc)) j fun k0 g5 B=> ?_
    replace j:=B
    refine sT [(7,.int .i64 1)] fun a m=>cR (yB (yT ?_))
    refine aA [.cell 6 47,.tmp 7] [.agg (bb c (.slice qa X.b.length qc) X.sx X.se X.sh X.sg (.slice ia X.i.length ic) X.n X.y X.k (.slice pa X.p.length pc)).toArray,.int .i64 1] (.tuple #[.agg (bb c (.slice qa X.b.length qc) X.sx X.se X.sh X.sg (.slice ia X.i.length ic) X.n X.y X.k (.slice pa X.p.length pc)).toArray,.int .i64 1]) rfl m ⟨⟨_,rfl,Loads.blk (vs:=bb c (.slice qa X.b.length qc) X.sx X.se X.sh X.sg (.slice ia X.i.length ic) X.n X.y X.k (.slice pa X.p.length pc)) (by kernel_rfl) j rfl⟩,rfl,trivial⟩ rfl ?_
    replace o:=((o.ext w).grew I (d.l 2)).grew g5 (d.l 0)
    exact⟨⟨{X with c:=c},qa,qc,ia,ic,pa,pc⟩,1,rfl,by unfold qN;rw[if_pos (show p=0 by omega),a2,if_neg (fun e=>e.elim V fun e=>h3 e.2)],sU.kW o,o⟩
 ·refine qP [(55,.bool (decide (((p:Nat):Int)=(1:Int))))] m fun a m=>cJ 55 m (fun d9=> ?_) fun d9=> ?_
  ·refine qS m<|tN 0 (.slice (some ⟨N.size,0,none⟩) 0 0) #[] 5 fun e1 c8 c9=> ?_
   replace o:=o.ext w
   replace d:=d.nw o.size c9
   have g:Own e1 (.slice (some ⟨N.size,0,none⟩) 0 0) 5 ([]:List UInt8).length 1 (([]:List UInt8).map bv):=Own.empty 1 c9
   replace d:Sep h.size e1.size [(some ⟨N.size,0,none⟩:Option Addr).map (·.block),some (a1.size),some (h6.size),some (V.size),some (h.size)]:=d
   replace q:=((q.x z).x w).x c8
   replace o:=o.ext c8
   replace j:=j.x c8
   clear c9
   refine tO 2 1 q<|tP 3 X.b.length 1 (X.b.map bv) g (f7.ext o) (aB _) (fun i8 g6 g8 g a9 b7=> ?_)
   have d0:=d
   replace d:=d.sa a9 0 b7 g o.size;clear b7
   refine t1 5 ((bv (UInt8.ofNat (b0+1)))) (.int .u8 (IntKind.u8.wrap (((b0+1):Nat):Int))) (bn (b0+1))<|tN 6 (.slice (some ⟨g8.size,0,none⟩) 1 1) #[(bv (UInt8.ofNat (b0+1)))] 5 fun k1 b1 e2=> ?_
   replace o:=o.grew a9 (d0.l 0)
   replace d:=d.nw o.size e2
   replace g:=g.ext b1
   refine tP 7 (X.b.length +1) 1 ((X.b ++[(UInt8.ofNat (b0+1))]).map bv) g (Row.blk (n:=1) (sz:=1) (l:=[(UInt8.ofNat (b0+1))].map bv) e2 rfl) (aB _) (fun J F k2 g b2 b8=> ?_) (ys:=(([(UInt8.ofNat (b0+1))]).map bv))
   replace o:=o.ext b1
   have d1:=d
   replace d:=d.sa b2 1 b8 g o.size;clear b8
   have Q:X.b.length +1=(X.b ++[(UInt8.ofNat (b0+1))]).length :=by rw[List.length_append];rfl
   rw[Q] at g
   replace q:=((q.y a9 (d0.bp 3 0)).x b1).y b2 (d1.bp 4 1)
   refine tV 9 1 [.slice J (X.b.length +1) F] (bb X.c (.slice J (X.b.length +1) F) X.sx X.se X.sh X.sg (.slice ia X.i.length ic) X.n X.y X.k (.slice pa X.p.length pc)) q fun k3 d2 B=> ?_
   replace q:=B
   refine sT [] fun a m=>qS m<|tR 0 q ?_
   replace j:=(((j.y a9 (d0.bp 1 0)).x b1).y b2 (d1.bp 2 1)).y d2 (d.bp 2 4)
   refine bt 1 (bb X.c (.slice J (X.b.length +1) F) X.sx X.se X.sh X.sg (.slice ia X.i.length ic) X.n X.y X.k (.slice pa X.p.length pc)) j fun k4 e3 B=> ?_
   replace j:=B
   refine sT [(7,.int .i64 2)] fun a m=>cR (yB (yT ?_))
   refine aA [.cell 6 47,.tmp 7] [.agg (bb X.c (.slice J (X.b.length +1) F) X.sx X.se X.sh X.sg (.slice ia X.i.length ic) X.n X.y X.k (.slice pa X.p.length pc)).toArray,.int .i64 2] (.tuple #[.agg (bb X.c (.slice J (X.b.length +1) F) X.sx X.se X.sh X.sg (.slice ia X.i.length ic) X.n X.y X.k (.slice pa X.p.length pc)).toArray,.int .i64 2]) rfl m ⟨⟨_,rfl,Loads.blk (vs:=bb X.c (.slice J (X.b.length +1) F) X.sx X.se X.sh X.sg (.slice ia X.i.length ic) X.n X.y X.k (.slice pa X.p.length pc)) (by kernel_rfl) j rfl⟩,rfl,trivial⟩ rfl ?_
   replace o:=((o.grew b2 (d1.l 1)).grew d2 (d.l 4)).grew e3 (d.l 2)
   replace g:=(g.k d2 (d.ap 1 4)).k e3 (d.ap 1 2)
   have hz:=sU.kW o
   exact⟨⟨{X with b:=X.b ++[(UInt8.ofNat (b0+1))]},J,F,ia,ic,pa,pc⟩,2,(by rw[Q]<;>rfl),by unfold qN;rw[if_neg (show ¬p=0 by omega),if_pos (show p=1 by omega)],⟨(ay.of g (by decide)),hz.2.1,hz.2.2.1,hz.2.2.2⟩,o⟩
  ·refine qP [(67,.bool (decide (((p:Nat):Int)=(2:Int))))] m fun a m=>cJ 67 m (fun e4=> ?_) fun e4=> ?_
   ·refine qS m ?_
    replace q:=(q.x z).x w
    refine tO 2 36 q<|tV 7 36 [.int .i64 (IntKind.i64.wrap (X.se +(((b0+1):Nat):Int)))] (bb X.c (.slice qa X.b.length qc) X.sx (IntKind.i64.wrap (X.se +(((b0+1):Nat):Int))) X.sh X.sg (.slice ia X.i.length ic) X.n X.y X.k (.slice pa X.p.length pc)) q fun k5 e5 B=> ?_
    replace q:=B
    refine sT [] fun a m=>qS m<|tR 0 q ?_
    replace j:=j.y e5 (d.bp 0 2)
    refine bt 1 (bb X.c (.slice qa X.b.length qc) X.sx (IntKind.i64.wrap (X.se +(((b0+1):Nat):Int))) X.sh X.sg (.slice ia X.i.length ic) X.n X.y X.k (.slice pa X.p.length pc)) j fun k6 g9 B=> ?_
    replace j:=B
    refine sT [(7,.int .i64 3)] fun a m=>cR (yB (yT ?_))
    refine aA [.cell 6 47,.tmp 7] [.agg (bb X.c (.slice qa X.b.length qc) X.sx (IntKind.i64.wrap (X.se +(((b0+1):Nat):Int))) X.sh X.sg (.slice ia X.i.length ic) X.n X.y X.k (.slice pa X.p.length pc)).toArray,.int .i64 3] (.tuple #[.agg (bb X.c (.slice qa X.b.length qc) X.sx (IntKind.i64.wrap (X.se +(((b0+1):Nat):Int))) X.sh X.sg (.slice ia X.i.length ic) X.n X.y X.k (.slice pa X.p.length pc)).toArray,.int .i64 3]) rfl m ⟨⟨_,rfl,Loads.blk (vs:=bb X.c (.slice qa X.b.length qc) X.sx (IntKind.i64.wrap (X.se +(((b0+1):Nat):Int))) X.sh X.sg (.slice ia X.i.length ic) X.n X.y X.k (.slice pa X.p.length pc)) (by kernel_rfl) j rfl⟩,rfl,trivial⟩ rfl ?_
    replace o:=((o.ext w).grew e5 (d.l 2)).grew g9 (d.l 0)
    exact⟨⟨{X with se:=IntKind.i64.wrap (X.se +(((b0+1):Nat):Int))},qa,qc,ia,ic,pa,pc⟩,3,rfl,by unfold qN;rw[if_neg (show ¬p=0 by omega),if_neg (show ¬p=1 by omega),if_pos (show p=2 by omega)],sU.kW o,o⟩
   ·refine qP [(77,.bool (decide (((p:Nat):Int)=(3:Int))))] m fun a m=>cJ 77 m (fun e6=> ?_) fun e6=> ?_
    ·refine qS m<|tN 0 (.slice (some ⟨N.size,0,none⟩) 0 0) #[] 9 fun e7 d3 d4=> ?_
     replace o:=o.ext w
     replace d:=d.nw o.size d4
     have g:Own e7 (.slice (some ⟨N.size,0,none⟩) 0 0) 9 ([]:List ByteArray).length 1 (([]:List ByteArray).map Value.string):=Own.empty 1 d4
     replace d:Sep h.size e7.size [(some ⟨N.size,0,none⟩:Option Addr).map (·.block),some (a1.size),some (h6.size),some (V.size),some (h.size)]:=d
     replace q:=((q.x z).x w).x d3
     replace o:=o.ext d3
     replace j:=j.x d3
     clear d4
     refine tO 2 39 q<|tP 3 X.i.length 16 (X.i.map Value.string) g (f8.ext o) (fR _) (fun i9 i0 i1 g b3 c0=> ?_)
     have d5:=d
     replace d:=d.sa b3 0 c0 g o.size;clear c0
     refine tN 4 (.slice (some ⟨i1.size,0,none⟩) 1 1) #[.string (ByteArray.mk #[122])] 9 fun k7 b5 e8=> ?_
     replace o:=o.grew b3 (d5.l 0)
     replace d:=d.nw o.size e8
     replace g:=g.ext b5
     refine tP 5 (X.i.length +1) 16 ((X.i ++[sZ]).map Value.string) g (Row.blk (n:=1) (sz:=1) (l:=[sZ].map Value.string) e8 rfl) (fR _) (fun M G k8 g b6 c1=> ?_) (ys:=(([sZ]).map Value.string))
     replace o:=o.ext b5
     have d6:=d
     replace d:=d.sa b6 1 c1 g o.size;clear c1
     have Q:X.i.length +1=(X.i ++[sZ]).length :=by rw[List.length_append];rfl
     rw[Q] at g
     replace q:=((q.y b3 (d5.bp 3 0)).x b5).y b6 (d6.bp 4 1)
     refine tV 7 39 [.slice M (X.i.length +1) G] (bb X.c (.slice qa X.b.length qc) X.sx X.se X.sh X.sg (.slice M (X.i.length +1) G) X.n X.y X.k (.slice pa X.p.length pc)) q fun k9 d7 B=> ?_
     replace q:=B
     refine sT [] fun a m=>qS m<|tR 0 q ?_
     replace j:=(((j.y b3 (d5.bp 1 0)).x b5).y b6 (d6.bp 2 1)).y d7 (d.bp 2 4)
     refine bt 1 (bb X.c (.slice qa X.b.length qc) X.sx X.se X.sh X.sg (.slice M (X.i.length +1) G) X.n X.y X.k (.slice pa X.p.length pc)) j fun l0 e9 B=> ?_
     replace j:=B
     refine sT [(7,.int .i64 4)] fun a m=>cR (yB (yT ?_))
     refine aA [.cell 6 47,.tmp 7] [.agg (bb X.c (.slice qa X.b.length qc) X.sx X.se X.sh X.sg (.slice M (X.i.length +1) G) X.n X.y X.k (.slice pa X.p.length pc)).toArray,.int .i64 4] (.tuple #[.agg (bb X.c (.slice qa X.b.length qc) X.sx X.se X.sh X.sg (.slice M (X.i.length +1) G) X.n X.y X.k (.slice pa X.p.length pc)).toArray,.int .i64 4]) rfl m ⟨⟨_,rfl,Loads.blk (vs:=bb X.c (.slice qa X.b.length qc) X.sx X.se X.sh X.sg (.slice M (X.i.length +1) G) X.n X.y X.k (.slice pa X.p.length pc)) (by kernel_rfl) j rfl⟩,rfl,trivial⟩ rfl ?_
     replace o:=((o.grew b6 (d6.l 1)).grew d7 (d.l 4)).grew e9 (d.l 2)
     replace g:=(g.k d7 (d.ap 1 4)).k e9 (d.ap 1 2)
     have hz:=sU.kW o
     exact⟨⟨{X with i:=X.i ++[sZ]},qa,qc,M,G,pa,pc⟩,4,(by rw[Q]<;>rfl),by unfold qN;rw[if_neg (show ¬p=0 by omega),if_neg (show ¬p=1 by omega),if_neg (show ¬p=2 by omega),if_pos (show p=3 by omega)],⟨hz.1,(ay.of g (by decide)),hz.2.2.1,hz.2.2.2⟩,o⟩
    ·refine qP [(87,.bool (decide (((p:Nat):Int)=(4:Int))))] m fun a m=>cJ 87 m (fun f0=> ?_) fun f0=> ?_
     ·refine qS m<|t1 1 (.int .i64 (((b0+1)%32:Nat):Int)) (.int .i64 (Int.tmod ((b0+1:Nat):Int) 32)) (congrArg (Value.int .i64) (fj (b0+1) 32))<|t1 3 (.int .i64 (((b0+1)%32:Nat):Int)) (.int .i64 (Int.tmod ((b0+1:Nat):Int) 32)) (congrArg (Value.int .i64) (fj (b0+1) 32))<|tJ 6 V.size 41 32 1 ((b0+1)%32) (41+((b0+1)%32)) ?_
      replace q:=(q.x z).x w
      refine tC 7 ((bv (X.y.root ((b0+1)%32)))) (Calm.load (T:=5) (p:=⟨V.size,41+((b0+1)%32),none⟩) (by kernel_rfl) (Loads.one (k:=1) (by kernel_rfl) ((an q).trans (Dm (Nat.mod_lt _ (by decide))))))<|t1 8 ((bv (X.y.root ((b0+1)%32)+1))) (.int .u8 (IntKind.u8.wrap (((X.y.root ((b0+1)%32)).toNat :Int)+1))) (Ca _)<|tJ 11 V.size 41 32 1 ((b0+1)%32) (41+((b0+1)%32))<|tV 12 (41+((b0+1)%32)) [bv (X.y.root ((b0+1)%32)+1)] (bb X.c (.slice qa X.b.length qc) X.sx X.se X.sh X.sg (.slice ia X.i.length ic) X.n (vZ X.y ((b0+1)%32)) X.k (.slice pa X.p.length pc)) q (fun l1 f1 B=> ?_) (hfit:=(by show 41+((b0+1)%32)+1≤75;omega)) (e:=(Cb (Nat.mod_lt _ (by decide))))
      replace q:=B
      refine sT [] fun a m=>qS m<|tR 0 q ?_
      replace j:=j.y f1 (d.bp 0 2)
      refine bt 1 (bb X.c (.slice qa X.b.length qc) X.sx X.se X.sh X.sg (.slice ia X.i.length ic) X.n (vZ X.y ((b0+1)%32)) X.k (.slice pa X.p.length pc)) j fun l2 i2 B=> ?_
      replace j:=B
      refine sT [(7,.int .i64 5)] fun a m=>cR (yB (yT ?_))
      refine aA [.cell 6 47,.tmp 7] [.agg (bb X.c (.slice qa X.b.length qc) X.sx X.se X.sh X.sg (.slice ia X.i.length ic) X.n (vZ X.y ((b0+1)%32)) X.k (.slice pa X.p.length pc)).toArray,.int .i64 5] (.tuple #[.agg (bb X.c (.slice qa X.b.length qc) X.sx X.se X.sh X.sg (.slice ia X.i.length ic) X.n (vZ X.y ((b0+1)%32)) X.k (.slice pa X.p.length pc)).toArray,.int .i64 5]) rfl m ⟨⟨_,rfl,Loads.blk (vs:=bb X.c (.slice qa X.b.length qc) X.sx X.se X.sh X.sg (.slice ia X.i.length ic) X.n (vZ X.y ((b0+1)%32)) X.k (.slice pa X.p.length pc)) (by kernel_rfl) j rfl⟩,rfl,trivial⟩ rfl ?_
      replace o:=((o.ext w).grew f1 (d.l 2)).grew i2 (d.l 0)
      exact⟨⟨{X with y:=vZ X.y ((b0+1)%32)},qa,qc,ia,ic,pa,pc⟩,5,rfl,by unfold qN;rw[if_neg (show ¬p=0 by omega),if_neg (show ¬p=1 by omega),if_neg (show ¬p=2 by omega),if_neg (show ¬p=3 by omega),if_pos (show p=4 by omega)],sU.kW o,o⟩
     ·refine qP [(102,.bool (decide (((p:Nat):Int)=(5:Int))))] m fun a m=>cJ 102 m (fun f2=> ?_) fun f2=> ?_
      ·refine cS<|cS ?_
       rcases(by omega:x.kd =11∨x.kd =15∨(x.kd ≠11∧x.kd ≠15)) with O|O|O
       ·refine rS m ?_
        replace D:=((D.x g7).x z).x w
        refine tO 1 0 D<|eT 2 x.kd 11<|sE [(111,.bool true)] fun a m=>tK<|cT 111 m<|qS m ?_
        replace q:=(q.x z).x w
        refine tR 0 q<|bt 1 (bb X.c (.slice qa X.b.length qc) X.sx X.se X.sh X.sg (.slice ia X.i.length ic) X.n X.y X.k (.slice pa X.p.length pc)) j fun l3 i3 B=> ?_
        replace j:=B
        refine sT [(7,.int .i64 0)] fun a m=>cR (yT (yB (yT ?_)))
        refine aA [.cell 6 47,.tmp 7] [.agg (bb X.c (.slice qa X.b.length qc) X.sx X.se X.sh X.sg (.slice ia X.i.length ic) X.n X.y X.k (.slice pa X.p.length pc)).toArray,.int .i64 0] (.tuple #[.agg (bb X.c (.slice qa X.b.length qc) X.sx X.se X.sh X.sg (.slice ia X.i.length ic) X.n X.y X.k (.slice pa X.p.length pc)).toArray,.int .i64 0]) rfl m ⟨⟨_,rfl,Loads.blk (vs:=bb X.c (.slice qa X.b.length qc) X.sx X.se X.sh X.sg (.slice ia X.i.length ic) X.n X.y X.k (.slice pa X.p.length pc)) (by kernel_rfl) j rfl⟩,rfl,trivial⟩ rfl ?_
        replace o:=(o.ext w).grew i3 (d.l 0)
        exact⟨⟨X,qa,qc,ia,ic,pa,pc⟩,0,rfl,by unfold qN;rw[if_neg (show ¬p=0 by omega),if_neg (show ¬p=1 by omega),if_neg (show ¬p=2 by omega),if_neg (show ¬p=3 by omega),if_neg (show ¬p=4 by omega),if_pos (show p=5 by omega),if_pos (by omega)],sU.kW o,o⟩
       ·refine rS m ?_
        replace D:=((D.x g7).x z).x w
        refine tO 1 0 D<|eF 2 x.kd 11<|tO 5 0 D<|eT 6 x.kd 15<|sE [(111,.bool true)] fun a m=>tK<|cT 111 m ?_
        refine qS m ?_
        replace q:=(q.x z).x w
        refine tR 0 q<|bt 1 (bb X.c (.slice qa X.b.length qc) X.sx X.se X.sh X.sg (.slice ia X.i.length ic) X.n X.y X.k (.slice pa X.p.length pc)) j fun l4 f3 B=> ?_
        replace j:=B
        refine sT [(7,.int .i64 0)] fun a m=>cR (yT (yB (yT ?_)))
        refine aA [.cell 6 47,.tmp 7] [.agg (bb X.c (.slice qa X.b.length qc) X.sx X.se X.sh X.sg (.slice ia X.i.length ic) X.n X.y X.k (.slice pa X.p.length pc)).toArray,.int .i64 0] (.tuple #[.agg (bb X.c (.slice qa X.b.length qc) X.sx X.se X.sh X.sg (.slice ia X.i.length ic) X.n X.y X.k (.slice pa X.p.length pc)).toArray,.int .i64 0]) rfl m ⟨⟨_,rfl,Loads.blk (vs:=bb X.c (.slice qa X.b.length qc) X.sx X.se X.sh X.sg (.slice ia X.i.length ic) X.n X.y X.k (.slice pa X.p.length pc)) (by kernel_rfl) j rfl⟩,rfl,trivial⟩ rfl ?_
        replace o:=(o.ext w).grew f3 (d.l 0)
        exact⟨⟨X,qa,qc,ia,ic,pa,pc⟩,0,rfl,by unfold qN;rw[if_neg (show ¬p=0 by omega),if_neg (show ¬p=1 by omega),if_neg (show ¬p=2 by omega),if_neg (show ¬p=3 by omega),if_neg (show ¬p=4 by omega),if_pos (show p=5 by omega),if_pos (by omega)],sU.kW o,o⟩
       ·refine rS m ?_
        replace D:=((D.x g7).x z).x w
        refine tO 1 0 D<|eF 2 x.kd 11<|tO 5 0 D<|eF 6 x.kd 15<|sE [(111,.bool false)] fun a m=>tK<|cF 111 m ?_
        refine cN<|tK<|qS m ?_
        replace q:=(q.x z).x w
        refine tO 1 73 q<|tV 5 73 [.int .i64 (IntKind.i64.wrap (X.k +(((b0+1):Nat):Int)))] (bb X.c (.slice qa X.b.length qc) X.sx X.se X.sh X.sg (.slice ia X.i.length ic) X.n X.y (IntKind.i64.wrap (X.k +(((b0+1):Nat):Int))) (.slice pa X.p.length pc)) q fun j0 c2 B=> ?_
        replace q:=B
        refine sT [] fun a m=>qS m<|tR 0 q ?_
        replace j:=j.y c2 (d.bp 0 2)
        refine bt 1 (bb X.c (.slice qa X.b.length qc) X.sx X.se X.sh X.sg (.slice ia X.i.length ic) X.n X.y (IntKind.i64.wrap (X.k +(((b0+1):Nat):Int))) (.slice pa X.p.length pc)) j fun j1 f4 B=> ?_
        replace j:=B
        refine sT [(7,.int .i64 6)] fun a m=>cR (yB (yT ?_))
        refine aA [.cell 6 47,.tmp 7] [.agg (bb X.c (.slice qa X.b.length qc) X.sx X.se X.sh X.sg (.slice ia X.i.length ic) X.n X.y (IntKind.i64.wrap (X.k +(((b0+1):Nat):Int))) (.slice pa X.p.length pc)).toArray,.int .i64 6] (.tuple #[.agg (bb X.c (.slice qa X.b.length qc) X.sx X.se X.sh X.sg (.slice ia X.i.length ic) X.n X.y (IntKind.i64.wrap (X.k +(((b0+1):Nat):Int))) (.slice pa X.p.length pc)).toArray,.int .i64 6]) rfl m ⟨⟨_,rfl,Loads.blk (vs:=bb X.c (.slice qa X.b.length qc) X.sx X.se X.sh X.sg (.slice ia X.i.length ic) X.n X.y (IntKind.i64.wrap (X.k +(((b0+1):Nat):Int))) (.slice pa X.p.length pc)) (by kernel_rfl) j rfl⟩,rfl,trivial⟩ rfl ?_
        replace o:=((o.ext w).grew c2 (d.l 2)).grew f4 (d.l 0)
        exact⟨⟨{X with k:=IntKind.i64.wrap (X.k +(((b0+1):Nat):Int))},qa,qc,ia,ic,pa,pc⟩,6,rfl,by unfold qN;rw[if_neg (show ¬p=0 by omega),if_neg (show ¬p=1 by omega),if_neg (show ¬p=2 by omega),if_neg (show ¬p=3 by omega),if_neg (show ¬p=4 by omega),if_pos (show p=5 by omega),if_neg (by omega)],sU.kW o,o⟩
      ·refine cN<|bK<|tK<|qS m<|tN 0 (.slice (some ⟨N.size,0,none⟩) 0 0) #[] 39 fun c3 W a4=> ?_
       replace o:=o.ext w
       replace d:=d.nw o.size a4
       have g:Own c3 (.slice (some ⟨N.size,0,none⟩) 0 0) 39 ([]:List Hs).length 32 (hcs []):=Own.empty 32 a4
       replace d:Sep h.size c3.size [(some ⟨N.size,0,none⟩:Option Addr).map (·.block),some (a1.size),some (h6.size),some (V.size),some (h.size)]:=d
       replace kt:=((((kt.ext g2).ext g7).ext z).ext w).ext W
       replace q:=((q.x z).x w).x W
       replace o:=o.ext W
       replace j:=j.x W
       clear a4
       refine tO 2 74 q<|tP 3 X.p.length 32 (hcs X.p) g (f9.ext o) (di _) (fun i4 f6 c4 g R a5=> ?_) (hZ:=by first|rfl|exact(aX _ _).symm |simp[aX])
       have Y:=d
       replace d:=d.sa R 0 a5 g o.size;clear a5
       refine t1 5 ((bv (UInt8.ofNat (b0+1)))) (.int .u8 (IntKind.u8.wrap (((b0+1):Nat):Int))) (bn (b0+1))<|tF 7 (Does.newHs (L:=[((UInt8.ofNat (b0+1))::List.replicate 31 0)]) (t:=45) (E:=39) (db:=32) (n:=1) (by kernel_rfl) (by kernel_rfl) (aq.cons rfl aq.nil) rfl (by decide) (by decide)) ?_
       rintro _ c5 ⟨rfl,hh⟩
       have S:Ext c4 c5:=aT hh
       have c6:c5[c4.size]? =some (.cells (hcs [((UInt8.ofNat (b0+1))::List.replicate 31 0)]).toArray 39):=bj hh
       clear hh
       replace o:=o.grew R (Y.l 0)
       have f5:=o.size
       have c7:=d
       replace d:=c7.new f5 (aj c6)
       clear c7 f5
       replace g:=g.ext S
       refine tP 8 (X.p.length +1) 32 (hcs (X.p ++[((UInt8.ofNat (b0+1))::List.replicate 31 0)])) g (hrow1 rfl c6) (di _) (fun H A j2 g U a6=> ?_) (ys:=(hcs ([((UInt8.ofNat (b0+1))::List.replicate 31 0)]))) (hZ:=by first|rfl|exact(aX _ _).symm |simp[aX])
       replace o:=o.ext S
       have Z:=d
       replace d:=d.sa U 1 a6 g o.size;clear a6
       have Q:X.p.length +1=(X.p ++[((UInt8.ofNat (b0+1))::List.replicate 31 0)]).length :=by rw[List.length_append];rfl
       rw[Q] at g
       replace q:=((q.y R (Y.bp 3 0)).x S).y U (Z.bp 4 1)
       refine tV 10 74 [.slice H (X.p.length +1) A] (bb X.c (.slice qa X.b.length qc) X.sx X.se X.sh X.sg (.slice ia X.i.length ic) X.n X.y X.k (.slice H (X.p.length +1) A)) q fun j3 a0 B=> ?_
       replace q:=B
       refine sT [] fun a m=>qS m<|tR 0 q ?_
       replace j:=(((j.y R (Y.bp 1 0)).x S).y U (Z.bp 2 1)).y a0 (d.bp 2 4)
       refine bt 1 (bb X.c (.slice qa X.b.length qc) X.sx X.se X.sh X.sg (.slice ia X.i.length ic) X.n X.y X.k (.slice H (X.p.length +1) A)) j fun j4 a7 B=> ?_
       replace j:=B
       refine sT [(7,.int .i64 6)] fun a m=>cR<|aA [.cell 6 47,.tmp 7] [.agg (bb X.c (.slice qa X.b.length qc) X.sx X.se X.sh X.sg (.slice ia X.i.length ic) X.n X.y X.k (.slice H (X.p.length +1) A)).toArray,.int .i64 6] (.tuple #[.agg (bb X.c (.slice qa X.b.length qc) X.sx X.se X.sh X.sg (.slice ia X.i.length ic) X.n X.y X.k (.slice H (X.p.length +1) A)).toArray,.int .i64 6]) rfl m ⟨⟨_,rfl,Loads.blk (vs:=bb X.c (.slice qa X.b.length qc) X.sx X.se X.sh X.sg (.slice ia X.i.length ic) X.n X.y X.k (.slice H (X.p.length +1) A)) (by kernel_rfl) j rfl⟩,rfl,trivial⟩ rfl ?_
       replace kt:=((((kt.grew R (Y.zero 0 rfl a8)).ext S).grew U (Z.zero 1 rfl a8)).grew a0 (d.zero 4 rfl a8)).grew a7 (d.zero 2 rfl a8)
       replace o:=((o.grew U (Z.l 1)).grew a0 (d.l 4)).grew a7 (d.l 2)
       replace g:=(g.k a0 (d.ap 1 4)).k a7 (d.ap 1 2)
       have hz:=sU.kW o
       exact⟨⟨{X with p:=X.p ++[((UInt8.ofNat (b0+1))::List.replicate 31 0)]},qa,qc,ia,ic,H,A⟩,6,(by rw[Q]<;>rfl),by unfold qN;rw[if_neg (show ¬p=0 by omega),if_neg (show ¬p=1 by omega),if_neg (show ¬p=2 by omega),if_neg (show ¬p=3 by omega),if_neg (show ¬p=4 by omega),if_neg (show ¬p=5 by omega)],⟨hz.1,hz.2.1,(ay.of g (by decide)),sR hz.2.2.2 rfl⟩,o⟩
end Go.Proofs.YtegkejcglfgpmaaGreatDoor
end
