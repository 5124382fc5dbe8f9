/- The walks and the plain laws, part 5: MdlShow, MdlO, RB, TreeF, ChkH, RC, RetU, RetD, RD, RE, RF, RSame, RS, ClonesL, Plays, MdlPlay, PlayL, ReadP, RW, RL. Conditions: those that each theorem names. -/
import Derived.Test.YtegkejcglfgpmaaGreatDoorPm4
section
namespace Go.Proofs.YtegkejcglfgpmaaGreatDoor
open Go Go.aj Go.aN
/-! ### the examples: their operations, their answers, what the judge does by each -/
theorem AT{h:Heap}{b:Nat}{x:UInt8}(m:h[b]? =some (.cells #[bv x] 5)):aC h (.slice (some ⟨b,0,none⟩) 1 1) 1 1 ([x].map bv):=
  ⟨Row.blk (n:=1) (sz:=1) (l:=[x].map bv) m rfl, .inr ⟨b,_,_,_,rfl,m,by decide⟩⟩
@[reducible] def jK(b:Nat):e9:=⟨1,sA,[97],some ⟨b,0,none⟩,1,0,none,0,0⟩
@[reducible] def fe:e9:=⟨2,sA,[],none,0,0,none,0,0⟩
@[reducible] def ew(k:Int):e9:=⟨k,ByteArray.empty,[],none,0,0,none,0,0⟩
@[reducible] def aX(c:Int):dL:=⟨b8 c,none,0,none,0,none,0⟩
@[reducible] def aByte(x:UInt8)(b:Nat):dL:=⟨Dq [x],some ⟨b,0,none⟩,1,none,0,none,0⟩
section
variable {h:Heap} {b b2:Nat}
theorem BN(m:h[b]? =some (.cells #[bv 97] 5)):me h (jK b):=⟨⟨(AT m).1, .inr fun k e=>by simp only[a6,Option.some.injEq] at e;subst e;exact ak m⟩,(by decide:sA.size ≤9223372036854775807)⟩
theorem pW(h:Heap):me h fe:=⟨⟨Row.nil _ _, .inl rfl⟩,by decide⟩
theorem Dw(h:Heap):kP h e_:=⟨aC.nil _ _,aC.nil _ _,aC.nil _ _,aq.nil⟩
theorem fL(h:Heap)(c:Int):kP h (aX c):=⟨aC.nil _ _,aC.nil _ _,aC.nil _ _,aq.nil⟩
theorem xY{x:UInt8}(m:h[b]? =some (.cells #[bv x] 5)):kP h (aByte x b):=⟨AT m,aC.nil _ _,aC.nil _ _,aq.nil⟩
theorem E0:∀M∈[M0],M.E.length ≤1099511627:=fun M hM=>by rw[List.mem_singleton.1 hM];decide
theorem E1:∀M∈[M1],M.E.length ≤1099511627:=fun M hM=>by rw[List.mem_singleton.1 hM,AQ];decide
theorem LY:∀M∈[M0,M1],M.E.length ≤1099511627:=fun M hM=>by
  rcases List.mem_cons.1 hM with rfl|hM
  · decide
  · exact E1 M hM
noncomputable def JD:Nat→Jd
  |0=>⟨[M0],false,false,false,false⟩
  |_=>⟨[M1],false,false,false,false⟩
def rD:Nat→Int
  |1=>2
  |_=>0
theorem JT(m:h[b]? =some (.cells #[bv 97] 5))(m2:h[b2]? =some (.cells #[bv 98] 5))(k:Nat)(hk:k<2):aW h ([jK b,fe].getD k fC) ([e_,aByte 98 b2].getD k e_) (JD k) (JD (k+1)) (rD k):=by
  match k,hk with
  |0,_=>exact aW.Gf (o:=jK b) (x:=e_) (BN m) (Dw h) (cu (.inl rfl)) (by decide) E0 (by decide) (Gi (gI (Dr _) JQ))
  |1,_=>exact aW.holdA (o:=fe) (x:=aByte 98 b2) (pW h) (xY m2) (bT (by decide) (.inl rfl)) E1 (by decide) (xW (gI (xV _ _) Dt) (by decide))
def JE:Nat→Jd
  |0=>⟨[M0],false,false,false,false⟩
  |_=>⟨[M0],false,false,false,false⟩
def rE:Nat→Int:=fun _=>1
theorem JU(h:Heap)(k:Nat)(hk:k<1):aW h ([fe].getD k fC) ([aX 2].getD k e_) (JE k) (JE (k+1)) (rE k):=by
  match k,hk with
  |0,_=>exact aW.holdA (o:=fe) (x:=aX 2) (pW h) (fL h 2) (bT (by decide) (.inl rfl)) E0 (by decide) (xW (gI (Ds _ _) (rC (by decide))) (by decide))
noncomputable def AU:Nat→Jd
  |0=>⟨[M0],false,false,false,false⟩
  |1=>⟨[M0],false,true,false,false⟩
  |2=>⟨[M0,M1],true,true,false,false⟩
  |3=>⟨[M0,M1],false,false,false,false⟩
  |_=>⟨[M1],false,false,false,false⟩
def rF:Nat→Int
  |4=>1
  |_=>0
theorem Gj(x:dL)(hx:x=e_):aW h (ew 12) x (AU 0) (AU 1) 0:=by
  subst hx
  have:=aW.fuse (h:=h) (o:=ew 12) (x:=e_) (Ms:=[M0]) (o2:=false) (o3:=false) (Dw h) rfl
  rw[show az dh e_.X =0 from JQ] at this
  exact this
theorem Gk(m:h[b]? =some (.cells #[bv 97] 5)):aW h (jK b) (aX 2) (AU 1) (AU 2) 0:=by
  have e:bO M0 (jK b)=(M1,dh):=Dr 0
  have:=aW.power (h:=h) (o:=jK b) (x:=aX 2) (M:=M0) (BN m) (fL h 2) (cu (.inl rfl)) rfl (by decide) (by rw[e];rfl) (by rw[e,AQ];decide)
  rw[e,LX] at this
  exact this
theorem Gl:aW h (ew 13) e_ (AU 2) (AU 3) 0:=by
  have:=aW.Gd (h:=h) (o:=ew 13) (x:=e_) (Ms:=[M0,M1]) (o1:=true) (o2:=true) (o3:=false) (Dw h) rfl
  rw[show az dh e_.X =0 from JQ] at this
  exact this
theorem JV(m:h[b]? =some (.cells #[bv 97] 5))(m2:h[b2]? =some (.cells #[bv 97] 5))(k:Nat)(hk:k<5):aW h ([ew 12,jK b,ew 13,fe,fe].getD k fC) ([e_,aX 2,e_,aByte 97 b2,aX 211].getD k e_) (AU k) (AU (k+1)) (rF k):=by
  match k,hk with
  |0,_=>exact Gj _ rfl
  |1,_=>exact Gk m
  |2,_=>exact Gl
  |3,_=>exact aW.holdA (o:=fe) (x:=aByte 97 b2) (pW h) (xY m2) (bT (by decide) (.inl rfl)) LY (by decide) (Du (gI (Ds _ _) (rC (by decide))) (gI (xV _ _) N8) (by decide))
  |4,_=>exact aW.holdA (o:=fe) (x:=aX 211) (pW h) (fL h 211) (bT (by decide) (.inl rfl)) E1 (by decide) (xW (gI (xV _ _) (rC (by decide))) (by decide))
noncomputable def JG:Nat→Jd
  |0=>⟨[M0],false,false,false,false⟩
  |1=>⟨[M0],false,true,false,false⟩
  |2=>⟨[M0,M1],true,true,false,false⟩
  |3=>⟨[M0,M1],false,false,false,false⟩
  |_=>⟨[M0],false,false,false,false⟩
def rG:Nat→Int:=fun _=>0
theorem JW(m:h[b]? =some (.cells #[bv 97] 5))(k:Nat)(hk:k<4):aW h ([ew 12,jK b,ew 13,fe].getD k fC) ([e_,aX 2,e_,aX 211].getD k e_) (JG k) (JG (k+1)) (rG k):=by
  match k,hk with
  |0,_=>exact Gj _ rfl
  |1,_=>exact Gk m
  |2,_=>exact Gl
  |3,_=>exact aW.holdA (o:=fe) (x:=aX 211) (pW h) (fL h 211) (bT (by decide) (.inl rfl)) LY (by decide) (Dv (gI (Ds _ _) (LX 211)) (gI (xV _ _) (rC (by decide))) (by decide))
theorem JX:iC rD 2=[(1,2)]:=by decide
theorem JY:iC rE 1=[(0,1)]:=by decide
theorem JZ:iC rF 5=[(4,1)]:=by decide
theorem J0:iC rG 4=[]:=by decide
end
theorem gJ(h:Heap)(L:List e9)(A:List dL)(n:Nat)(la:Option Addr)(lc:Nat)(xa:Option Addr)(xc:Nat)(Jf:Nat→Jd)(r:Nat→Int)(hl:Row h (.slice la n lc) n 5 (iA L))(hL:L.length =n)(ha:Row h (.slice xa n xc) n 75 (bI A))(hA:A.length =n)(kt:bl h)(hn:n≤1099511627)(hJ0:Jf 0=⟨[M0],false,false,false,false⟩)
    (see:∀k,k<n→aW h (L.getD k fC) (A.getD k e_) (Jf k) (Jf (k+1)) (r k)) (F:List (Int×Int)) (hF:iC r n=F):Sat Tryz.prog 10 #[.slice la n lc, .slice xa n xc] h fun v h'=>∃ad cap,v= .slice ad F.length cap∧Row h' (.slice ad F.length cap) F.length 2 (eu F)∧Ext h h':=by
  subst hF
  exact(u1 h L A n la lc xa xc Jf r hl hL ha hA kt hn hJ0 see).mono fun v h' ⟨ad,cap,e,o,g⟩=>⟨ad,cap,e,o.row,g⟩
theorem xZ(h:Heap)(mb mp:Nat)(M:Md)(m:Mod h mb mp M)(kd n:Int)(s:ByteArray)(l:List UInt8)(oa:Option Addr)(oc:Nat)(ka:Option Addr)(kn kc:Nat)(hr:Row h (.slice oa l.length oc) l.length 1 (l.map bv))(hsz:s.size ≤9223372036854775807)(kt:bl h)(hE:M.E.length ≤1099511627)(N:Md)(W:An)(hs:step M kd n s l=(N,W)):
    Sat Tryz.prog 17 #[.pointer (some ⟨mb,0,none⟩), .agg #[.int .i64 kd, .string s, .slice oa l.length oc, .int .i64 n, .slice ka kn kc]] h fun v h'=>∃qa qc ia ic pa pc,v=px W (.slice qa W.b.length qc) (.slice ia W.i.length ic) (.slice pa W.p.length pc)∧aC h' (.slice qa W.b.length qc) W.b.length 1 (W.b.map bv)∧aC h' (.slice ia W.i.length ic) W.i.length 1 (W.i.map Value.string)∧aC h' (.slice pa W.p.length pc) W.p.length 32 (hcs W.p)∧aq W.p ∧Mod h' mb mp N∧MG mb mp h h':=by
  have:=pQ h mb mp M m kd n s l oa oc ka kn kc hr hsz kt hE W (by rw[hs])
  rw[hs] at this
  exact this
def kz(k:Nat):Int:=4+k
theorem AV{P:Program}{h:Heap}{a:Addr}{L:List e9}{n c k q:Nat}{x:e9}(hx:L.getD k fC=x)(r:Row h (.slice (some a) n c) L.length 5 (iA L)){T:TypeId}(ht:cG P T=some (true,5))(hk:k<L.length)(hq:q=k*5):
    Loads P h T (a.add q) (.agg #[.int .i64 x.kd, .string x.s, .slice x.oa x.l.length x.oc, .int .i64 x.n, .slice x.ka x.kn x.kc]):=by
  subst hx;exact Row.fm (d:=fC) om r ht hk hq
noncomputable def b9:Code:=Tryz.f9.body.getD .skip
set_option maxHeartbeats 1000000 in
set_option maxRecDepth 10000 in
theorem u2(h:Heap)(kt:bl h):Sat Tryz.prog 9 #[] h fun v h'=>v= .bool true∧Ext h h':=by
 have j:=Ext.refl h
 have X:=kt.lt
 have b:Sep h.size h.size []:=Sep.nil _ _
 refine ag Tryz.func9 103 fun a z=>qP [] z fun a z=>qS z<|tG 0 (BM _ (by have:=j.size;omega)) ?_
 rintro _ L ⟨mb,mp,rfl,B,hb1,hp2,g⟩
 replace j:=j.ext g
 replace kt:=kt.ext g
 replace b:=b.up g.size
 clear g
 have hk3:=B.kb
 have mf:L.size ≤L.size :=Nat.le_refl _
 refine sT [(1,pV mb)] fun a z=>cS<|qP [(14,.bool false)] z fun a z=>cF 14 z<|cN<|tK<|qS z ?_
 refine tN 0 (.slice (some ⟨L.size,0,none⟩) 1 1) #[.int .u8 97] 5 fun h5 g6 u=> ?_
 have lt8:=ak u
 replace b:=b.nw j.size u
 replace mf:=Nat.le_trans mf g6.size
 refine tN 2 (pV h5.size) #[.int .i64 0,.string ByteArray.empty,.slice none 0 0,.int .i64 0,.slice none 0 0] 35 fun h11 Y c=> ?_
 replace j:=j.ext g6
 replace b:=b.nw j.size c
 replace mf:=Nat.le_trans mf Y.size
 refine bA 3 [.int .i64 1,.string (ByteArray.mk #[97]),.slice (some ⟨L.size,0,none⟩) 1 1,.int .i64 0,.slice none 0 0] c fun h17 V zq=> ?_
 replace mf:=Nat.le_trans mf V.1
 replace B:=(B.ext g6).ext Y
 replace B:=B.aO V c (by decide) (by omega)
 replace c:=zq
 refine sT [(2,pV h5.size)] fun a z=>qS z<|tN 1 (pV h17.size) #[.int .i64 0,.string ByteArray.empty,.slice none 0 0,.int .i64 0,.slice none 0 0] 35 fun h19 W d=> ?_
 replace j:=(j.ext Y).grew V (b.l 0)
 have N9:=mf
 replace b:=(b.up V.size).nw j.size d
 replace mf:=Nat.le_trans mf W.size
 refine bA 2 [.int .i64 2,.string (ByteArray.mk #[97]),.slice none 0 0,.int .i64 0,.slice none 0 0] d fun wG M zq=> ?_
 replace mf:=Nat.le_trans mf M.1
 replace B:=B.ext W
 replace B:=B.aO M d (by decide) (by omega)
 replace d:=zq
 refine sT [(3,pV h17.size)] fun a z=>qS z ?_
 replace c:=(c.x W).y M (b.bp 1 0)
 refine tR 1 c ?_
 replace kt:=((((kt.ext g6).ext Y).grew V (b.zero 1 rfl X)).ext W).grew M (b.zero 0 rfl X)
 replace u:=(((u.x Y).y V (b.bp 2 1)).x W).y M (b.bp 2 0)
 refine tG 2 (xZ _ mb mp M0 B 1 0 sA [97] (some ⟨L.size,0,none⟩) 1 none 0 0 (AT u).1 (by decide) kt (by decide) M1 dh (Dr 0)) ?_
 rintro _ vk ⟨J1,J2,J3,J4,pa31,pc32,rfl,_,_,_,_,m2,A⟩
 replace u:=A.blk u (by omega) (by omega)
 replace c:=A.blk c (by omega) (by omega)
 replace d:=A.blk d (by omega) (by omega)
 replace j:=(j.ext W).grew M (b.l 0)
 replace j:=Gr.dj j A (by rintro i (e|e)<;>omega)
 replace kt:=kt.gr A (by rintro(e|e)<;>omega)
 replace b:=b.up M.size
 replace b:=b.up A.1
 replace mf:=Nat.le_trans mf A.1
 clear B;have B:=m2;clear m2 A
 refine tN 3 (pV vk.size) ((b6 0).toArray) 47 fun h35 N k=> ?_
 have N_:=mf
 replace b:=b.nw j.size k
 replace mf:=Nat.le_trans mf N.size
 refine bA 4 (bN (0:Int) (.slice J1 0 J2) dn 0 false false (.slice J3 0 J4) (0:Int) dn (0:Int) (.slice pa31 0 pc32)) k fun vl I zq=> ?_
 replace mf:=Nat.le_trans mf I.1
 replace B:=B.ext N
 replace B:=B.aO I k (by decide) (by omega)
 replace k:=zq
 refine sT [(4,pV vk.size)] fun a z=>qS z ?_
 replace d:=(d.x N).y I (b.bp 1 0)
 refine tR 1 d ?_
 replace kt:=(kt.ext N).grew I (b.zero 0 rfl X)
 refine tG 2 (xZ _ mb mp M1 B 2 0 sA [] none 0 none 0 0 (Row.nil _ _) (by decide) kt (by rw[AQ];decide) M1 (Dq [97]) (xV 0 [])) ?_
 rintro _ h50 ⟨J5,J6,J7,J8,J9,J_,rfl,rb,_,_,_,m2,A⟩
 replace u:=(u.x N).y I (b.bp 3 0)
 replace u:=A.blk u (by omega) (by omega)
 replace c:=(c.x N).y I (b.bp 2 0)
 replace c:=A.blk c (by omega) (by omega)
 replace d:=A.blk d (by omega) (by omega)
 replace k:=A.blk k (by omega) (by omega)
 replace j:=(j.ext N).grew I (b.l 0)
 replace j:=Gr.dj j A (by rintro i (e|e)<;>omega)
 replace kt:=kt.gr A (by rintro(e|e)<;>omega)
 replace b:=b.up I.size
 replace b:=b.up A.1
 replace mf:=Nat.le_trans mf A.1
 clear B;have B:=m2;clear m2 A
 refine tN 3 (pV h50.size) ((b6 0).toArray) 47 fun y7 J m=> ?_
 have N':=mf
 replace b:=b.nw j.size m
 refine bA 4 (bN (0:Int) (.slice J5 1 J6) dn 0 false false (.slice J7 0 J8) (0:Int) dn (0:Int) (.slice J9 0 J_)) m fun h57 F zq=> ?_
 replace B:=B.ext J
 replace B:=B.aO F m (by decide) (by omega)
 replace rb:=rb.ext J
 replace rb:=rb.aO F m (by decide)
 replace m:=zq
 refine sT [(5,pV h50.size)] fun a z=>qS z ?_
 replace c:=(c.x J).y F (b.bp 3 0)
 refine tR 1 c ?_
 replace kt:=(kt.ext J).grew F (b.zero 0 rfl X)
 replace u:=(u.x J).y F (b.bp 4 0)
 refine tG 2 (xZ _ mb mp M1 B 1 0 sA [97] (some ⟨L.size,0,none⟩) 1 none 0 0 (AT u).1 (by decide) kt (by rw[AQ];decide) M1 (b8 212) (aO 0)) ?_
 rintro _ Hj ⟨Ka,Kb,Kc,Kd,Ke,Kf,rfl,_,_,_,_,m2,A⟩
 replace u:=A.blk u (by omega) (by omega)
 replace c:=A.blk c (by omega) (by omega)
 replace d:=(d.x J).y F (b.bp 2 0)
 replace d:=A.blk d (by omega) (by omega)
 replace k:=(k.x J).y F (b.bp 1 0)
 replace k:=A.blk k (by omega) (by omega)
 replace m:=A.blk m (by omega) (by omega)
 replace rb:=rb.uy A B
 replace j:=(j.ext J).grew F (b.l 0)
 replace j:=Gr.dj j A (by rintro i (e|e)<;>omega)
 replace kt:=kt.gr A (by rintro(e|e)<;>omega)
 replace b:=b.up F.size
 replace b:=b.up A.1
 clear B;have B:=m2;clear m2 A
 refine tN 3 (pV Hj.size) ((b6 0).toArray) 47 fun IX K o=> ?_
 replace b:=b.nw j.size o
 refine bA 4 (bN (212:Int) (.slice Ka 0 Kb) dn 0 false false (.slice Kc 0 Kd) (0:Int) dn (0:Int) (.slice Ke 0 Kf)) o fun zu G zq=> ?_
 replace rb:=rb.ext K
 replace rb:=rb.aO G o (by decide)
 replace o:=zq
 refine sT [(6,pV Hj.size)] fun a z=>qS z ?_
 replace c:=(c.x K).y G (b.bp 4 0)
 refine tR 0 c ?_
 replace d:=(d.x K).y G (b.bp 3 0)
 refine tR 1 d<|tN 2 (.slice (some ⟨zu.size,0,none⟩) 2 2) #[.int .i64 1,.string (ByteArray.mk #[97]),.slice (some ⟨L.size,0,none⟩) 1 1,.int .i64 0,.slice none 0 0,.int .i64 2,.string (ByteArray.mk #[97]),.slice none 0 0,.int .i64 0,.slice none 0 0] 35 fun Ax H Z=> ?_
 replace j:=(j.ext K).grew G (b.l 0)
 replace b:=(b.up G.size).nw j.size Z
 refine tN 4 (.slice (some ⟨Ax.size,0,none⟩) 1 1) #[.int .u8 98] 5 fun LZ D Gm=> ?_
 replace j:=j.ext H
 replace b:=b.nw j.size Gm
 refine tN 6 (.slice (some ⟨LZ.size,0,none⟩) 2 2) ((bI [e_,aByte 98 Ax.size]).toArray) 47 fun h87 C C3=> ?_
 replace j:=j.ext D
 replace b:=b.nw j.size C3
 replace kt:=((((kt.ext K).grew G (b.zero 3 rfl X)).ext H).ext D).ext C
 replace u:=((((u.x K).y G (b.bp 8 3)).x H).x D).x C
 replace Z:=(Z.x D).x C
 replace Gm:=Gm.x C
 refine tG 7 (gJ _ [jK L.size,fe] [e_,aByte 98 Ax.size] 2 _ _ _ _ JD rD (Row.blk (n:=2) (sz:=5) (l:=iA [jK L.size,fe]) Z rfl) rfl (Row.blk (n:=2) (sz:=75) (l:=bI [e_,aByte 98 Ax.size]) C3 rfl) rfl kt (by decide) rfl (JT u Gm) [(1,2)] JX) ?_
 rintro _ h95 ⟨Gn,BO,rfl,rL,g⟩
 replace k:=((((k.x K).y G (b.bp 5 3)).x H).x D).x C
 replace m:=((((m.x K).y G (b.bp 4 3)).x H).x D).x C
 replace rb:=((rb.ext H).ext D).ext C
 replace c:=((c.x H).x D).x C
 replace d:=((d.x H).x D).x C
 replace o:=((o.x H).x D).x C
 replace j:=j.ext C
 replace j:=j.ext g
 replace kt:=kt.ext g
 replace rb:=rb.ext g
 replace u:=u.x g
 replace c:=c.x g
 replace d:=d.x g
 replace k:=k.x g
 replace m:=m.x g
 replace o:=o.x g
 clear g
 clear Z
 clear Gm
 clear C3
 clear B
 refine sT [(7,.slice Gn 1 BO)] fun a z=>qS z<|tR 0 d<|tN 1 (.slice (some ⟨h95.size,0,none⟩) 1 1) #[.int .i64 2,.string (ByteArray.mk #[97]),.slice none 0 0,.int .i64 0,.slice none 0 0] 35 fun Ev E vL=>tN 3 (.slice (some ⟨Ev.size,0,none⟩) 1 1) ((bI [aX 2]).toArray) 47 fun Kg r Gp=> ?_
 replace j:=j.ext E
 replace kt:=(kt.ext E).ext r
 replace vL:=vL.x r
 refine tG 4 (gJ _ [fe] [aX 2] 1 _ _ _ _ JE rE (Row.blk (n:=1) (sz:=5) (l:=iA [fe]) vL rfl) rfl (Row.blk (n:=1) (sz:=75) (l:=bI [aX 2]) Gp rfl) rfl kt (by decide) rfl (JU _) [(0,1)] JY) ?_
 rintro _ Ad ⟨BP,O,rfl,x0,g⟩
 replace rb:=(rb.ext E).ext r
 replace rL:=(rL.ext E).ext r
 replace u:=(u.x E).x r
 replace c:=(c.x E).x r
 replace d:=(d.x E).x r
 replace k:=(k.x E).x r
 replace m:=(m.x E).x r
 replace o:=(o.x E).x r
 replace j:=j.ext r
 replace j:=j.ext g
 replace kt:=kt.ext g
 replace rb:=rb.ext g
 replace rL:=rL.ext g
 replace u:=u.x g
 replace c:=c.x g
 replace d:=d.x g
 replace k:=k.x g
 replace m:=m.x g
 replace o:=o.x g
 clear g
 clear vL
 clear Gp
 refine sT [(8,.slice BP 1 O)] fun a z=>qS z<|tR 1 c<|tR 3 d<|tR 4 d<|tN 5 (.slice (some ⟨Ad.size,0,none⟩) 5 5) #[.int .i64 12,.string ByteArray.empty,.slice none 0 0,.int .i64 0,.slice none 0 0,.int .i64 1,.string (ByteArray.mk #[97]),.slice (some ⟨L.size,0,none⟩) 1 1,.int .i64 0,.slice none 0 0,.int .i64 13,.string ByteArray.empty,.slice none 0 0,.int .i64 0,.slice none 0 0,.int .i64 2,.string (ByteArray.mk #[97]),.slice none 0 0,.int .i64 0,.slice none 0 0,.int .i64 2,.string (ByteArray.mk #[97]),.slice none 0 0,.int .i64 0,.slice none 0 0] 35 fun P s Q=>tN 9 (.slice (some ⟨P.size,0,none⟩) 1 1) #[.int .u8 97] 5 fun vO q R=> ?_
 replace j:=j.ext s
 refine tN 12 (.slice (some ⟨vO.size,0,none⟩) 5 5) ((bI [e_,aX 2,e_,aByte 97 P.size,aX 211]).toArray) 47 fun Oa p Gq=> ?_
 replace j:=j.ext q
 replace kt:=((kt.ext s).ext q).ext p
 replace u:=((u.x s).x q).x p
 replace Q:=(Q.x q).x p
 replace R:=R.x p
 refine tG 13 (gJ _ [ew 12,jK L.size,ew 13,fe,fe] [e_,aX 2,e_,aByte 97 P.size,aX 211] 5 _ _ _ _ AU rF (Row.blk (n:=5) (sz:=5) (l:=iA [ew 12,jK L.size,ew 13,fe,fe]) Q rfl) rfl (Row.blk (n:=5) (sz:=75) (l:=bI [e_,aX 2,e_,aByte 97 P.size,aX 211]) Gq rfl) rfl kt (by decide) rfl (JV u R) [(4,1)] JZ) ?_
 rintro _ Kh ⟨tj,S,rfl,vp,g⟩
 replace rb:=((rb.ext s).ext q).ext p
 replace rL:=((rL.ext s).ext q).ext p
 replace x0:=((x0.ext s).ext q).ext p
 replace c:=((c.x s).x q).x p
 replace d:=((d.x s).x q).x p
 replace k:=((k.x s).x q).x p
 replace m:=((m.x s).x q).x p
 replace o:=((o.x s).x q).x p
 replace j:=j.ext p
 replace j:=j.ext g
 replace kt:=kt.ext g
 replace rb:=rb.ext g
 replace rL:=rL.ext g
 replace x0:=x0.ext g
 replace u:=u.x g
 replace c:=c.x g
 replace d:=d.x g
 replace k:=k.x g
 replace m:=m.x g
 replace o:=o.x g
 clear g
 clear Q
 clear R
 clear Gq
 refine sT [(9,.slice tj 1 S)] fun a z=>qS z<|tR 1 c<|tR 3 d<|tN 4 (.slice (some ⟨Kh.size,0,none⟩) 4 4) #[.int .i64 12,.string ByteArray.empty,.slice none 0 0,.int .i64 0,.slice none 0 0,.int .i64 1,.string (ByteArray.mk #[97]),.slice (some ⟨L.size,0,none⟩) 1 1,.int .i64 0,.slice none 0 0,.int .i64 13,.string ByteArray.empty,.slice none 0 0,.int .i64 0,.slice none 0 0,.int .i64 2,.string (ByteArray.mk #[97]),.slice none 0 0,.int .i64 0,.slice none 0 0] 35 fun Ki w T=>tN 9 (.slice (some ⟨Ki.size,0,none⟩) 4 4) ((bI [e_,aX 2,e_,aX 211]).toArray) 47 fun Oc t Gs=> ?_
 replace j:=j.ext w
 replace kt:=(kt.ext w).ext t
 replace u:=(u.x w).x t
 replace T:=T.x t
 refine tG 10 (gJ _ [ew 12,jK L.size,ew 13,fe] [e_,aX 2,e_,aX 211] 4 _ _ _ _ JG rG (Row.blk (n:=4) (sz:=5) (l:=iA [ew 12,jK L.size,ew 13,fe]) T rfl) rfl (Row.blk (n:=4) (sz:=75) (l:=bI [e_,aX 2,e_,aX 211]) Gs rfl) rfl kt (by decide) rfl (JW u) [] J0) ?_
 rintro _ AW ⟨Gt,Dx,rfl,rd3,g⟩
 replace rb:=(rb.ext w).ext t
 replace rL:=(rL.ext w).ext t
 replace x0:=(x0.ext w).ext t
 replace vp:=(vp.ext w).ext t
 replace k:=(k.x w).x t
 replace m:=(m.x w).x t
 replace o:=(o.x w).x t
 replace j:=j.ext t
 replace j:=j.ext g
 replace rb:=rb.ext g
 replace rL:=rL.ext g
 replace x0:=x0.ext g
 replace vp:=vp.ext g
 replace k:=k.x g
 replace m:=m.x g
 replace o:=o.x g
 clear g
 clear T
 clear Gs
 refine sT [(10,.slice Gt 0 Dx)] fun a z=>qS z<|tO 1 0 k<|tO 5 1 m<|tC 6 (.string (ByteArray.mk #[97])) (Calm.str (l:=[97]) (by kernel_rfl) rb.1)<|t1 7 (.bool true) (.bool ((ByteArray.mk #[97]).toList ==(ByteArray.mk #[97]).toList)) (congrArg Value.bool (by simp))<|tO 11 0 o ?_
 refine sT [(11,.bool true)] fun a z=>qS z<|tN 4 (.slice (some ⟨AW.size,0,none⟩) 1 1) #[.int .i64 1,.int .i64 2] 52 fun Dy U Kj=> ?_
 replace rL:=rL.ext U
 refine tC 5 (.bool true) (Does.call (f:=14) (args:= #[.slice Gn 1 BO,.slice (some ⟨AW.size,0,none⟩) 1 1]) (by kernel_rfl) (j7 _ (1,2) _ _ _ _ rL (Row.blk (n:=1) (sz:=2) (l:=eu [(1,2)]) Kj rfl)))<|tN 10 (.slice (some ⟨Dy.size,0,none⟩) 1 1) #[.int .i64 0,.int .i64 1] 52 fun Gu Dz Kk=> ?_
 replace j:=j.ext U
 replace x0:=(x0.ext U).ext Dz
 refine tC 11 (.bool true) (Does.call (f:=14) (args:= #[.slice BP 1 O,.slice (some ⟨Dy.size,0,none⟩) 1 1]) (by kernel_rfl) (j7 _ (0,1) _ _ _ _ x0 (Row.blk (n:=1) (sz:=2) (l:=eu [(0,1)]) Kk rfl)))<|tN 16 (.slice (some ⟨Gu.size,0,none⟩) 1 1) #[.int .i64 4,.int .i64 1] 52 fun Gv lN x3=> ?_
 replace j:=j.ext Dz
 replace vp:=((vp.ext U).ext Dz).ext lN
 refine tC 17 (.bool true) (Does.call (f:=14) (args:= #[.slice tj 1 S,.slice (some ⟨Gu.size,0,none⟩) 1 1]) (by kernel_rfl) (j7 _ (4,1) _ _ _ _ vp (Row.blk (n:=1) (sz:=2) (l:=eu [(4,1)]) x3 rfl)))<|sT [(0,.bool true)] fun a z=>cR<|rT 0 (.bool true) z ?_
 replace j:=j.ext lN
 exact⟨rfl,j⟩
noncomputable def b16:Code:=Tryz.f16.body.getD .skip
theorem DA(h:Heap)(hk0:0<h.size):Sat Tryz.prog 16 #[] h fun v h'=>∃b,v= .pointer (some ⟨b,0,none⟩)∧bB (fun _=>False) h' b ⟨fun _=>none,[],0⟩∧h.size ≤b∧Ext h h':=by
 have d:=Ext.refl h
 refine ag Tryz.func16 3 fun a c=>qP [] c fun a c=>qS c<|tN 1 (pV h.size) #[.slice none 0 0,.slice none 0 0,.int .i64 0] 86 fun g e f=>sT [(0,pV h.size)] fun a c=>cR<|rT 0 (pV h.size) c ?_
 replace d:=d.ext e
 exact⟨_,rfl,bD.new f hk0,Nat.le_refl _,d⟩
noncomputable def b21:Code:=Tryz.f21.body.getD .skip
noncomputable def b46:Code:=Tryz.f46.body.getD .skip
theorem u3(h:Heap)(x:RB)(e:Int)(ho go:Bool)(c:Value):Sat Tryz.prog 46 #[.agg (rc x e ho go (c)).toArray] h fun v h'=>v= .agg (vn x e ho go).toArray ∧Ext h h':=by
 have f:=Ext.refl h
 have b:Sep h.size h.size []:=Sep.nil _ _
 refine ag Tryz.func46 16 fun a g=>qS g<|tN 0 (pV h.size) ((rc x e ho go (c)).toArray) 95 fun j m d=> ?_
 replace b:=b.nw f.size d
 refine tN 1 (pV j.size) ((vn dn 0 false false).toArray) 41 fun p k i=> ?_
 replace f:=f.ext m
 replace b:=b.nw f.size i
 refine sT [(1,pV h.size),(2,pV j.size)] fun a g=>qS g ?_
 replace d:=d.x k
 refine tO 1 1 d<|tQ 3 2 ((hl x).map bv) d<|tO 5 34 d<|tO 7 35 d<|tO 9 36 d<|tO 11 37 d<|bA 13 (vn x e ho go) i fun q n o=> ?_
 replace i:=o
 refine sT [] fun a g=>cR<|rB i g ?_
 replace f:=(f.ext k).grew n (b.l 0)
 exact⟨rfl,f⟩
noncomputable def b78:Code:=Tryz.f78.body.getD .skip
theorem kQ {W:Nat→Prop}(h:Heap)(rb:Nat)(M:Md)(T:List RO)(oa:Option Addr)(oc:Nat)(ea:Option Addr)(ec:Nat)(es:List Value)(md:bD W h rb M T oa oc ea ec es)(s:ByteArray)(k:Nat)(r:Bool)(hat:AtP T s k r)(hE:M.E.length ≤1099511627):Sat Tryz.prog 78 #[.pointer (some ⟨rb,0,none⟩),.string s] h fun v h'=>v= .tuple #[.int .i64 ((k:Nat):Int),.bool r]∧h'=h:=by
 have hm:=md.hm
 have hLn:=md.ln
 refine ag Tryz.func78 50 fun a c=>qP [] c fun a c=>qP [(6,.int .i64 0)] c fun a c=>cS<|cB 0<|cL (fun m a h'=>∃i:Nat,m=k - i∧(h=h')∧(i≤k)∧(Fr a 50 [(0,.pointer (some ⟨rb,0,none⟩)),(1,.string s),(6,.int .i64 ((i:Nat):Int))])) (k - 0) ⟨0,rfl,rfl,(Nat.zero_le _),c.to⟩ ?_
 clear c a
 rintro m a d ⟨i,rfl,hh,hi,c⟩
 subst hh
 refine cS<|cS ?_
 rcases hat.step hi with⟨hik,hiT,x,hx,hxl⟩|⟨hik,hiT,hr⟩|⟨hik,hiT,x,hx,hxl,hr⟩
 ·have hFn:=c
  obtain⟨ao,rfl,fM⟩:=md.row.1.bg (by omega)
  have c:=hFn;clear hFn
  refine rS c<|tO 4 0 (md.hm)<|tT 6 (((i:Nat):Int)<((T.length :Nat):Int))<|tO 11 0 (md.hm)<|tI 13 ao T.length 40 i (i*40)<|t1 14 (.pointer (some (Addr.add ao (i*40)))) (.pointer (some ((Addr.add ao (i*40)).add 0))) (by rw[add_add,Nat.add_zero])<|t1 15 (.pointer (some (Addr.add ao (i*40)))) (.pointer (some ((Addr.add ao (i*40)).add 0))) (by rw[add_add,Nat.add_zero]) ?_
  refine tC 16 (.string x.o.b.id) (Calm.load (T:=9) (p:=(Addr.add ao (i*40))) (by kernel_rfl) (Loads.one (k:=1) (by kernel_rfl) (Row.wV (md.row.1) hx)))<|t1 18 (.bool true) (.bool (Op.bytesLess x.o.b.id.toList s.toList)) (congrArg Value.bool (wj hxl))<|sE [(26,.bool true)] fun a c=>tK<|cT 26 c<|cN<|tK ?_
  refine cB 1<|rS c<|tA 1 i 1<|sE [(6,nV (i+1))] fun a c=>bK ?_
  show ∃m',m'<_∧_
  refine⟨_,?_,(i+1),rfl,rfl,(by omega),c.to⟩
  omega
 ·refine rS c<|tO 4 0 (md.hm)<|tX 6 (((i:Nat):Int)<((T.length :Nat):Int))<|sE [(26,.bool false)] fun a c=>tK<|cF 26 c<|cX 0 (xT (xT (xB ?_)))
  refine tK<|cS<|cD [0,0,0,4,12,28,60,126,254,510,1022,2046,4094,510,16382,32766,65534,131070,510,524286,1048574,511,4194303] 4 mixed c<|mP 31 [0,1,2,3,4] [nV i,nV i,pV rb,pV rb,pV rb]<|mO 63 32 5 0 (.slice oa T.length oc) (md.hm)<|mP 127 [6] [nV T.length]<|KU 255 7 (((i:Nat):Int)<((T.length :Nat):Int)) ?_
  refine mP 8388607 [8,9,10,11,12,13,14,15,16,17,18,19,20,21,22] [.bool false,undef,undef,undef,undef,undef,undef,undef,undef,undef,undef,undef,.bool false,nV i,.bool false]<|mE [(4,nV i),(5,.bool false)] fun a c=>tK<|cR<|aI [.tmp 4,.tmp 5] [.int .i64 ((i:Nat):Int),.bool false] (.tuple #[.int .i64 ((i:Nat):Int),.bool false]) rfl c ⟨rfl,rfl,trivial⟩ rfl ?_
  subst hik
  exact⟨by rw[hr],rfl⟩
 ·have hFn:=c
  obtain⟨ao,rfl,fM⟩:=md.row.1.bg (by omega)
  have c:=hFn;clear hFn
  refine rS c<|tO 4 0 (md.hm)<|tT 6 (((i:Nat):Int)<((T.length :Nat):Int))<|tO 11 0 (md.hm)<|tI 13 ao T.length 40 i (i*40)<|t1 14 (.pointer (some (Addr.add ao (i*40)))) (.pointer (some ((Addr.add ao (i*40)).add 0))) (by rw[add_add,Nat.add_zero])<|t1 15 (.pointer (some (Addr.add ao (i*40)))) (.pointer (some ((Addr.add ao (i*40)).add 0))) (by rw[add_add,Nat.add_zero]) ?_
  refine tC 16 (.string x.o.b.id) (Calm.load (T:=9) (p:=(Addr.add ao (i*40))) (by kernel_rfl) (Loads.one (k:=1) (by kernel_rfl) (Row.wV (md.row.1) hx)))<|t1 18 (.bool false) (.bool (Op.bytesLess x.o.b.id.toList s.toList)) (congrArg Value.bool (sH hxl))<|sE [(26,.bool false)] fun a c=>tK<|cF 26 c<|cX 0 (xT (xT (xB ?_)))
  refine tK<|cS<|cD [0,0,0,4,12,28,60,126,254,510,1022,2046,4094,510,16382,32766,65534,131070,510,524286,1048574,511,4194303] 4 mixed c<|mP 31 [0,1,2,3,4] [nV i,nV i,pV rb,pV rb,pV rb]<|mO 63 32 5 0 (.slice (some ao) T.length oc) (md.hm)<|mP 127 [6] [nV T.length]<|KT 255 7 (((i:Nat):Int)<((T.length :Nat):Int)) ?_
  refine mP 4095 [8,9,10,11] [.bool true,pV rb,pV rb,pV rb]<|mO 8191 4128 12 0 (.slice (some ao) T.length oc) (md.hm)<|mP 16383 [13] [nV i]<|mI 32767 14 ao T.length 40 i (i*40)<|m1 65535 15 (.pointer (some (Addr.add ao (i*40)))) (.pointer (some ((Addr.add ao (i*40)).add 0))) (by rw[add_add,Nat.add_zero])<|m1 131071 16 (.pointer (some (Addr.add ao (i*40)))) (.pointer (some ((Addr.add ao (i*40)).add 0))) (by rw[add_add,Nat.add_zero])<|mL 262143 135200 17 (.string x.o.b.id) (Calm.load (T:=9) (p:=(Addr.add ao (i*40))) (by kernel_rfl) (Loads.one (k:=1) (by kernel_rfl) (Row.wV (md.row.1) hx))) ?_
  refine mP 524287 [18] [.string s]<|m1 1048575 19 (.bool r) (.bool (x.o.b.id.toList ==s.toList)) (congrArg Value.bool ((ju _ _).trans hr))<|mP 8388607 [20,21,22] [.bool r,nV i,.bool r]<|mE [(4,nV i),(5,.bool r)] fun a c=>tK<|cR<|aI [.tmp 4,.tmp 5] [.int .i64 ((i:Nat):Int),.bool r] (.tuple #[.int .i64 ((i:Nat):Int),.bool r]) rfl c ⟨rfl,rfl,trivial⟩ rfl ?_
  subst hik
  exact⟨rfl,rfl⟩
noncomputable def b80:Code:=Tryz.f80.body.getD .skip
theorem dT {W:Nat→Prop}(h:Heap)(rb:Nat)(M:Md)(T:List RO)(oa:Option Addr)(oc:Nat)(ea:Option Addr)(ec:Nat)(es:List Value)(md:bD W h rb M T oa oc ea ec es)(s:ByteArray)(hsz:s.size ≤9223372036854775807)(q:Nat)(e:Int)(hq:M3 T s q e)(hE:M.E.length ≤1099511627):Sat Tryz.prog 80 #[.pointer (some ⟨rb,0,none⟩),.string s] h fun v h'=>v= .tuple #[.int .i64 ((q:Nat):Int),.int .i64 e]∧h'=h:=by
 refine ag Tryz.func80 20 fun a b=>qP [] b fun a b=>cS<|cS ?_
 rcases hq with⟨hok,rfl,rfl⟩|⟨hok,⟨k,hat⟩,rfl,rfl⟩|⟨hok,hat,rfl⟩
 ·refine rS b<|tC 1 (.bool false) (Does.call (f:=27) (args:= #[.string s]) (by kernel_rfl) (lK _ s hsz hok))<|sE [(10,.bool true)] fun a b=>tK<|cT 10 b<|qP [(4,.int .i64 0),(5,.int .i64 210)] b fun a b=>cR (yT ?_)
  exact aI [.tmp 4,.tmp 5] [.int .i64 0,.int .i64 210] (.tuple #[.int .i64 0,.int .i64 210]) rfl b ⟨rfl,rfl,trivial⟩ rfl<|⟨rfl,rfl⟩
 ·refine rS b<|tC 1 (.bool true) (Does.call (f:=27) (args:= #[.string s]) (by kernel_rfl) (dS _ s hok))<|sE [(10,.bool false)] fun a b=>tK<|cF 10 b<|cN<|tK ?_
  refine qS b<|tC 2 (.tuple #[nV k,.bool false]) (Does.call (f:=78) (args:= #[pV rb,.string s]) (by kernel_rfl) (kQ _ rb M T oa oc ea ec es md s k false hat hE))<|sT [(6,nV k),(7,.bool false)] fun a b=>cS<|qP [(18,.bool true)] b fun a b=>cT 18 b<|qP [(4,.int .i64 0),(5,.int .i64 211)] b fun a b=> ?_
  refine cR (yT ?_)
  exact aI [.tmp 4,.tmp 5] [.int .i64 0,.int .i64 211] (.tuple #[.int .i64 0,.int .i64 211]) rfl b ⟨rfl,rfl,trivial⟩ rfl<|⟨rfl,rfl⟩
 ·refine rS b<|tC 1 (.bool true) (Does.call (f:=27) (args:= #[.string s]) (by kernel_rfl) (dS _ s hok))<|sE [(10,.bool false)] fun a b=>tK<|cF 10 b<|cN<|tK ?_
  refine qS b<|tC 2 (.tuple #[nV q,.bool true]) (Does.call (f:=78) (args:= #[pV rb,.string s]) (by kernel_rfl) (kQ _ rb M T oa oc ea ec es md s q true hat hE))<|sT [(6,nV q),(7,.bool true)] fun a b=>cS<|qP [(18,.bool false)] b fun a b=>cF 18 b<|cN ?_
  exact tK<|qP [(4,nV q),(5,.int .i64 0)] b fun a b=>cR<|aI [.tmp 4,.tmp 5] [.int .i64 ((q:Nat):Int),.int .i64 0] (.tuple #[.int .i64 ((q:Nat):Int),.int .i64 0]) rfl b ⟨rfl,rfl,trivial⟩ rfl<|⟨rfl,rfl⟩
noncomputable def b84:Code:=Tryz.f84.body.getD .skip
theorem lO {W:Nat→Prop}(h:Heap)(rb:Nat)(M:Md)(A B:List RO)(x:RO)(oa:Option Addr)(oc:Nat)(ea:Option Addr)(ec:Nat)(es:List Value)(md:bD W h rb M (A++x::B) oa oc ea ec es)(e:Int)(ho go:Bool)(ca:Option Addr)(cc:Nat)(hr:Row h (.slice ca 0 cc) 0 4 (da []))(hE:M.E.length ≤1099511627):Sat Tryz.prog 84 #[.pointer (some ⟨rb,0,none⟩),.int .i64 ((A.length :Nat):Int),.agg (rc x.o.b e ho go (.slice ca 0 cc)).toArray] h fun _ h'=>bB W h' rb ⟨upd M.f x.o.b.id ⟨x.o.b,e,ho,go,x.o.dt⟩,M.E,M.t⟩∧RG rb h h':=by
 have hm:=md.hm
 have hbr:=ak hm
 have hLn:=md.ln
 have G:A.length <(A++x::B).length :=wU
 have g:=Ext.refl h
 have d:Sep h.size h.size []:=Sep.nil _ _
 refine ag Tryz.func84 23 fun a k=>qS k<|tN 0 (pV h.size) ((rc x.o.b e ho go (.slice ca 0 cc)).toArray) 95 fun v H m=> ?_
 replace d:=d.nw g.size m
 refine sT [(5,pV h.size)] fun a k=>qS k<|tN 1 (.slice (some ⟨v.size,0,none⟩) 0 0) #[] 97 fun D F w=> ?_
 replace g:=g.ext H
 replace d:=d.nw g.size w
 have c:Own D (.slice (some ⟨v.size,0,none⟩) 0 0) 97 ([]:List RO).length 40 (bz []):=Own.empty 40 w
 replace d:Sep h.size D.size [(some ⟨v.size,0,none⟩:Option Addr).map (·.block),some (h.size)]:=d
 replace g:=g.ext F
 replace m:=m.x F
 clear w
 refine tO 5 0 (g.blk hm)<|tP 6 ((A++x::B).length) 128 (bz (A++x::B)) c (md.row.1.ext g) (dR _) (fun I j J c z n=> ?_) (ys:=(bz (A++x::B))) (hZ:=by first|rfl|exact List.flatMap_append.symm |simp[bz])
 have p:=d
 replace d:=d.sa z 0 n c g.size;clear n
 have hFn:=k
 obtain⟨ao,rfl,fM⟩:=c.bg C_
 have k:=hFn;clear hFn
 replace g:=g.grew z (p.l 0)
 replace m:=m.y z (p.bp 1 0)
 refine tW 9 0 [.slice (some ao) ((A++x::B).length) j] [.slice oa ((A++x::B).length) oc,.slice ea M.E.length ec,.int .i64 M.t] [.slice (some ao) ((A++x::B).length) j,.slice ea M.E.length ec,.int .i64 M.t] (g.blk hm) (fun C r hmD=> ?_)
 have u:RG rb h C:=RG.one g r
 replace c:=c.kept r (by rw[af];right;intro e;have:=d.low 0 rfl _ e;omega)
 replace m:=r.blk m (fun e=>by have:=d.low 1 rfl _ rfl;cases e;omega)
 replace d:=d.up r.1
 have hm2:=hmD;clear hmD r
 refine sT [] fun a k=>cD [0,1,3,7,0,0,63,127,255] 2 mixed k<|mP 7 [0,1,2] [pV rb,pV rb,pV rb]<|mO 15 8 3 0 (.slice (some ao) ((A++x::B).length) j) hm2<|mP 31 [4] [nV A.length]<|mR 63 40 5 m<|mI 127 6 ao ((A++x::B).length) 40 A.length (A.length *40) ?_
 refine m1 255 7 (.pointer (some (Addr.add ao (A.length *40)))) (.pointer (some ((Addr.add ao (A.length *40)).add 0))) (by rw[add_add,Nat.add_zero])<|iO 511 511 8 (Does.cZ (a:=ao) (q:=A.length *40) (vs:=(rc x.o.b e ho go (.slice ca 0 cc))) (by kernel_rfl) c (by show A.length *40+39≤(A++x::B).length *40;simp;omega) (dG ⟨x.o.b,e,ho,go,ca,0,cc⟩)) ?_
 rintro _ K ⟨rfl,c,s⟩
 rw[uD] at c
 refine mE [] fun a k=>n0 k ?_
 replace u:=u.bX s (fun i e=> .inr (by have:=d.low 0 rfl i e;omega))
 replace hm2:=s.blk hm2 (fun e=>by have:=d.low 0 rfl _ e.symm;omega)
 exact⟨md.set u hm2 (jE.of c) rfl rfl rfl rfl (hr.zero rfl),u⟩
noncomputable def b42:Code:=Tryz.f42.body.getD .skip
theorem lP(h:Heap)(L:List Hs)(va:Option Addr)(vc n:Nat)(hL:HR h va vc n L)(hn:n≤1099511627000)(ih:∀(h':Heap) (L':List Hs) (Ag:Option Addr) (jO n':Nat),n'<n→HR h' Ag jO n' L'→Sat Tryz.prog 42 #[.slice Ag n' jO] h' fun v k=>v=hv (root L')∧Ext h' k):Sat Tryz.prog 42 #[.slice va n vc] h fun v h'=>v=hv (root L)∧Ext h h':=by
 have hLn:=hL.2.2
 have c:=Ext.refl h
 have g:Sep h.size h.size []:=Sep.nil _ _
 refine ag Tryz.func42 26 fun a d=>qS d<|tN 0 (pV h.size) ((z32.map bv).toArray) 39 fun D t e=> ?_
 replace g:=g.nw c.size e
 refine sT [(2,pV h.size)] fun a d=>cS<|qP [(6,.bool (decide (((n:Nat):Int)=(0:Int))))] d fun a d=>cJ 6 d (fun u=> ?_) fun u=> ?_
 ·refine qS d<|tG 0 (q5 _ [] 0 none 0 (Row.nil _ 1) rfl (by decide)) ?_
  rintro _ E ⟨rfl,B⟩
  replace e:=e.x B
  refine tF 1 (Does.store (b:=h.size) (off:=0) (vs:=(sha []).map bv) (l:=z32.map bv) (bn (by kernel_rfl) (hlm rfl)) e (hfit rfl rfl) (aE _)) ?_
  rintro _ C ⟨rfl,hh⟩
  have F:Grew (some (h.size)) E C:=bC hh
  replace e:C[h.size]? =some (.cells ((sha []).map bv).toArray 39):=bR (off:=0) (vs:=(sha []).map bv) (l:=(z32.map bv)) hh (ct rfl rfl) e
  clear hh
  refine sT [] fun a d=>cR (yT ?_)
  refine aI [.cell 2 39] [.agg ((sha []).map bv).toArray] (.agg ((sha []).map bv).toArray) rfl d ⟨⟨_,rfl,Loads.hash (by kernel_rfl) rfl e⟩,trivial⟩ rfl ?_
  replace c:=((c.ext t).ext B).grew F (g.l 0)
  exact⟨congrArg hv (uc (by omega)),c⟩
 ·refine cN<|tK<|cS<|qP [(10,.bool (decide (((n:Nat):Int)=(1:Int))))] d fun a d=>cJ 10 d (fun w=> ?_) fun w=> ?_
  ·obtain⟨aa,rfl,hcap⟩:=hL.bg (by omega)
   refine qS d<|tI 1 aa n 32 0 0 ?_
   replace c:=c.ext t
   refine tC 2 (.agg ((L.getD 0 []).map bv).toArray) (Calm.load (T:=39) (p:=aa) (by kernel_rfl) (HR.loads (k:=0) (q:=0) (hL.ext c) (by kernel_rfl) (by omega) (by omega)))<|tF 3 (Does.store (b:=h.size) (off:=0) (vs:=(L.getD 0 []).map bv) (l:=z32.map bv) (bn (by kernel_rfl) (hlm (hL.2.1.get (k:=0) (by rw[hL.2.2];omega)))) e (hfit rfl (hL.2.1.get (k:=0) (by rw[hL.2.2];omega))) (aE _)) ?_
   rintro _ i ⟨rfl,hh⟩
   have y:Grew (some (h.size)) D i:=bC hh
   replace e:i[h.size]? =some (.cells ((L.getD 0 []).map bv).toArray 39):=bR (off:=0) (vs:=(L.getD 0 []).map bv) (l:=(z32.map bv)) hh (ct rfl (hL.2.1.get (k:=0) (by rw[hL.2.2];omega))) e
   clear hh
   refine sT [] fun a d=>cR (yT ?_)
   refine aI [.cell 2 39] [.agg ((L.getD 0 []).map bv).toArray] (.agg ((L.getD 0 []).map bv).toArray) rfl d ⟨⟨_,rfl,Loads.hash (by kernel_rfl) (hL.2.1.get (k:=0) (by rw[hL.2.2];omega)) e⟩,trivial⟩ rfl ?_
   replace c:=c.grew y (g.l 0)
   exact⟨congrArg hv (ud (by omega)),c⟩
  ·obtain⟨aa,rfl,hcap⟩:=hL.bg (by omega)
   have LI:=dW (n:=n) (by omega)
   have LJ:=dE n
   obtain⟨j,dO⟩:∃x,x=if vc=half n then (some aa:Option Addr) else (some aa:Option Addr).map (·.add (half n*32)):=⟨_,rfl⟩
   refine cN<|tK<|qS d<|tC 2 (nV (half n)) (Does.call (f:=87) (args:= #[nV n]) (by kernel_rfl) (m_ _ n (by omega) (by omega)))<|sT [(3,nV (half n))] fun a d=>cS<|cD [0,0,3,7,0,0,48,127,255,511] 6 mixed d ?_
   refine mP 3 [0,1] [.slice (some aa) n vc,nV (half n)]<|mF 7 2 (.slice (some aa) (half n) vc) (fun h=>Calm.b7 (a:=(some aa)) (len:=n) (cap:=vc) (sz:=32) (x:=(some aa)) 0 (half n) vc (half n) vc (by kernel_rfl) (.inl ⟨rfl,rfl⟩) (.inr rfl) (.inl ⟨rfl,rfl⟩) (by omega) (by omega) (eO _ 32) (by first|rfl|omega) (by first|rfl|omega) h)<|mP 55 [4,5] [.slice (some aa) n vc,nV (half n)]<|mF 119 6 (.slice j (n - half n) (vc - half n)) (fun h=>Calm.b7 (a:=(some aa)) (len:=n) (cap:=vc) (sz:=32) (x:=j) (half n) n vc (n - half n) (vc - half n) (by kernel_rfl) (.inl ⟨rfl,rfl⟩) (.inl ⟨rfl,rfl⟩) (.inr rfl) (by omega) (by omega) dO (by first|rfl|omega) (by first|rfl|omega) h) ?_
   replace c:=c.ext t
   refine fZ 127 15 3 (ih _ (L.take (half n)) _ _ (half n) (by omega) ((hL.ext c).take (k:=half n) (by omega))) ?_
   rintro _ G ⟨rfl,m⟩
   replace c:=c.ext m
   refine fZ 255 255 7 (ih _ (L.drop (half n)) _ _ (n - half n) (by omega) ((hL.ext c).drop (by omega) dO)) ?_
   rintro _ H ⟨rfl,o⟩
   refine fZ 511 511 8 (um _ (root (L.take (half n))) (root (L.drop (half n))) (a_ (hL.2.1.take _)) (a_ (hL.2.1.drop _))) ?_
   rintro _ z ⟨rfl,r⟩
   replace e:=((e.x m).x o).x r
   refine iO 1023 1023 9 (Does.store (b:=h.size) (off:=0) (vs:=(cp (root (L.take (half n))) (root (L.drop (half n)))).map bv) (l:=z32.map bv) (bn (by kernel_rfl) (hlm (c5 _ _))) e (hfit rfl (c5 _ _)) (aE _)) ?_
   rintro _ s ⟨rfl,hh⟩
   have A:Grew (some (h.size)) z s:=bC hh
   replace e:s[h.size]? =some (.cells ((cp (root (L.take (half n))) (root (L.drop (half n)))).map bv).toArray 39):=bR (off:=0) (vs:=(cp (root (L.take (half n))) (root (L.drop (half n)))).map bv) (l:=(z32.map bv)) hh (ct rfl (c5 _ _)) e
   clear hh
   refine mE [] fun a d=>tK<|cR<|aI [.cell 2 39] [.agg ((cp (root (L.take (half n))) (root (L.drop (half n)))).map bv).toArray] (.agg ((cp (root (L.take (half n))) (root (L.drop (half n)))).map bv).toArray) rfl d ⟨⟨_,rfl,Loads.hash (by kernel_rfl) (c5 _ _) e⟩,trivial⟩ rfl ?_
   replace c:=((c.ext o).ext r).grew A (g.l 0)
   exact⟨congrArg hv (ue hLn (by omega)),c⟩
theorem nv:∀(m n:Nat),n≤m→∀(h:Heap) (L:List Hs) (va:Option Addr) (vc:Nat),HR h va vc n L→n≤1099511627000→Sat Tryz.prog 42 #[.slice va n vc] h fun v h'=>v=hv (root L)∧Ext h h'
 |0,n,hm,h,L,va,vc,hL,hn=>lP h L va vc n hL hn fun _ _ _ _ _ hlt _=>by omega
 |m+1,n,hm,h,L,va,vc,hL,hn=>lP h L va vc n hL hn fun _ _ _ _ _ hlt hL'=>nv m _ (by omega) _ _ _ _ hL' (by omega)
theorem im(h:Heap)(L:List Hs)(va:Option Addr)(vc n:Nat)(hL:HR h va vc n L)(hn:n≤1099511627000):Sat Tryz.prog 42 #[.slice va n vc] h fun v h'=>v=hv (root L)∧Ext h h':=nv n n (Nat.le_refl _) h L va vc hL hn
noncomputable def Od:Code:=Tryz.f115.body.getD .skip
theorem pX(h:Heap)(L:List Hs)(va:Option Addr)(vc n:Nat)(hL:HR h va vc n L)(hn:n≤1099511627000)(m:Nat)(hm:m<n)(ih:∀(h':Heap) (L':List Hs) (Ag:Option Addr) (jO n' m':Nat),n'<n→m'<n'→HR h' Ag jO n' L'→Sat Tryz.prog 115 #[.slice Ag n' jO,.int .i64 ((m':Nat):Int)] h' fun v k=>bU h' k 39 v (incl L' m')):Sat Tryz.prog 115 #[.slice va n vc,.int .i64 ((m:Nat):Int)] h fun v h'=>bU h h' 39 v (incl L m):=by
 have hLn:=hL.2.2
 have d:=Ext.refl h
 have c:Sep h.size h.size []:=Sep.nil _ _
 refine ag Tryz.func115 39 fun a e=>qP [] e fun a e=>cS<|qP [(8,.bool (decide (((n:Nat):Int)=(1:Int))))] e fun a e=>cJ 8 e (fun J=> ?_) fun J=> ?_
 ·refine qP [(4,.slice none 0 0)] e fun a e=>cR (yT ?_)
  exact rT 4 (.slice none 0 0) e<|bU.cast (fi (by omega)).symm (bU.none d)
 ·obtain⟨aa,rfl,hcap⟩:=hL.bg (by omega)
  have LI:=dW (n:=n) (by omega)
  have LJ:=dE n
  obtain⟨q,dO⟩:∃x,x=if vc=half n then (some aa:Option Addr) else (some aa:Option Addr).map (·.add (half n*32)):=⟨_,rfl⟩
  refine cN<|tK<|qS e<|tC 2 (nV (half n)) (Does.call (f:=87) (args:= #[nV n]) (by kernel_rfl) (m_ _ n (by omega) (by omega)))<|sT [(5,nV (half n))] fun a e=>cS<|qP [(14,.bool (decide (((m:Nat):Int)<((half n:Nat):Int))))] e fun a e=> ?_
  refine cJ 14 e (fun K=> ?_) fun K=> ?_
  ·refine cS<|cD [0,0,3,0,15,0,0,96,255,511,1023,2047] 5 mixed e<|mP 3 [0,1] [.slice (some aa) n vc,nV (half n)]<|mF 7 2 (.slice (some aa) (half n) vc) (fun h=>Calm.b7 (a:=(some aa)) (len:=n) (cap:=vc) (sz:=32) (x:=(some aa)) 0 (half n) vc (half n) vc (by kernel_rfl) (.inl ⟨rfl,rfl⟩) (.inr rfl) (.inl ⟨rfl,rfl⟩) (by omega) (by omega) (eO _ 32) (by first|rfl|omega) (by first|rfl|omega) h)<|mP 111 [3,5,6] [nV m,.slice (some aa) n vc,nV (half n)]<|mF 239 7 (.slice q (n - half n) (vc - half n)) (fun h=>Calm.b7 (a:=(some aa)) (len:=n) (cap:=vc) (sz:=32) (x:=q) (half n) n vc (n - half n) (vc - half n) (by kernel_rfl) (.inl ⟨rfl,rfl⟩) (.inl ⟨rfl,rfl⟩) (.inr rfl) (by omega) (by omega) dO (by first|rfl|omega) (by first|rfl|omega) h) ?_
   have hil:=gh _ (L.take (half n)) m (Nat.le_refl _)
   have M:=((hL.ext d).take (k:=half n) (by omega)).2.2
   refine fZ 255 31 4 (ih _ (L.take (half n)) _ _ (half n) m (by omega) (by omega) ((hL.ext d).take (k:=half n) (by omega))) ?_
   rintro _ h7 ⟨W,S,rfl,b,N,T⟩
   replace c:=c.co T N b d.size
   replace d:=d.ext T
   refine fZ 511 511 8 (im _ (L.drop (half n)) _ _ (n - half n) ((hL.ext d).drop (by omega) dO) (by omega)) ?_
   rintro _ U ⟨rfl,O⟩
   refine iO 1023 1023 9 (Does.newHs (L:=[root (L.drop (half n))]) (t:=45) (E:=39) (dV:=32) (n:=1) (by kernel_rfl) (by kernel_rfl) (aq.cons (a_ (hL.2.1.drop _)) aq.nil) rfl (by decide) (by decide)) ?_
   rintro _ z ⟨rfl,hh⟩
   have A:Ext U z:=aY hh
   have u:z[U.size]? =some (.cells (hcs [root (L.drop (half n))]).toArray 39):=bj hh
   clear hh
   replace d:=d.ext O
   have p:=d.size
   replace c:=c.up O.size
   have a8:=c
   replace c:=a8.new p (ak u)
   clear a8 p
   replace b:=(b.ext O).ext A
   refine sj 2047 2047 10 ((incl (L.take (half n)) m++[root (L.drop (half n))]).length) 32 (hcs (incl (L.take (half n)) m++[root (L.drop (half n))])) b (hrow1 (a_ (hL.2.1.drop _)) u) (dF _) (fun j g X b B r=> ?_) (ys:=(hcs ([root (L.drop (half n))]))) (hZ:=by first|rfl|exact(bh _ _).symm |simp[bh])
   replace d:=d.ext A
   have P:=c
   replace c:=c.sa B 1 r b d.size;clear r
   clear u
   replace d:=d.grew B (P.l 1)
   replace c:=c.sub (l':=[j.map (·.block)]) (.cons _ (.cons_cons _ (.slnil)))
   refine mP 4095 [11] [.slice j ((incl (L.take (half n)) m++[root (L.drop (half n))]).length) g]<|mE [(4,.slice j ((incl (L.take (half n)) m++[root (L.drop (half n))]).length) g)] fun a e=>tK<|cR (yT ?_)
   exact rT 4 (.slice j ((incl (L.take (half n)) m++[root (L.drop (half n))]).length) g) e<|bU.cast (by have:=kF (l:=L) (m:=m) (by omega) (by rw[hLn];omega);rw[hLn] at this;exact this.symm) ⟨j,g,rfl,b,c.low 0 rfl,d⟩
  ·refine cN<|tK<|cS<|cD [0,0,3,0,0,24,63,0,0,384,1023,2047,4095,8191] 6 mixed e<|mP 3 [0,1] [.slice (some aa) n vc,nV (half n)]<|mF 7 2 (.slice q (n - half n) (vc - half n)) (fun h=>Calm.b7 (a:=(some aa)) (len:=n) (cap:=vc) (sz:=32) (x:=q) (half n) n vc (n - half n) (vc - half n) (by kernel_rfl) (.inl ⟨rfl,rfl⟩) (.inl ⟨rfl,rfl⟩) (.inr rfl) (by omega) (by omega) dO (by first|rfl|omega) (by first|rfl|omega) h)<|mP 31 [3,4] [nV m,nV (half n)] ?_
   refine mU 63 5 m (half n)<|mP 447 [7,8] [.slice (some aa) n vc,nV (half n)]<|mF 959 9 (.slice (some aa) (half n) vc) (fun h=>Calm.b7 (a:=(some aa)) (len:=n) (cap:=vc) (sz:=32) (x:=(some aa)) 0 (half n) vc (half n) vc (by kernel_rfl) (.inl ⟨rfl,rfl⟩) (.inr rfl) (.inl ⟨rfl,rfl⟩) (by omega) (by omega) (eO _ 32) (by first|rfl|omega) (by first|rfl|omega) h) ?_
   have hil:=gh _ (L.drop (half n)) (m - half n) (Nat.le_refl _)
   have M:=((hL.ext d).drop (by omega) dO).2.2
   refine fZ 1023 127 6 (ih _ (L.drop (half n)) _ _ (n - half n) (m - half n) (by omega) (by omega) ((hL.ext d).drop (by omega) dO)) ?_
   rintro _ Y ⟨V,Q,rfl,b,C,D⟩
   replace c:=c.co D C b d.size
   replace d:=d.ext D
   refine fZ 2047 2047 10 (im _ (L.take (half n)) _ _ (half n) ((hL.ext d).take (k:=half n) (by omega)) (by omega)) ?_
   rintro _ F ⟨rfl,w⟩
   refine iO 4095 4095 11 (Does.newHs (L:=[root (L.take (half n))]) (t:=45) (E:=39) (dV:=32) (n:=1) (by kernel_rfl) (by kernel_rfl) (aq.cons (a_ (hL.2.1.take _)) aq.nil) rfl (by decide) (by decide)) ?_
   rintro _ G ⟨rfl,hh⟩
   have H:Ext F G:=aY hh
   have y:G[F.size]? =some (.cells (hcs [root (L.take (half n))]).toArray 39):=bj hh
   clear hh
   replace d:=d.ext w
   have p:=d.size
   replace c:=c.up w.size
   have a8:=c
   replace c:=a8.new p (ak y)
   clear a8 p
   replace b:=(b.ext w).ext H
   refine sj 8191 8191 12 ((incl (L.drop (half n)) (m - half n)++[root (L.take (half n))]).length) 32 (hcs (incl (L.drop (half n)) (m - half n)++[root (L.take (half n))])) b (hrow1 (a_ (hL.2.1.take _)) y) (dF _) (fun o i Z b I s=> ?_) (ys:=(hcs ([root (L.take (half n))]))) (hZ:=by first|rfl|exact(bh _ _).symm |simp[bh])
   replace d:=d.ext H
   have R:=c
   replace c:=c.sa I 1 s b d.size;clear s
   clear y
   replace d:=d.grew I (R.l 1)
   replace c:=c.sub (l':=[o.map (·.block)]) (.cons _ (.cons_cons _ (.slnil)))
   exact mP 16383 [13] [.slice o ((incl (L.drop (half n)) (m - half n)++[root (L.take (half n))]).length) i]<|mE [(4,.slice o ((incl (L.drop (half n)) (m - half n)++[root (L.take (half n))]).length) i)] fun a e=>tK<|cR<|rT 4 (.slice o ((incl (L.drop (half n)) (m - half n)++[root (L.take (half n))]).length) i) e<|bU.cast (by have:=kG (l:=L) (m:=m) (by omega) (by rw[hLn];omega);rw[hLn] at this;exact this.symm) ⟨o,i,rfl,b,c.low 0 rfl,d⟩
theorem lQ:∀(k n:Nat),n≤k→∀(h:Heap) (L:List Hs) (va:Option Addr) (vc m:Nat),m<n→HR h va vc n L→n≤1099511627000→Sat Tryz.prog 115 #[.slice va n vc,.int .i64 ((m:Nat):Int)] h fun v h'=>bU h h' 39 v (incl L m)
 |0,n,hk,h,L,va,vc,m,hm,hL,hn=>by omega
 |k+1,n,hk,h,L,va,vc,m,hm,hL,hn=>pX h L va vc n hL hn m hm fun _ _ _ _ _ _ hlt hm' hL'=>lQ k _ (by omega) _ _ _ _ _ hm' hL' (by omega)
theorem rM(h:Heap)(L:List Hs)(va:Option Addr)(vc n:Nat)(hL:HR h va vc n L)(hn:n≤1099511627000)(m:Nat)(hm:m<n):Sat Tryz.prog 115 #[.slice va n vc,.int .i64 ((m:Nat):Int)] h fun v h'=>bU h h' 39 v (incl L m):=lQ n n (Nat.le_refl _) h L va vc m hm hL hn
noncomputable def b85:Code:=Tryz.f85.body.getD .skip
theorem u4(h:Heap)(L:List Hs)(va:Option Addr)(vc n:Nat)(hL:HR h va vc n L)(hn:n≤1099511627000)(m:Int):Sat Tryz.prog 85 #[.slice va n vc,.int .i64 m] h fun v h'=>∃s,v= .tuple #[s,.int .i64 (cA L m).2]∧bU h h' 39 s (cA L m).1 :=by
 have hLn:=hL.2.2
 have f:=Ext.refl h
 have g:Sep h.size h.size []:=Sep.nil _ _
 refine ag Tryz.func85 17 fun a b=>qP [] b fun a b=>cS<|cS ?_
 have Ej:m<0∨(n:Int)≤m∨∃k:Nat,m=(k:Int)∧k<n:=by
  rcases Int.lt_or_le m 0 with j|j
  ·exact .inl j
  ·rcases Int.lt_or_le m n with l|l
   ·exact .inr (.inr ⟨m.toNat,by omega,by omega⟩)
   ·exact .inr (.inl l)
 rcases Ej with hm0|hm0|⟨k,rfl,hk⟩
 ·refine rS b<|tT 1 (m<(0:Int))<|sE [(13,.bool true)] fun a b=>tK<|cT 13 b<|qP [(4,.slice none 0 0),(5,.int .i64 50)] b fun a b=>cR (yT ?_)
  refine aI [.tmp 4,.tmp 5] [.slice none 0 0,.int .i64 50] (.tuple #[.slice none 0 0,.int .i64 50]) rfl b ⟨rfl,rfl,trivial⟩ rfl ?_
  rw[i' (by omega)];exact⟨_,rfl,bU.none f⟩
 ·refine rS b<|tX 1 (m<(0:Int))<|tT 6 (((n:Nat):Int)≤m)<|sE [(13,.bool true)] fun a b=>tK<|cT 13 b<|qP [(4,.slice none 0 0),(5,.int .i64 50)] b fun a b=> ?_
  refine cR (yT ?_)
  refine aI [.tmp 4,.tmp 5] [.slice none 0 0,.int .i64 50] (.tuple #[.slice none 0 0,.int .i64 50]) rfl b ⟨rfl,rfl,trivial⟩ rfl ?_
  rw[i' (by omega)];exact⟨_,rfl,bU.none f⟩
 ·refine rS b<|tX 1 (((k:Nat):Int)<(0:Int))<|tX 6 (((n:Nat):Int)≤((k:Nat):Int))<|sE [(13,.bool false)] fun a b=>tK<|cF 13 b<|cN ?_
  refine tK<|qS b<|tG 2 (rM _ L _ _ _ (hL.ext f) (by omega) k (by omega)) ?_
  rintro _ p ⟨e,c,rfl,d,i,o⟩
  replace g:=g.co o i d f.size
  refine sT [(4,.slice e ((incl L k).length) c),(5,.int .i64 0)] fun a b=>cR<|aI [.tmp 4,.tmp 5] [.slice e ((incl L k).length) c,.int .i64 0] (.tuple #[.slice e ((incl L k).length) c,.int .i64 0]) rfl b ⟨rfl,rfl,trivial⟩ rfl ?_
  replace f:=f.ext o
  rw[mD (by omega)];exact⟨_,rfl,e,c,rfl,d,g.low 0 rfl,f⟩
noncomputable def Oe:Code:=Tryz.f134.body.getD .skip
set_option maxHeartbeats 1000000 in
theorem pY(h:Heap)(b:List UInt8)(n:Nat)(hbn:b.length =n)(va:Option Addr)(vc:Nat)(hr:Row h (.slice va n vc) n 1 (b.map bv))(hbl:n≤1099511627000)(N:Nat)(hN:eW n=N):Sat Tryz.prog 134 #[.slice va n vc] h fun v h'=>zQ h h' 32 v b N:=by
 have Of:N≤n:=hN▸lz n
 have hnc:=hr.wB
 have o:=Ext.refl h
 have c:Sep h.size h.size []:=Sep.nil _ _
 refine ag Tryz.func134 26 fun a p=>qP [] p fun a p=>qS p<|tN 0 (.slice (some ⟨h.size,0,none⟩) 0 0) #[] 32 fun E M F=> ?_
 replace c:=c.nw o.size F
 have d:Own E (.slice (some ⟨h.size,0,none⟩) 0 0) 32 ([]:List UInt8).length 1 ([]:List Value):=Own.empty 1 F
 replace c:Sep h.size E.size [(some ⟨h.size,0,none⟩:Option Addr).map (·.block)]:=c
 replace o:=o.ext M
 clear F
 refine sT [(3,.slice (some ⟨h.size,0,none⟩) 0 0)] fun a p=>cS<|qP [(4,.int .i64 0)] p fun a p=>cB 0 ?_
 have rc:=RC.nil h.size ((some ⟨h.size,0,none⟩).map (fun(x:Addr)=>x.block)) E b
 refine cL (fun m a h'=>∃k:Nat,∃ys:List Value,∃ad:Option Addr,∃cap:Nat,m=N - k∧(Ext h h')∧(k≤N)∧(Own h' (.slice ad k cap) 32 k 1 ys)∧(RC h.size h'.size (ad.map (fun(x:Addr)=>x.block)) h' ys b k)∧(Sep h.size h'.size [ad.map (·.block)])∧(Fr a 26 [(0,.slice va n vc),(3,.slice ad k cap),(4,.int .i64 ((k*64:Nat):Int))])) (N - 0) ⟨0,[],(some ⟨h.size,0,none⟩),0,rfl,o,(by omega),d,rc,c,p.to⟩ ?_
 clear p a
 clear o
 clear d
 clear rc
 clear c
 rintro m a A ⟨k,ys,ad,cap,rfl,o,hk,d,rc,c,p⟩
 have K:=Ext.refl A
 refine cS<|qP [(9,.bool (decide (((k*64:Nat):Int)<((n:Nat):Int))))] p fun a p=>cJ 9 p (fun G=> ?_) fun G=> ?_
 ·have hkN:k<N:=by rw[←hN];unfold eW;omega
  have hck:=iH b k;rw[hbn] at hck
  have hcp:0<(ck b k).length :=by omega
  refine cN<|tK<|cS<|cB 1<|rS p ?_
  have gs0:=K.size
  refine tN 1 (.slice (some ⟨A.size,0,none⟩) 0 0) #[] 5 fun L H I=> ?_
  replace c:=c.nw o.size I
  have Gw:(some ⟨A.size,0,none⟩:Option Addr).map (fun(x:Addr)=>x.block)=none∨∃g,(some ⟨A.size,0,none⟩:Option Addr).map (fun(x:Addr)=>x.block)=some g∧A.size ≤g:= .inr ⟨_,rfl,gs0⟩;clear gs0
  have f:Own L (.slice (some ⟨A.size,0,none⟩) 0 0) 5 ([]:List UInt8).length 1 (([]:List UInt8).map bv):=Own.empty 1 I
  replace c:Sep h.size L.size [(some ⟨A.size,0,none⟩:Option Addr).map (·.block),ad.map (·.block)]:=c
  replace o:=o.ext H
  replace d:=d.ext H
  replace rc:=rc.ext H
  clear I
  refine tA 7 (k*64) 64<|t1 8 (.int .i64 ((min n ((k*64)+64):Nat):Int)) (.int .i64 (if (((k*64)+64:Nat):Int)<((n:Nat):Int) then (((k*64)+64:Nat):Int) else ((n:Nat):Int))) (congrArg (Value.int .i64) (by rw[Nat.min_def];split<;>split<;>omega))<|tC 9 (.slice (sJ va k) ((ck b k).length) (vc - k*64)) ((fun h=>Calm.b7 (a:=va) (len:=n) (cap:=vc) (sz:=1) (x:=sJ va k) (k*64) (min n (k*64+64)) vc ((ck b k).length) (vc - k*64) (by kernel_rfl) (.inl ⟨rfl,rfl⟩) (.inr rfl) (.inr rfl) (by omega) (by omega) (by unfold sJ;rw[if_neg (by omega),Nat.mul_one]) (by omega) (by rfl) h) _)<|tP 10 ((ck b k).length) 1 ((ck b k).map bv) f (zR (hr.ext o) hbn (by omega) rfl (by omega)) (aE _) (fun q i J f u z=> ?_) (ys:=((ck b k).map bv)) (hl:=(by unfold maxLen;simp;omega)) (hb:=(by simp;omega)) (x:= .slice (sJ va k) ((ck b k).length) (vc - k*64))
  replace rc:=rc.grew u (fun j e=> .inl (qY Gw j e))
  have C:=c
  replace c:=c.sa u 0 z f o.size;clear z
  refine tN 11 (.slice (some ⟨J.size,0,none⟩) 1 1) #[.slice q ((ck b k).length) i] 32 fun O w B=> ?_
  replace o:=o.grew u (C.l 0)
  replace c:=c.nw o.size B
  replace d:=(d.k u (C.ap 1 0)).ext w
  refine tP 12 (k+1) 24 (ys++[.slice q ((ck b k).length) i]) d (Row.blk (n:=1) (sz:=1) (l:=[.slice q ((ck b k).length) i]) B rfl) (List.all_eq_true.1 (by rfl)) (fun r s P d y t=> ?_)
  replace o:=o.ext w
  clear K
  replace rc:=rc.ext w
  replace rc:=rc.out y t
  have D:=c
  replace c:=c.sa y 2 t d o.size;clear t
  refine sE [(3,.slice r (k+1) s)] fun a p=>bK<|tK<|rS p<|tA 1 (k*64) 64<|sE [(4,nV ((k*64)+64))] fun a p=> ?_
  replace f:=(f.ext w).k y (D.ap 1 2)
  have Og:=rc.snoc (a:=q) (m:=(ck b k).length) (cap:=i) rfl hcp f.row (fun j e=>⟨c.low 1 rfl j e,f.lt (by rw[af];exact e)⟩) (c.ap 1 2)
  clear B
  replace o:=o.grew y (D.l 2)
  replace c:=c.sub (l':=[r.map (·.block)]) (.cons _ (.cons _ (.cons_cons _ (.slnil))))
  rw[show k*64+64=(k+1)*64 by omega] at p
  show ∃m',m'<_∧_
  refine⟨_,?_,(k+1),(ys++[.slice q ((ck b k).length) i]),r,s,rfl,o,(by omega),d,Og,c,p.to⟩
  omega
 ·refine cX 0 (xT (xT (xB ?_)))
  refine tK<|qP [(2,.slice ad k cap)] p fun a p=>cR<|rT 2 (.slice ad k cap) p ?_
  obtain rfl:k=N:=by rw[←hN] at hk⊢;unfold eW at hk⊢;omega
  exact⟨_,_,_,rfl,d,rc,c.low 0 rfl,o⟩
noncomputable def Oh:Code:=Tryz.f113.body.getD .skip
theorem oz(h:Heap)(b:List UInt8)(n:Nat)(hbn:b.length =n)(va:Option Addr)(vc:Nat)(hr:Row h (.slice va n vc) n 1 (b.map bv))(hbl:n≤1099511627000)(N:Nat)(hN:eW n=N):Sat Tryz.prog 113 #[.slice va n vc] h fun v h'=>bU h h' 39 v (lX b N):=by
 have Of:N≤n:=hN▸lz n
 have i:=Ext.refl h
 have d:Sep h.size h.size []:=Sep.nil _ _
 refine ag Tryz.func113 24 fun a f=>qP [] f fun a f=>qS f<|tG 1 (pY _ b n hbn _ _ (hr.ext i) (by omega) N hN) ?_
 rintro _ o ⟨uv,BD,ys3,rfl,s,rc,hge,g⟩
 have u:=i.size
 have a8:=d
 replace i:=i.ext g
 replace d:=a8.cons (x:=uv.map (fun(x:Addr)=>x.block)) g.size u (fun k e=>⟨hge k e,s.lt (by rw[af];exact e)⟩)
 have c:=s;clear s a8 u hge g
 have r:=Ext.refl o
 refine sT [(3,.slice uv N BD)] fun a f=>qS f ?_
 have gs0:=r.size
 refine tN 0 (.slice (some ⟨o.size,0,none⟩) 0 0) #[] 39 fun I H J=> ?_
 replace d:=d.nw i.size J
 have km:(some ⟨o.size,0,none⟩:Option Addr).map (fun(x:Addr)=>x.block)=none∨∃g,(some ⟨o.size,0,none⟩:Option Addr).map (fun(x:Addr)=>x.block)=some g∧o.size ≤g:= .inr ⟨_,rfl,gs0⟩;clear gs0
 have aV:Own I (.slice (some ⟨o.size,0,none⟩) 0 0) 39 ([]:List UInt8).length 32 (hcs []):=Own.empty 32 J
 replace d:Sep h.size I.size [(some ⟨o.size,0,none⟩:Option Addr).map (·.block),uv.map (·.block)]:=d
 replace i:=i.ext H
 replace c:=c.ext H
 replace rc:=rc.ext H
 replace r:=r.ext H
 clear J
 refine sT [(4,.slice (some ⟨o.size,0,none⟩) 0 0)] fun a f=>cS<|qP [(5,.int .i64 0)] f fun a f=>cB 0 ?_
 have M:lX b 0=[]:=rfl
 rw[←M] at aV
 replace aV:Own I (.slice (some ⟨o.size,0,none⟩) 0 0) 39 0 32 (hcs (lX b 0)):=aV
 refine cL (fun m a h'=>∃k:Nat,∃ad:Option Addr,∃cap:Nat,m=N - k∧(Ext h h')∧(k≤N)∧(Ext o h')∧(RC h.size o.size (uv.map (fun(x:Addr)=>x.block)) h' ys3 b N)∧(ad.map (fun(x:Addr)=>x.block)=none∨∃g,ad.map (fun(x:Addr)=>x.block)=some g∧o.size ≤g)∧(Own h' (.slice ad k cap) 39 k 32 (hcs (lX b k)))∧(Own h' (.slice uv N BD) 32 N 1 ys3)∧(Sep h.size h'.size [ad.map (·.block),uv.map (·.block)])∧(Fr a 24 [(3,.slice uv N BD),(4,.slice ad k cap),(5,.int .i64 ((k:Nat):Int))])) (N - 0) ⟨0,(some ⟨o.size,0,none⟩),0,rfl,i,(by omega),r,rc,km,aV,c,d,f.to⟩ ?_
 clear f a
 clear i
 clear r
 clear rc
 clear km
 clear aV
 clear c
 clear d
 rintro m a P ⟨k,ad,cap,rfl,i,hk,r,rc,km,aV,c,d,f⟩
 refine cS<|qP [(12,.bool (decide (((k:Nat):Int)<((N:Nat):Int))))] f fun a f=>cJ 12 f (fun K=> ?_) fun K=> ?_
 ·have hkN:k<N:=by omega
  have hck:=iH b k
  obtain⟨ay,rfl,_⟩:=c.bg (by omega)
  obtain⟨ya,yc,hyi,Oi,_⟩:=rc.at_ k hkN
  refine cN<|tK<|cS<|cB 1<|rS f<|tI 3 ay N 1 k k<|tC 4 (.slice (some ya) ((ck b k).length) yc) (Calm.load (T:=32) (p:=(Addr.add ay k)) (by kernel_rfl) (Loads.one (k:=1) (by kernel_rfl) (RC.cell c hyi))) ?_
  refine tG 5 (mZ _ (ck b k) _ _ Oi (by omega)) ?_
  rintro _ D ⟨rfl,q⟩
  refine tF 6 (Does.newHs (L:=[cH (ck b k)]) (t:=45) (E:=39) (dV:=32) (n:=1) (by kernel_rfl) (by kernel_rfl) (aq.cons (dp _) aq.nil) rfl (by decide) (by decide)) ?_
  rintro _ F ⟨rfl,hh⟩
  have w:Ext D F:=aY hh
  have C:F[D.size]? =some (.cells (hcs [cH (ck b k)]).toArray 39):=bj hh
  clear hh
  replace i:=i.ext q
  have u:=i.size
  replace d:=d.up q.size
  have a8:=d
  replace d:=a8.new u (ak C)
  clear a8 u
  replace aV:=(aV.ext q).ext w
  refine tP 7 (k+1) 32 (hcs (lX b k++[cH (ck b k)])) aV (hrow1 (dp _) C) (dF _) (fun y z O aV A B=> ?_) (ys:=(hcs ([cH (ck b k)]))) (hZ:=by first|rfl|exact(bh _ _).symm |simp[bh])
  replace r:=(r.ext q).ext w
  have gA:=grown km B r.1
  replace i:=i.ext w
  replace r:=r.grew A (qY km)
  replace rc:=(rc.ext q).ext w
  replace rc:=rc.grew A (fun j e=> .inl (qY km j e))
  have G:=d
  replace d:=d.sa A 1 B aV i.size;clear B
  replace km:=gA;clear gA
  refine sE [(4,.slice y (k+1) z)] fun a f=>bK<|tK<|rS f<|tA 1 k 1<|sE [(5,nV (k+1))] fun a f=> ?_
  rw[pd] at aV
  clear C
  replace c:=((c.ext q).ext w).k A (G.ap 2 1)
  replace i:=i.grew A (G.l 1)
  replace d:=d.sub (l':=[y.map (·.block),(some ay).map (·.block)]) (.cons _ (.cons_cons _ (.cons_cons _ (.slnil))))
  show ∃m',m'<_∧_
  refine⟨_,?_,(k+1),y,z,rfl,i,(by omega),r,rc,km,aV,c,d,f.to⟩
  omega
 ·refine cX 0 (xT (xT (xB ?_)))
  refine tK<|qP [(2,.slice ad k cap)] f fun a f=>cR<|rT 2 (.slice ad k cap) f ?_
  obtain rfl:k=N:=by omega
  exact⟨ad,cap,by rw[gT],by rw[gT];exact aV,d.low 0 rfl,i⟩
theorem rN(h:Heap)(b:List UInt8)(n:Nat)(hbn:b.length =n)(va:Option Addr)(vc:Nat)(hr:Row h (.slice va n vc) n 1 (b.map bv))(hbl:n≤1099511627000)(N:Nat)(hN:eW n=N)(H:List Hs)(hH:lX b N=H):Sat Tryz.prog 113 #[.slice va n vc] h fun v h'=>∃ad cap,v= .slice ad H.length cap∧Own h' (.slice ad H.length cap) 39 H.length 32 (hcs H)∧(∀k,ad.map (fun(x:Addr)=>x.block)=some k→h.size ≤k)∧Ext h h':=by
 have:=oz h b n hbn va vc hr hbl N hN
 unfold bU at this
 rwa [hH] at this
theorem x4(h:Heap)(L:List Hs)(va:Option Addr)(vc n:Nat)(hL:HR h va vc n L)(hn:n≤1099511627000)(m:Int)(p:List Hs)(e:Int)(hz:cA L m=(p,e)):Sat Tryz.prog 85 #[.slice va n vc,.int .i64 m] h fun v h'=>∃s,v= .tuple #[s,.int .i64 e]∧bU h h' 39 s p:=by
 have:=u4 h L va vc n hL hn m
 rw[hz] at this
 exact this
noncomputable def b79:Code:=Tryz.f79.body.getD .skip
theorem rO(h:Heap)(b:List UInt8)(n:Nat)(hbn:b.length =n)(va:Option Addr)(vc:Nat)(hr:Row h (.slice va n vc) n 1 (b.map bv))(hbl:n≤1099511627000)(N:Nat)(hN:eW n=N):Sat Tryz.prog 79 #[.slice va n vc] h fun v h'=>v=hv (root (lX b N))∧Ext h h':=by
 have f:=Ext.refl h
 have d:Sep h.size h.size []:=Sep.nil _ _
 obtain⟨H,hH⟩:∃H,lX b N=H:=⟨_,rfl⟩
 have e:aq H:=hH▸qW _ _
 have MV:H.length =N:=by rw[←hH,gT]
 have s:N≤n:=hN▸lz n
 refine ag Tryz.func79 6 fun a i=>qS i<|tN 0 (pV h.size) ((z32.map bv).toArray) 39 fun w t g=> ?_
 replace d:=d.nw f.size g
 refine sT [(2,pV h.size)] fun a i=>qS i ?_
 replace f:=f.ext t
 refine tG 1 (rN _ b n hbn _ _ (hr.ext f) hbl N hN H hH) ?_
 rintro _ y ⟨u,q,rfl,c,k,m⟩
 replace d:=d.co m k c f.size
 refine tG 2 (im _ H _ _ H.length (HR.of c e) (by omega)) ?_
 rintro _ o ⟨rfl,r⟩
 replace g:=(g.x m).x r
 refine tF 3 (Does.store (b:=h.size) (off:=0) (vs:=(root H).map bv) (l:=z32.map bv) (bn (by kernel_rfl) (hlm (a_ e))) g (hfit rfl (a_ e)) (aE _)) ?_
 rintro _ j ⟨rfl,hh⟩
 have p:Grew (some (h.size)) o j:=bC hh
 replace g:j[h.size]? =some (.cells ((root H).map bv).toArray 39):=bR (off:=0) (vs:=(root H).map bv) (l:=(z32.map bv)) hh (ct rfl (a_ e)) g
 clear hh
 refine sT [] fun a i=>cR<|aI [.cell 2 39] [.agg ((root H).map bv).toArray] (.agg ((root H).map bv).toArray) rfl i ⟨⟨_,rfl,Loads.hash (by kernel_rfl) (a_ e) g⟩,trivial⟩ rfl ?_
 replace f:=((f.ext m).ext r).grew p (d.l 1)
 exact⟨by rw[hH];rfl,f⟩
theorem tm(h:Heap)(b:List UInt8)(va:Option Addr)(vc:Nat)(hr:Row h (.slice va b.length vc) b.length 1 (b.map bv))(hbl:b.length ≤1099511627000):Sat Tryz.prog 79 #[.slice va b.length vc] h fun v h'=>v= .agg ((hl (pf (bE b))).map bv).toArray ∧Ext h h':=by
 rw[lA (dQ b)];exact rO h b b.length rfl va vc hr hbl _ rfl
theorem x5(h:Heap)(s:ByteArray)(n:Nat)(l:List UInt8)(y:RB)(hy:hl y=l)(hs:aM s=true)(hn:n≤512):Sat Tryz.prog 28 #[.string s,.int .i64 ((n:Nat):Int),.agg ((hl y).map bv).toArray] h fun v h'=>∃ad cap,v= .tuple #[.slice ad (dq s n l).length cap,.int .i64 0]∧Own h' (.slice ad (dq s n l).length cap) 5 (dq s n l).length 1 ((dq s n l).map bv)∧(∀k,ad.map (fun(x:Addr)=>x.block)=some k→h.size ≤k)∧Ext h h':=by
 subst hy;exact ri h s n (hl y) hs hn rfl
noncomputable def b38:Code:=Tryz.f38.body.getD .skip
set_option maxHeartbeats 1000000 in
theorem x6 {W:Nat→Prop}(h:Heap)(rb:Nat)(M:Md)(T:List RO)(oa:Option Addr)(oc:Nat)(ea:Option Addr)(ec:Nat)(es:List Value)(md:bD W h rb M T oa oc ea ec es)(hW:∀k,W k→k<h.size)(s:ByteArray)(hsz:s.size ≤9223372036854775807)(b:List UInt8)(va:Option Addr)(vc:Nat)(hr:Row h (.slice va b.length vc) b.length 1 (b.map bv))(hE:M.E.length ≤1099511627):Sat Tryz.prog 38 #[.pointer (some ⟨rb,0,none⟩),.string s,.slice va b.length vc] h fun v h'=>v= .int .i64 (db M s b).2 ∧bB W h' rb (db M s b).1 ∧RG rb h h':=by
 have hm:=md.hm
 have hbr:=ak hm
 have hLn:=md.ln
 have r:=Ext.refl h
 have c:Sep h.size h.size []:=Sep.nil _ _
 refine ag Tryz.func38 86 fun a m=>qP [] m fun a m=>cS<|cS ?_
 rcases md.j0 s with hok|⟨hok,hf,A,B,rfl,hA,hB⟩|⟨hok,A,x,B,rfl,hA,hs,hf⟩
 ·refine rS m<|tC 1 (.bool false) (Does.call (f:=27) (args:= #[.string s]) (by kernel_rfl) (lK _ s hsz hok))<|sE [(15,.bool true)] fun a m=>tK<|cT 15 m<|qP [(6,.int .i64 210)] m fun a m=>cR (yT ?_)
  refine rT 6 (.int .i64 210) m ?_
  rw[nY hok];exact⟨rfl,⟨_,_,_,_,_,_,md.ext r⟩,RG.aK r⟩
 ·have hAB:(A++B).length =A.length +B.length :=List.length_append
  have hoc:=md.row.1.w7
  refine rS m<|tC 1 (.bool true) (Does.call (f:=27) (args:= #[.string s]) (by kernel_rfl) (dS _ s hok))<|sE [(15,.bool false)] fun a m=>tK<|cF 15 m<|cN<|tK ?_
  refine cS<|cS ?_
  rcases Nat.lt_or_ge 512 b.length with gE|gE
  ·refine rS m<|tT 2 ((512:Int)<((b.length :Nat):Int))<|sE [(18,.bool true)] fun a m=>tK<|cT 18 m<|qP [(6,.int .i64 5)] m fun a m=>cR (yT ?_)
   refine rT 6 (.int .i64 5) m ?_
   rw[gX hok gE];exact⟨rfl,⟨_,_,_,_,_,_,md.ext r⟩,RG.aK r⟩
  ·refine rS m<|tX 2 ((512:Int)<((b.length :Nat):Int))<|sE [(18,.bool false)] fun a m=>tK<|cF 18 m<|cN<|tK ?_
   refine qS m<|tC 2 (.tuple #[nV A.length,.bool false]) (Does.call (f:=78) (args:= #[pV rb,.string s]) (by kernel_rfl) (kQ _ rb M (A++B) oa oc ea ec es (md.ext r) s A.length false (.no hA hB) hE))<|sT [(7,nV A.length),(8,.bool false)] fun a m=>cS<|qP [(25,.bool false)] m fun a m=>cF 25 m<|cN ?_
   refine tK<|qS m<|tN 0 (.slice (some ⟨h.size,0,none⟩) 0 0) #[] 5 fun h1 g2 m3=> ?_
   replace c:=c.nw r.size m3
   have d:Own h1 (.slice (some ⟨h.size,0,none⟩) 0 0) 5 ([]:List UInt8).length 1 (([]:List UInt8).map bv):=Own.empty 1 m3
   replace c:Sep h.size h1.size [(some ⟨h.size,0,none⟩:Option Addr).map (·.block)]:=c
   replace r:=r.ext g2
   clear m3
   refine tP 2 b.length 1 (b.map bv) d (hr.ext r) (aE _) (fun w u h8 d g6 hb7=> ?_)
   have s9:=c
   replace c:=c.sa g6 0 hb7 d r.size;clear hb7
   refine sT [(2,.slice w b.length u)] fun a m=>cS<|C.mono (K:=fun e a hJ=>∃(u5:Nat),e= .normal ∧(Ext h hJ)∧(Own hJ (.slice w b.length u) 5 b.length 1 (b.map bv))∧(hJ[u5]? =some (.cells (rc (jN s ((b.length :Nat):Int) (bE b) ((M.E.length :Nat):Int)) 0 false false (.slice none 0 0)).toArray 95))∧(Sep h.size hJ.size [some u5,w.map (·.block)])∧Fr a 86 [(0,.pointer (some ⟨rb,0,none⟩)),(1,.string s),(2,.slice w b.length u),(7,.int .i64 ((A.length :Nat):Int)),(9,.pointer (some ⟨u5,0,none⟩))]) ?_ ?_
   ·refine cD [0,0,2,0,8,0,32,96,224,480,1023,0,4095] 9 mixed m<|mP 239 [0,1,2,3,5,6,7] [.string s,.slice w b.length u,nV b.length,.slice w b.length u,pV rb,pV rb,.pointer (some ⟨rb,1,none⟩)] ?_
    replace r:=r.grew g6 (s9.l 0)
    refine mO 495 256 8 1 (.slice ea M.E.length ec) (r.blk hm)<|mP 1007 [9] [nV M.E.length]<|aH.oK (is:=[4,11]) (by kernel_rfl) (by simp) ?_
    intro q hq
    simp only[List.mem_cons,List.not_mem_nil,or_false] at hq
    rcases hq with rfl|rfl
    ·refine qg 1023 24 4 [8] (Does.call (f:=79) (args:= #[.slice w b.length u]) (by kernel_rfl) (tm _ b _ _ d.row (by omega))) ?_
     rintro _ X ⟨rfl,g12⟩
     replace r:=r.ext g12
     refine⟨?_,?_⟩
     ·intro j hj
      simp only[List.mem_cons,List.not_mem_nil,or_false] at hj
      subst hj
      exact aG (Calm.load (T:=67) (p:=⟨rb,1,none⟩) (by kernel_rfl) (Loads.one (k:=1) (by kernel_rfl) ((an (r.blk hm)).trans rfl)))
     refine mP 2047 [10] [.agg (rc (jN s ((b.length :Nat):Int) (bE b) ((M.E.length :Nat):Int)) 0 false false (.slice none 0 0)).toArray]<|fT 4095 2072 11 [8] (Does.new (v:= .pointer (some ⟨X.size,0,none⟩)) (o:= .cells (bY).toArray 95) (by kernel_rfl)) ?_
     rintro _ kA ⟨rfl,hh⟩
     have g15:Ext X kA:=aY hh
     have m16:kA[X.size]? =some (.cells (bY).toArray 95):=bj hh
     clear hh
     replace c:=(c.up g12.size).nw r.size m16
     replace r:=r.ext g15
     refine⟨?_,?_⟩
     ·intro j hj
      simp only[List.mem_cons,List.not_mem_nil,or_false] at hj
      subst hj
      exact aG (Calm.load (T:=67) (p:=⟨rb,1,none⟩) (by kernel_rfl) (Loads.one (k:=1) (by kernel_rfl) ((an (r.blk hm)).trans rfl)))
     refine mV 8191 8191 12 0 (rc (jN s ((b.length :Nat):Int) (bE b) ((M.E.length :Nat):Int)) 0 false false (.slice none 0 0)) (rc (jN s ((b.length :Nat):Int) (bE b) ((M.E.length :Nat):Int)) 0 false false (.slice none 0 0)) m16 fun h17 g18 zq=> ?_
     replace m16:=zq
     refine mE [(9,pV X.size)] fun a m=> ?_
     replace c:=c.up g18.size
     have iM:=c.pick (l':=[some X.size,w.map (·.block)]) [0,1] rfl (by decide)
     replace d:=((d.ext g12).ext g15).k g18 (c.ap 1 0)
     replace r:=r.grew g18 (c.l 0)
     exact⟨X.size,rfl,r,d,m16,iM,m.to⟩
    ·refine qg 3055 2048 11 [8] (Does.new (v:= .pointer (some ⟨h8.size,0,none⟩)) (o:= .cells (bY).toArray 95) (by kernel_rfl)) ?_
     rintro _ h19 ⟨rfl,hh⟩
     have g20:Ext h8 h19:=aY hh
     have Y:h19[h8.size]? =some (.cells (bY).toArray 95):=bj hh
     clear hh
     replace c:=c.nw r.size Y
     replace r:=r.ext g20
     refine⟨?_,?_⟩
     ·intro j hj
      simp only[List.mem_cons,List.not_mem_nil,or_false] at hj
      subst hj
      exact aG (Calm.load (T:=67) (p:=⟨rb,1,none⟩) (by kernel_rfl) (Loads.one (k:=1) (by kernel_rfl) ((an (r.blk hm)).trans rfl)))
     replace d:=d.ext g20
     refine fT 3071 2072 4 [8] (Does.call (f:=79) (args:= #[.slice w b.length u]) (by kernel_rfl) (tm _ b _ _ d.row (by omega))) ?_
     rintro _ h23 ⟨rfl,g22⟩
     replace r:=r.ext g22
     refine⟨?_,?_⟩
     ·intro j hj
      simp only[List.mem_cons,List.not_mem_nil,or_false] at hj
      subst hj
      exact aG (Calm.load (T:=67) (p:=⟨rb,1,none⟩) (by kernel_rfl) (Loads.one (k:=1) (by kernel_rfl) ((an (r.blk hm)).trans rfl)))
     refine mP 4095 [10] [.agg (rc (jN s ((b.length :Nat):Int) (bE b) ((M.E.length :Nat):Int)) 0 false false (.slice none 0 0)).toArray] ?_
     replace Y:=Y.x g22
     refine mV 8191 8191 12 0 (rc (jN s ((b.length :Nat):Int) (bE b) ((M.E.length :Nat):Int)) 0 false false (.slice none 0 0)) (rc (jN s ((b.length :Nat):Int) (bE b) ((M.E.length :Nat):Int)) 0 false false (.slice none 0 0)) Y fun Bv mX zq=> ?_
     replace Y:=zq
     refine mE [(9,pV h8.size)] fun a m=> ?_
     replace c:=(c.up g22.size).up mX.size
     have iM:=c.pick (l':=[some h8.size,w.map (·.block)]) [0,1] rfl (by decide)
     replace d:=(d.ext g22).k mX (c.ap 1 0)
     replace r:=r.grew mX (c.l 0)
     exact⟨h8.size,rfl,r,d,Y,iM,m.to⟩
   ·clear m a r d c
    rintro e a kg ⟨u5,rfl,r,d,gK,c,m⟩
    refine tK<|qS m<|tN 0 (.slice (some ⟨kg.size,0,none⟩) 0 0) #[] 97 fun h27 xe Kl=> ?_
    replace c:=c.nw r.size Kl
    have g:Own h27 (.slice (some ⟨kg.size,0,none⟩) 0 0) 97 ([]:List RO).length 40 (bz []):=Own.empty 40 Kl
    replace c:Sep h.size h27.size [(some ⟨kg.size,0,none⟩:Option Addr).map (·.block),some u5,w.map (·.block)]:=c
    replace r:=r.ext xe
    replace d:=d.ext xe
    replace gK:=gK.x xe
    clear Kl
    refine tO 4 0 (r.blk hm)<|tC 6 (.slice oa A.length oc) ((fun h=>Calm.b7 (a:=oa) (len:=((A++B).length)) (cap:=oc) (sz:=40) (x:=oa) 0 A.length oc A.length oc (by kernel_rfl) (.inl ⟨rfl,rfl⟩) (.inr rfl) (.inl ⟨rfl,rfl⟩) (by omega) (by omega) MZ (by first|rfl|omega) (by first|rfl|omega) h) _)<|tP 7 A.length 128 (bz A) g ((md.row.1.ext r).FG) (dR _) (fun Km Gx vk g HI Gy=> ?_) (hZ:=by first|rfl|exact List.flatMap_append.symm |simp[bz])
    have Kn:=c
    replace c:=c.sa HI 0 Gy g r.size;clear Gy
    refine sT [(10,.slice Km A.length Gx)] fun a m=>qS m ?_
    replace gK:=gK.y HI (Kn.bp 1 0)
    refine tR 1 gK<|tN 4 (.slice (some ⟨vk.size,0,none⟩) 1 1) ((c8 (jN s ((b.length :Nat):Int) (bE b) ((M.E.length :Nat):Int)) 0 false false (.slice none 0 0) (.slice w b.length u)).toArray) 97 fun Cm oq F=> ?_
    replace r:=r.grew HI (Kn.l 0)
    replace c:=c.nw r.size F
    replace g:=g.ext oq
    refine tP 5 (A.length +1) 128 (bz (A++[ry s b M.E.length w u])) g (Row.FF (x:=ry s b M.E.length w u) F) (dR _) (fun Ko Gz h43 g rn GA=> ?_) (ys:=(bz ([ry s b M.E.length w u]))) (hZ:=by first|rfl|exact List.flatMap_append.symm |simp[bz])
    replace r:=r.ext oq
    have s44:=c
    replace c:=c.sa rn 1 GA g r.size;clear GA
    refine sT [(10,.slice Ko (A.length +1) Gz)] fun a m=>qS m ?_
    replace r:=r.grew rn (s44.l 1)
    refine tO 5 0 (r.blk hm) ?_
    obtain⟨xd,hxd⟩:∃x,x=(if oc=A.length then oa else oa.map (·.add (A.length *40))):=⟨_,rfl⟩
    refine tC 7 (.slice xd ((A++B).length - A.length) (oc - A.length)) ((fun h=>Calm.b7 (a:=oa) (len:=((A++B).length)) (cap:=oc) (sz:=40) (x:=xd) A.length ((A++B).length) oc ((A++B).length - A.length) (oc - A.length) (by kernel_rfl) (.inl ⟨rfl,rfl⟩) (.inl ⟨rfl,rfl⟩) (.inr rfl) (by omega) (by omega) hxd (by first|rfl|omega) (by first|rfl|omega) h) _)<|tP 8 ((A++ry s b M.E.length w u::B).length) 128 (bz (A++ry s b M.E.length w u::B)) g ((md.row.1.ext r).FH hxd) (dR _) (fun N H D_ g g47 hb48=> ?_) (hZ:=by first|rfl|exact List.flatMap_append.symm |simp[bz])
    have C1:=c
    replace c:=c.sa g47 1 hb48 g r.size;clear hb48
    replace d:=(((d.k HI (Kn.ap 2 0)).ext oq).k rn (s44.ap 3 1)).k g47 (C1.ap 3 1)
    replace gK:=((gK.x oq).y rn (s44.bp 2 1)).y g47 (C1.bp 2 1)
    replace F:=(F.y rn (s44.bp 0 1)).y g47 (C1.bp 0 1)
    replace r:=r.grew g47 (C1.l 1)
    refine tW 11 0 [.slice N ((A++ry s b M.E.length w u::B).length) H] [.slice oa ((A++B).length) oc,.slice ea M.E.length ec,.int .i64 M.t] [.slice N ((A++ry s b M.E.length w u::B).length) H,.slice ea M.E.length ec,.int .i64 M.t] (r.blk hm) (fun y7 L hmD=> ?_)
    have G:RG rb h y7:=RG.one r L
    replace d:=d.kept L (by rw[af];right;intro e;have:=c.low 3 rfl _ e;omega)
    replace g:=g.kept L (by rw[af];right;intro e;have:=c.low 1 rfl _ e;omega)
    replace gK:=L.blk gK (fun e=>by have:=c.low 2 rfl _ rfl;cases e;omega)
    replace F:=L.blk F (fun e=>by have:=c.low 0 rfl _ rfl;cases e;omega)
    replace c:=c.up L.1
    have hm2:=hmD;clear hmD L
    refine sT [] fun a m=>qS m<|tO 2 1 gK<|tQ 4 2 ((hl (jN s ((b.length :Nat):Int) (bE b) ((M.E.length :Nat):Int))).map bv) gK<|tG 5 (x5 _ s b.length (bE b) (jN s ((b.length :Nat):Int) (bE b) ((M.E.length :Nat):Int)) (wE (dQ b)) hok (by omega)) ?_
    rintro _ D5 ⟨O,I,rfl,D,Kp,S⟩
    replace c:=c.co S Kp D G.1
    refine sT [(11,.slice O ((dq s b.length (bE b)).length) I)] fun a m=>qS m<|tN 1 (.slice (some ⟨D5.size,0,none⟩) 0 0) #[] 32 fun h57 U Kq=> ?_
    replace G:=G.ext S
    replace c:=c.nw G.1 Kq
    have z:Own h57 (.slice (some ⟨D5.size,0,none⟩) 0 0) 32 ([]:List Value).length 1 ([]:List Value):=Own.empty 1 Kq
    replace c:Sep h.size h57.size [(some ⟨D5.size,0,none⟩:Option Addr).map (·.block),O.map (·.block),some (vk.size),N.map (·.block),some u5,w.map (·.block)]:=c
    replace d:=(d.ext S).ext U
    replace g:=(g.ext S).ext U
    replace hm2:=U.blk (S.blk hm2)
    replace gK:=(gK.x S).x U
    replace F:=(F.x S).x U
    replace G:=G.ext U
    replace D:=D.ext U
    clear Kq
    refine tO 5 1 hm2<|tP 6 (0+M.E.length) 24 es z ((md.MY G).1.1) (fp md.en) (fun Oj L0 h64 z P GB=> ?_) (ys:=es)
    have V:=c
    replace c:=c.sa P 0 GB z G.1;clear GB
    refine tN 8 (.slice (some ⟨h64.size,0,none⟩) 1 1) #[.slice O ((dq s b.length (bE b)).length) I] 32 fun Hj Q Z=> ?_
    replace G:=G.bX P (fun i e=> .inr (by have:=V.low 0 rfl i e;omega))
    replace c:=c.nw G.1 Z
    replace z:=z.ext Q
    refine tP 9 (M.E.length +1) 24 (es++[.slice O ((dq s b.length (bE b)).length) I]) z (Row.blk (n:=1) (sz:=1) (l:=[.slice O ((dq s b.length (bE b)).length) I]) Z rfl) (List.all_eq_true.1 (by rfl)) (fun tD BQ zu z J tL=> ?_)
    replace G:=G.ext Q
    have R:=c
    replace c:=c.sa J 1 tL z G.1;clear tL
    replace d:=((d.k P (V.ap 5 0)).ext Q).k J (R.ap 6 1)
    replace g:=((g.k P (V.ap 3 0)).ext Q).k J (R.ap 4 1)
    replace hm2:=J.blk (Q.blk (P.blk hm2 (fun e=>by have:=V.low 0 rfl _ e.symm;omega))) (fun e=>by have:=R.low 1 rfl _ e.symm;omega)
    replace D:=((D.k P (V.ap 1 0)).ext Q).k J (R.ap 2 1)
    replace gK:=((gK.y P (V.bp 4 0)).x Q).y J (R.bp 5 1)
    replace F:=((F.y P (V.bp 2 0)).x Q).y J (R.bp 3 1)
    replace G:=G.bX J (fun i e=> .inr (by have:=R.low 1 rfl i e;omega))
    replace Z:=Z.y J (R.bp 0 1)
    refine tW 12 1 [.slice tD (M.E.length +1) BQ] [.slice N ((A++ry s b M.E.length w u::B).length) H,.slice ea M.E.length ec,.int .i64 M.t] [.slice N ((A++ry s b M.E.length w u::B).length) H,.slice tD (M.E.length +1) BQ,.int .i64 M.t] hm2 (fun Ax L hmD=> ?_)
    replace G:RG rb h Ax:=RG.again G L
    replace d:=d.kept L (by rw[af];right;intro e;have:=c.low 6 rfl _ e;omega)
    replace g:=g.kept L (by rw[af];right;intro e;have:=c.low 4 rfl _ e;omega)
    replace D:=D.kept L (by rw[af];right;intro e;have:=c.low 2 rfl _ e;omega)
    replace z:=z.kept L (by rw[af];right;intro e;have:=c.low 1 rfl _ e;omega)
    replace gK:=L.blk gK (fun e=>by have:=c.low 5 rfl _ rfl;cases e;omega)
    replace F:=L.blk F (fun e=>by have:=c.low 3 rfl _ rfl;cases e;omega)
    replace Z:=L.blk Z (fun e=>by have:=c.low 0 rfl _ rfl;cases e;omega)
    replace c:=c.up L.1
    clear hm2;have hm2:=hmD;clear hmD L
    refine sT [] fun a m=>qP [(6,.int .i64 0)] m fun a m=>cR<|rT 6 (.int .i64 0) m ?_
    have hel:=jm s b.length (dQ b)
    have hsl:=gV hok
    rw[jo hok gE hf];exact⟨rfl,md.put (y:=ry s b M.E.length w u) hA hB rfl gE rfl G hm2 (jE.of g) (Row.nil _ 4) (cr.new d (by decide) hW (c.low 6 rfl)) (cr.new z (by decide) hW (c.low 1 rfl)) (by omega) (cr.new D (by decide) hW (c.low 2 rfl)),G⟩
 ·refine rS m<|tC 1 (.bool true) (Does.call (f:=27) (args:= #[.string s]) (by kernel_rfl) (dS _ s hok))<|sE [(15,.bool false)] fun a m=>tK<|cF 15 m<|cN<|tK ?_
  refine cS<|cS ?_
  rcases Nat.lt_or_ge 512 b.length with gE|gE
  ·refine rS m<|tT 2 ((512:Int)<((b.length :Nat):Int))<|sE [(18,.bool true)] fun a m=>tK<|cT 18 m<|qP [(6,.int .i64 5)] m fun a m=>cR (yT ?_)
   refine rT 6 (.int .i64 5) m ?_
   rw[gX hok gE];exact⟨rfl,⟨_,_,_,_,_,_,md.ext r⟩,RG.aK r⟩
  ·refine rS m<|tX 2 ((512:Int)<((b.length :Nat):Int))<|sE [(18,.bool false)] fun a m=>tK<|cF 18 m<|cN<|tK ?_
   refine qS m<|tC 2 (.tuple #[nV A.length,.bool true]) (Does.call (f:=78) (args:= #[pV rb,.string s]) (by kernel_rfl) (kQ _ rb M (A++x::B) oa oc ea ec es (md.ext r) s A.length true (.yes hA hs) hE))<|sT [(7,nV A.length),(8,.bool true)] fun a m=>cS<|qP [(25,.bool true)] m fun a m=>cT 25 m<|qP [(6,.int .i64 212)] m fun a m=> ?_
   refine cR (yT ?_)
   refine rT 6 (.int .i64 212) m ?_
   rw[iI hok gE hf];exact⟨rfl,⟨_,_,_,_,_,_,md.ext r⟩,RG.aK r⟩
noncomputable def b41:Code:=Tryz.f41.body.getD .skip
set_option maxHeartbeats 2000000 in
theorem x8(h:Heap)(L:List Rec)(va:Option Addr)(vc:Nat)(now:Int)(hr:Row h (.slice va L.length vc) L.length 39 (a7 L))(hL:L.length ≤1099511627):Sat Tryz.prog 41 #[.slice va L.length vc,.int .i64 now] h fun v h'=>∃(M:List Rec) (ad:Option Addr) (cap:Nat),M.Perm (L.filter (dI now))∧M.Pairwise fP∧v= .slice ad M.length cap∧Own h' (.slice ad M.length cap) 9 M.length 1 ((ids M).map Value.string)∧(∀k,ad.map (fun(x:Addr)=>x.block)=some k→h.size ≤k)∧Ext h h':=by
 have q:=Ext.refl h
 have c:Sep h.size h.size []:=Sep.nil _ _
 refine ag Tryz.func41 114 fun a o=>qP [] o fun a o=>qS o<|tN 0 (.slice (some ⟨h.size,0,none⟩) 0 0) #[] 95 fun h1 g2 m3=> ?_
 replace c:=c.nw q.size m3
 have d:Own h1 (.slice (some ⟨h.size,0,none⟩) 0 0) 95 ([]:List Rec).length 39 (a7 []):=Own.empty 39 m3
 replace c:Sep h.size h1.size [(some ⟨h.size,0,none⟩:Option Addr).map (·.block)]:=c
 replace q:=q.ext g2
 clear m3
 refine sT [(5,.slice (some ⟨h.size,0,none⟩) 0 0)] fun a o=>cS<|qP [(6,.int .i64 0)] o fun a o=>cB 0<|cL (fun m a h'=>∃i:Nat,∃D:List Rec,∃ad:Option Addr,∃cap:Nat,m=L.length - i∧(Ext h h')∧(i≤L.length)∧((L.take i).filter (dI now)=D)∧(Own h' (.slice ad D.length cap) 95 D.length 39 (a7 D))∧(Sep h.size h'.size [ad.map (·.block)])∧(Fr a 114 [(0,.slice va L.length vc),(1,.int .i64 now),(5,.slice ad D.length cap),(6,.int .i64 ((i:Nat):Int))])) (L.length - 0) ⟨0,[],(some ⟨h.size,0,none⟩),0,rfl,q,(by omega),rfl,d,c,o.to⟩ ?_
 clear o a
 clear q
 clear d
 clear c
 rintro m a W ⟨i,D,ad,cap,rfl,q,hi,hD,d,c,o⟩
 refine cS<|qP [(16,.bool (decide (((i:Nat):Int)<((L.length :Nat):Int))))] o fun a o=>cJ 16 o (fun hc5=> ?_) fun hc5=> ?_
 ·have hia:i<L.length :=by omega
  have hDl:=nU hD
  obtain⟨aa,rfl,bW⟩:=hr.bg (by omega)
  refine cN<|tK<|cS<|cB 1<|cS ?_
  rcases Bool.eq_false_or_eq_true (L.getD i ai).go with hgo|hgo
  rotate_left 1
  rcases Bool.eq_false_or_eq_true (L.getD i ai).ho with hho|hho
  rotate_left 1
  rcases Int.lt_or_le 0 (L.getD i ai).e with hpos|hpos
  rcases Int.lt_or_le now (L.getD i ai).e with GC|GC
  rotate_left 1
  ·have hD2:=wc hia hD (ji.2 ⟨hpos,hgo,hho,GC⟩)
   refine rS o<|tI 2 aa L.length 39 i (i*39)<|t1 3 (.pointer (some (Addr.add aa ((i*39)+37)))) (.pointer (some ((Addr.add aa (i*39)).add 37))) (by rw[add_add])<|tC 4 (.bool false) (Calm.load (T:=4) (p:=(Addr.add aa ((i*39)+37))) (by kernel_rfl) (Loads.one (k:=1) (by kernel_rfl) ((Row.qV (i:=i) (j:=37) (u:= .bool ((L.getD i ai).go)) (hr.ext q) (by omega) rfl).trans (by rw[hgo]))))<|tI 9 aa L.length 39 i (i*39)<|t1 10 (.pointer (some (Addr.add aa ((i*39)+36)))) (.pointer (some ((Addr.add aa (i*39)).add 36))) (by rw[add_add])<|tC 11 (.bool false) (Calm.load (T:=4) (p:=(Addr.add aa ((i*39)+36))) (by kernel_rfl) (Loads.one (k:=1) (by kernel_rfl) ((Row.qV (i:=i) (j:=36) (u:= .bool ((L.getD i ai).ho)) (hr.ext q) (by omega) rfl).trans (by rw[hho])))) ?_
   refine tI 17 aa L.length 39 i (i*39)<|t1 18 (.pointer (some (Addr.add aa ((i*39)+35)))) (.pointer (some ((Addr.add aa (i*39)).add 35))) (by rw[add_add])<|tC 19 (.int .i64 ((L.getD i ai).e)) (Calm.load (T:=3) (p:=(Addr.add aa ((i*39)+35))) (by kernel_rfl) (Loads.one (k:=1) (by kernel_rfl) (Row.qV (i:=i) (j:=35) (u:= .int .i64 ((L.getD i ai).e)) (hr.ext q) (by omega) rfl)))<|tT 20 ((0:Int)<((L.getD i ai).e))<|tI 25 aa L.length 39 i (i*39)<|t1 26 (.pointer (some (Addr.add aa ((i*39)+35)))) (.pointer (some ((Addr.add aa (i*39)).add 35))) (by rw[add_add])<|tC 27 (.int .i64 ((L.getD i ai).e)) (Calm.load (T:=3) (p:=(Addr.add aa ((i*39)+35))) (by kernel_rfl) (Loads.one (k:=1) (by kernel_rfl) (Row.qV (i:=i) (j:=35) (u:= .int .i64 ((L.getD i ai).e)) (hr.ext q) (by omega) rfl))) ?_
   refine tT 29 (((L.getD i ai).e)≤now)<|sE [(49,.bool true)] fun a o=>tK<|cT 49 o<|rS o<|tI 3 aa L.length 39 i (i*39)<|tY 4 i ai bf (hr.ext q) ?_
   refine tN 5 (.slice (some ⟨W.size,0,none⟩) 1 1) ((a7 [L.getD i ai]).toArray) 95 fun h6 g7 m8=> ?_
   replace c:=c.nw q.size m8
   replace d:=d.ext g7
   refine tP 6 ((D++[L.getD i ai]).length) 104 (a7 (D++[L.getD i ai])) d (Row.blk (n:=1) (sz:=39) (l:=a7 [L.getD i ai]) m8 rfl) (ed _) (fun X J h13 d g11 P=> ?_) (ys:=(a7 ([L.getD i ai]))) (hZ:=by first|rfl|exact List.flatMap_append.symm |simp[a7])
   replace q:=q.ext g7
   have s14:=c
   replace c:=c.sa g11 1 P d q.size;clear P
   refine sE [(5,.slice X ((D++[L.getD i ai]).length) J)] fun a o=>bK<|tK<|rS o<|tA 1 i 1<|sE [(6,nV (i+1))] fun a o=> ?_
   clear m8
   replace q:=q.grew g11 (s14.l 1)
   replace c:=c.sub (l':=[X.map (·.block)]) (.cons _ (.cons_cons _ (.slnil)))
   show ∃m',m'<_∧_
   refine⟨_,?_,(i+1),(D++[L.getD i ai]),X,J,rfl,q,(by omega),hD2,d,c,o.to⟩
   omega
  ·have hD2:=mM hia hD (now:=now) (ly (by omega))
   refine rS o<|tI 2 aa L.length 39 i (i*39)<|t1 3 (.pointer (some (Addr.add aa ((i*39)+37)))) (.pointer (some ((Addr.add aa (i*39)).add 37))) (by rw[add_add])<|tC 4 (.bool false) (Calm.load (T:=4) (p:=(Addr.add aa ((i*39)+37))) (by kernel_rfl) (Loads.one (k:=1) (by kernel_rfl) ((Row.qV (i:=i) (j:=37) (u:= .bool ((L.getD i ai).go)) (hr.ext q) (by omega) rfl).trans (by rw[hgo]))))<|tI 9 aa L.length 39 i (i*39)<|t1 10 (.pointer (some (Addr.add aa ((i*39)+36)))) (.pointer (some ((Addr.add aa (i*39)).add 36))) (by rw[add_add])<|tC 11 (.bool false) (Calm.load (T:=4) (p:=(Addr.add aa ((i*39)+36))) (by kernel_rfl) (Loads.one (k:=1) (by kernel_rfl) ((Row.qV (i:=i) (j:=36) (u:= .bool ((L.getD i ai).ho)) (hr.ext q) (by omega) rfl).trans (by rw[hho])))) ?_
   refine tI 17 aa L.length 39 i (i*39)<|t1 18 (.pointer (some (Addr.add aa ((i*39)+35)))) (.pointer (some ((Addr.add aa (i*39)).add 35))) (by rw[add_add])<|tC 19 (.int .i64 ((L.getD i ai).e)) (Calm.load (T:=3) (p:=(Addr.add aa ((i*39)+35))) (by kernel_rfl) (Loads.one (k:=1) (by kernel_rfl) (Row.qV (i:=i) (j:=35) (u:= .int .i64 ((L.getD i ai).e)) (hr.ext q) (by omega) rfl)))<|tX 20 ((0:Int)<((L.getD i ai).e))<|sE [(49,.bool false)] fun a o=>tK<|cF 49 o ?_
   refine cN<|bK<|tK<|rS o<|tA 1 i 1<|sE [(6,nV (i+1))] fun a o=> ?_
   replace c:=c.sub (l':=[ad.map (·.block)]) (.cons_cons _ (.slnil))
   show ∃m',m'<_∧_
   refine⟨_,?_,(i+1),D,ad,cap,rfl,q,(by omega),hD2,d,c,o.to⟩
   omega
  ·have hD2:=mM hia hD (now:=now) (kJ (fun hb=>absurd (hgo.symm.trans hb.1) (by decide)))
   refine rS o<|tI 2 aa L.length 39 i (i*39)<|t1 3 (.pointer (some (Addr.add aa ((i*39)+37)))) (.pointer (some ((Addr.add aa (i*39)).add 37))) (by rw[add_add])<|tC 4 (.bool true) (Calm.load (T:=4) (p:=(Addr.add aa ((i*39)+37))) (by kernel_rfl) (Loads.one (k:=1) (by kernel_rfl) ((Row.qV (i:=i) (j:=37) (u:= .bool ((L.getD i ai).go)) (hr.ext q) (by omega) rfl).trans (by rw[hgo]))))<|sE [(49,.bool false)] fun a o=>tK<|cF 49 o ?_
   refine cN<|bK<|tK<|rS o<|tA 1 i 1<|sE [(6,nV (i+1))] fun a o=> ?_
   replace c:=c.sub (l':=[ad.map (·.block)]) (.cons_cons _ (.slnil))
   show ∃m',m'<_∧_
   refine⟨_,?_,(i+1),D,ad,cap,rfl,q,(by omega),hD2,d,c,o.to⟩
   omega
  ·have hD2:=mM hia hD (now:=now) (kJ (fun hb=>absurd (hho.symm.trans hb.2.1) (by decide)))
   refine rS o<|tI 2 aa L.length 39 i (i*39)<|t1 3 (.pointer (some (Addr.add aa ((i*39)+37)))) (.pointer (some ((Addr.add aa (i*39)).add 37))) (by rw[add_add])<|tC 4 (.bool false) (Calm.load (T:=4) (p:=(Addr.add aa ((i*39)+37))) (by kernel_rfl) (Loads.one (k:=1) (by kernel_rfl) ((Row.qV (i:=i) (j:=37) (u:= .bool ((L.getD i ai).go)) (hr.ext q) (by omega) rfl).trans (by rw[hgo]))))<|tI 9 aa L.length 39 i (i*39)<|t1 10 (.pointer (some (Addr.add aa ((i*39)+36)))) (.pointer (some ((Addr.add aa (i*39)).add 36))) (by rw[add_add])<|tC 11 (.bool true) (Calm.load (T:=4) (p:=(Addr.add aa ((i*39)+36))) (by kernel_rfl) (Loads.one (k:=1) (by kernel_rfl) ((Row.qV (i:=i) (j:=36) (u:= .bool ((L.getD i ai).ho)) (hr.ext q) (by omega) rfl).trans (by rw[hho])))) ?_
   refine sE [(49,.bool false)] fun a o=>tK<|cF 49 o<|cN<|bK<|tK<|rS o ?_
   refine tA 1 i 1<|sE [(6,nV (i+1))] fun a o=> ?_
   replace c:=c.sub (l':=[ad.map (·.block)]) (.cons_cons _ (.slnil))
   show ∃m',m'<_∧_
   refine⟨_,?_,(i+1),D,ad,cap,rfl,q,(by omega),hD2,d,c,o.to⟩
   omega
  ·have hD2:=mM hia hD (now:=now) (kJ (fun hb=>by have:=hb.2.2;omega))
   refine rS o<|tI 2 aa L.length 39 i (i*39)<|t1 3 (.pointer (some (Addr.add aa ((i*39)+37)))) (.pointer (some ((Addr.add aa (i*39)).add 37))) (by rw[add_add])<|tC 4 (.bool false) (Calm.load (T:=4) (p:=(Addr.add aa ((i*39)+37))) (by kernel_rfl) (Loads.one (k:=1) (by kernel_rfl) ((Row.qV (i:=i) (j:=37) (u:= .bool ((L.getD i ai).go)) (hr.ext q) (by omega) rfl).trans (by rw[hgo]))))<|tI 9 aa L.length 39 i (i*39)<|t1 10 (.pointer (some (Addr.add aa ((i*39)+36)))) (.pointer (some ((Addr.add aa (i*39)).add 36))) (by rw[add_add])<|tC 11 (.bool false) (Calm.load (T:=4) (p:=(Addr.add aa ((i*39)+36))) (by kernel_rfl) (Loads.one (k:=1) (by kernel_rfl) ((Row.qV (i:=i) (j:=36) (u:= .bool ((L.getD i ai).ho)) (hr.ext q) (by omega) rfl).trans (by rw[hho])))) ?_
   refine tI 17 aa L.length 39 i (i*39)<|t1 18 (.pointer (some (Addr.add aa ((i*39)+35)))) (.pointer (some ((Addr.add aa (i*39)).add 35))) (by rw[add_add])<|tC 19 (.int .i64 ((L.getD i ai).e)) (Calm.load (T:=3) (p:=(Addr.add aa ((i*39)+35))) (by kernel_rfl) (Loads.one (k:=1) (by kernel_rfl) (Row.qV (i:=i) (j:=35) (u:= .int .i64 ((L.getD i ai).e)) (hr.ext q) (by omega) rfl)))<|tT 20 ((0:Int)<((L.getD i ai).e))<|tI 25 aa L.length 39 i (i*39)<|t1 26 (.pointer (some (Addr.add aa ((i*39)+35)))) (.pointer (some ((Addr.add aa (i*39)).add 35))) (by rw[add_add])<|tC 27 (.int .i64 ((L.getD i ai).e)) (Calm.load (T:=3) (p:=(Addr.add aa ((i*39)+35))) (by kernel_rfl) (Loads.one (k:=1) (by kernel_rfl) (Row.qV (i:=i) (j:=35) (u:= .int .i64 ((L.getD i ai).e)) (hr.ext q) (by omega) rfl))) ?_
   refine tX 29 (((L.getD i ai).e)≤now)<|sE [(49,.bool false)] fun a o=>tK<|cF 49 o<|cN<|bK<|tK ?_
   refine rS o<|tA 1 i 1<|sE [(6,nV (i+1))] fun a o=> ?_
   replace c:=c.sub (l':=[ad.map (·.block)]) (.cons_cons _ (.slnil))
   show ∃m',m'<_∧_
   refine⟨_,?_,(i+1),D,ad,cap,rfl,q,(by omega),hD2,d,c,o.to⟩
   omega
 ·obtain rfl:i=L.length :=by omega
  have hDl:=nU hD
  rw[List.take_length] at hD
  refine cX 0 (xT (xT (xB ?_)))
  refine tK<|qS o<|tN 0 (.slice (some ⟨W.size,0,none⟩) 0 0) #[] 9 fun h15 g16 Y=> ?_
  replace c:=c.nw q.size Y
  have g:Own h15 (.slice (some ⟨W.size,0,none⟩) 0 0) 9 ([]:List ByteArray).length 1 (([]:List ByteArray).map Value.string):=Own.empty 1 Y
  replace c:Sep h.size h15.size [(some ⟨W.size,0,none⟩:Option Addr).map (·.block),ad.map (·.block)]:=c
  replace q:=q.ext g16
  replace d:=d.ext g16
  clear Y
  refine sT [(7,.slice (some ⟨W.size,0,none⟩) 0 0)] fun a o=>cS<|cB 2 ?_
  replace c:=c.pick (l':=[ad.map (·.block),(some ⟨W.size,0,none⟩:Option Addr).map (·.block)]) [1,0] rfl (by decide)
  refine cL (fun m a h'=>∃U:List Rec,∃Q:List Rec,∃ad:Option Addr,∃cap:Nat,∃B:Option Addr,∃C:Nat,m=Q.length ∧(Ext h h')∧(wo D U Q)∧(Own h' (.slice ad Q.length cap) 95 Q.length 39 (a7 Q))∧(Own h' (.slice B U.length C) 9 U.length 1 ((ids U).map Value.string))∧(Sep h.size h'.size [ad.map (·.block),B.map (·.block)])∧(Fr a 114 [(5,.slice ad Q.length cap),(7,.slice B U.length C)])) (D.length) ⟨[],D,ad,cap,(some ⟨W.size,0,none⟩),0,rfl,q,(wo.start _),d,g,c,o.to⟩ ?_
  clear o a
  clear q
  clear d
  clear g
  clear c
  rintro m a h18 ⟨U,Q,ad,cap,B,C,rfl,q,hsel,d,g,c,o⟩
  have hsl:=hsel.len
  refine cS<|qP [(60,.bool (decide ((0:Int)<((Q.length :Nat):Int))))] o fun a o=>cJ 60 o (fun hc19=> ?_) fun hc19=> ?_
  ·have hQ0:0<Q.length :=by omega
   obtain⟨ab,rfl,ov⟩:=d.bg (by omega)
   refine cN<|tK<|cB 3<|qP [(8,.int .i64 0)] o fun a o=>cS<|qP [(9,.int .i64 1)] o fun a o=>cB 4 ?_
   refine cL (fun m a h'=>∃k:Nat,∃f:Nat,m=Q.length - k∧(Ext h h')∧(f<k∧k≤Q.length)∧(∀j,j<k→fP (Q.getD f ai) (Q.getD j ai))∧(Own h' (.slice (some ab) Q.length cap) 95 Q.length 39 (a7 Q))∧(Own h' (.slice B U.length C) 9 U.length 1 ((ids U).map Value.string))∧(Sep h.size h'.size [(some ab:Option Addr).map (·.block),B.map (·.block)])∧(Fr a 114 [(5,.slice (some ab) Q.length cap),(7,.slice B U.length C),(8,.int .i64 ((f:Nat):Int)),(9,.int .i64 ((k:Nat):Int))])) (Q.length - 1) ⟨1,0,rfl,q,(by omega),(fun j hj=>by rw[show j=0 by omega];exact jl _),d,g,c,o.to⟩ ?_
   clear o a
   clear q
   clear d
   clear g
   clear c
   rintro m a N ⟨k,f,rfl,q,hfk,hmin,d,g,c,o⟩
   refine cS<|qP [(64,.bool (decide (((k:Nat):Int)<((Q.length :Nat):Int))))] o fun a o=>cJ 64 o (fun hc21=> ?_) fun hc21=> ?_
   ·have hkQ:k<Q.length :=by omega
    refine cN<|tK<|cS<|cB 5<|qS o<|tI 2 ab Q.length 39 k (k*39)<|tY 3 k ai bf (d.row) ?_
    refine tN 4 (pV N.size) ((bY).toArray) 95 fun h22 I r=> ?_
    replace c:=c.nw q.size r
    refine bA 5 (rcs (Q.getD k ai)) r fun wG E zq=> ?_
    replace r:=zq
    refine sT [(10,pV N.size)] fun a o=>qS o<|tI 2 ab Q.length 39 f (f*39) ?_
    replace d:=(d.ext I).k E (c.ap 1 0)
    refine tY 3 f ai bf (d.row)<|tN 4 (pV wG.size) ((bY).toArray) 95 fun h27 t w=> ?_
    replace q:=(q.ext I).grew E (c.l 0)
    replace c:=(c.up E.size).nw q.size w
    refine bA 5 (rcs (Q.getD f ai)) w fun h30 s zq=> ?_
    replace w:=zq
    refine sT [(11,pV wG.size)] fun a o=>cS ?_
    rcases Int.lt_or_le (Q.getD k ai).e (Q.getD f ai).e with hc|hc
    rotate_left 1
    rcases Int.lt_or_le (Q.getD f ai).e (Q.getD k ai).e with hd|hd
    rotate_left 1
    rcases Decidable.em (Lib.compareBytes (Q.getD k ai).b.id.data.toList (Q.getD f ai).b.id.data.toList <0) with hs|hs
    ·have lR:∀j,j<k+1→fP (Q.getD k ai) (Q.getD j ai):=fun j hj=>by
      rcases Nat.lt_or_ge j k with z|z
      ·exact cz (wk (by omega) (by omega)) (hmin j z)
      ·rw[show j=k by omega];exact jl _
     refine rS o ?_
     replace r:=(r.x t).y s (c.bp 1 0)
     refine tO 1 35 r<|tO 3 35 w<|tX 4 (((Q.getD k ai).e)<((Q.getD f ai).e))<|tO 7 35 r<|tO 9 35 w<|eT 10 ((Q.getD k ai).e) ((Q.getD f ai).e)<|tO 13 0 r ?_
     refine tO 15 0 w<|t1 16 (.bool true) (.bool (Op.bytesLess (((Q.getD k ai).b).id).toList (((Q.getD f ai).b).id).toList)) (congrArg Value.bool (wj hs))<|sE [(93,.bool true)] fun a o=>tK<|cT 93 o<|rP [(8,nV k)] o fun a o=>bK ?_
     refine tK<|rS o<|tA 1 k 1<|sE [(9,nV (k+1))] fun a o=> ?_
     clear r
     clear w
     replace g:=(((g.ext I).k E (c.ap 3 1)).ext t).k s (c.ap 3 0)
     replace q:=(q.ext t).grew s (c.l 0)
     replace d:=(d.ext t).k s (c.ap 2 0)
     replace c:=c.up s.size
     replace c:=c.sub (l':=[(some ab:Option Addr).map (·.block),B.map (·.block)]) (.cons _ (.cons _ (.cons_cons _ (.cons_cons _ (.slnil)))))
     show ∃m',m'<_∧_
     refine⟨_,?_,(k+1),k,rfl,q,(by omega),lR,d,g,c,o.to⟩
     omega
    ·have lR:∀j,j<k+1→fP (Q.getD f ai) (Q.getD j ai):=fun j hj=>by
      rcases Nat.lt_or_ge j k with z|z
      ·exact hmin j z
      ·rw[show j=k by omega];exact wk (by omega) (by rw[dH];omega)
     refine rS o ?_
     replace r:=(r.x t).y s (c.bp 1 0)
     refine tO 1 35 r<|tO 3 35 w<|tX 4 (((Q.getD k ai).e)<((Q.getD f ai).e))<|tO 7 35 r<|tO 9 35 w<|eT 10 ((Q.getD k ai).e) ((Q.getD f ai).e)<|tO 13 0 r ?_
     refine tO 15 0 w<|t1 16 (.bool false) (.bool (Op.bytesLess (((Q.getD k ai).b).id).toList (((Q.getD f ai).b).id).toList)) (congrArg Value.bool (sH hs))<|sE [(93,.bool false)] fun a o=>tK<|cF 93 o<|cN<|bK ?_
     refine tK<|rS o<|tA 1 k 1<|sE [(9,nV (k+1))] fun a o=> ?_
     clear r
     clear w
     replace g:=(((g.ext I).k E (c.ap 3 1)).ext t).k s (c.ap 3 0)
     replace q:=(q.ext t).grew s (c.l 0)
     replace d:=(d.ext t).k s (c.ap 2 0)
     replace c:=c.up s.size
     replace c:=c.sub (l':=[(some ab:Option Addr).map (·.block),B.map (·.block)]) (.cons _ (.cons _ (.cons_cons _ (.cons_cons _ (.slnil)))))
     show ∃m',m'<_∧_
     refine⟨_,?_,(k+1),f,rfl,q,(by omega),lR,d,g,c,o.to⟩
     omega
    ·have lR:∀j,j<k+1→fP (Q.getD k ai) (Q.getD j ai):=fun j hj=>by
      rcases Nat.lt_or_ge j k with z|z
      ·exact cz (Bz hc) (hmin j z)
      ·rw[show j=k by omega];exact jl _
     refine rS o ?_
     replace r:=(r.x t).y s (c.bp 1 0)
     refine tO 1 35 r<|tO 3 35 w<|tT 4 (((Q.getD k ai).e)<((Q.getD f ai).e))<|sE [(93,.bool true)] fun a o=>tK<|cT 93 o<|rP [(8,nV k)] o fun a o=> ?_
     refine bK<|tK<|rS o<|tA 1 k 1<|sE [(9,nV (k+1))] fun a o=> ?_
     clear r
     clear w
     replace g:=(((g.ext I).k E (c.ap 3 1)).ext t).k s (c.ap 3 0)
     replace q:=(q.ext t).grew s (c.l 0)
     replace d:=(d.ext t).k s (c.ap 2 0)
     replace c:=c.up s.size
     replace c:=c.sub (l':=[(some ab:Option Addr).map (·.block),B.map (·.block)]) (.cons _ (.cons _ (.cons_cons _ (.cons_cons _ (.slnil)))))
     show ∃m',m'<_∧_
     refine⟨_,?_,(k+1),k,rfl,q,(by omega),lR,d,g,c,o.to⟩
     omega
    ·have lR:∀j,j<k+1→fP (Q.getD f ai) (Q.getD j ai):=fun j hj=>by
      rcases Nat.lt_or_ge j k with z|z
      ·exact hmin j z
      ·rw[show j=k by omega];exact Bz hd
     refine rS o ?_
     replace r:=(r.x t).y s (c.bp 1 0)
     refine tO 1 35 r<|tO 3 35 w<|tX 4 (((Q.getD k ai).e)<((Q.getD f ai).e))<|tO 7 35 r<|tO 9 35 w<|eF 10 ((Q.getD k ai).e) ((Q.getD f ai).e)<|sE [(93,.bool false)] fun a o=> ?_
     refine tK<|cF 93 o<|cN<|bK<|tK<|rS o<|tA 1 k 1 ?_
     refine sE [(9,nV (k+1))] fun a o=> ?_
     clear r
     clear w
     replace g:=(((g.ext I).k E (c.ap 3 1)).ext t).k s (c.ap 3 0)
     replace q:=(q.ext t).grew s (c.l 0)
     replace d:=(d.ext t).k s (c.ap 2 0)
     replace c:=c.up s.size
     replace c:=c.sub (l':=[(some ab:Option Addr).map (·.block),B.map (·.block)]) (.cons _ (.cons _ (.cons_cons _ (.cons_cons _ (.slnil)))))
     show ∃m',m'<_∧_
     refine⟨_,?_,(k+1),f,rfl,q,(by omega),lR,d,g,c,o.to⟩
     omega
   ·have L1:f<Q.length :=by omega
    have hmin3:∀j,j<Q.length →fP (Q.getD f ai) (Q.getD j ai):=fun j hj=>hmin j (by omega)
    refine cX 4 (xT (xT (xB ?_)))
    refine tK<|qS o<|tI 3 ab Q.length 39 f (f*39)<|t1 4 (.pointer (some (Addr.add ab (f*39)))) (.pointer (some ((Addr.add ab (f*39)).add 0))) (by rw[add_add,Nat.add_zero])<|tC 5 (.string (((Q.getD f ai).b).id)) (Calm.load (T:=9) (p:=(Addr.add ab (f*39))) (by kernel_rfl) (Loads.one (k:=1) (by kernel_rfl) (Row.qV (i:=f) (j:=0) (u:= .string (((Q.getD f ai).b).id)) (d.row) (by omega) rfl)))<|tN 6 (.slice (some ⟨N.size,0,none⟩) 1 1) #[.string (((Q.getD f ai).b).id)] 9 fun h32 Z Kr=> ?_
    replace c:=c.nw q.size Kr
    replace g:=g.ext Z
    refine tP 7 ((U++[Q.getD f ai]).length) 16 ((ids U++[((Q.getD f ai).b).id]).map Value.string) g (Row.blk (n:=1) (sz:=1) (l:=[((Q.getD f ai).b).id].map Value.string) Kr rfl) (jj _) (fun G K uN g oq R=> ?_) (ys:=(([((Q.getD f ai).b).id]).map Value.string))
    replace q:=q.ext Z
    have L3:=c
    replace c:=c.sa oq 2 R g q.size;clear R
    refine sT [(7,.slice G ((U++[Q.getD f ai]).length) K)] fun a o=>cD [0,0,0,6,15,0,0,64,224,511,1023] 18 mixed o<|mP 6 [1,2] [.slice (some ab) Q.length cap,nV f]<|mF 14 3 (.slice (some ab) f cap) (fun h=>Calm.b7 (a:=(some ab)) (len:=Q.length) (cap:=cap) (sz:=39) (x:=(some ab)) 0 f cap f cap (by kernel_rfl) (.inl ⟨rfl,rfl⟩) (.inr rfl) (.inl ⟨rfl,rfl⟩) (by omega) (by omega) (eO _ 39) (by first|rfl|omega) (by first|rfl|omega) h)<|mP 110 [5,6] [.slice (some ab) Q.length cap,nV f]<|mA 238 7 f 1 ?_
    obtain⟨xd,hxd⟩:∃x,x=if cap=f+1 then (some ab:Option Addr) else (some ab:Option Addr).map (·.add ((f+1)*39)):=⟨_,rfl⟩
    refine mF 494 8 (.slice xd (Q.length - (f+1)) (cap - (f+1))) (fun h=>Calm.b7 (a:=(some ab)) (len:=Q.length) (cap:=cap) (sz:=39) (x:=xd) (f+1) Q.length cap (Q.length - (f+1)) (cap - (f+1)) (by kernel_rfl) (.inl ⟨rfl,rfl⟩) (.inl ⟨rfl,rfl⟩) (.inr rfl) (by omega) (by omega) hxd (by first|rfl|omega) (by first|rfl|omega) h)<|mN 495 1 0 (.slice (some ⟨uN.size,0,none⟩) 0 0) #[] 95 fun vl qF y6=> ?_
    replace q:=q.grew oq (L3.l 2)
    replace c:=c.nw q.size y6
    have A:Own vl (.slice (some ⟨uN.size,0,none⟩) 0 0) 95 ([]:List Rec).length 39 (a7 []):=Own.empty 39 y6
    replace c:Sep h.size vl.size [(some ⟨uN.size,0,none⟩:Option Addr).map (·.block),some (N.size),(some ab:Option Addr).map (·.block),G.map (·.block)]:=c
    replace d:=((d.ext Z).k oq (L3.ap 1 2)).ext qF
    replace q:=q.ext qF
    replace g:=g.ext qF
    clear y6
    refine sj 511 31 4 (0+f) 104 (a7 (Q.take f)) A (d.EJ (by omega)) (ed _) (fun AX x9 h48 A O S=> ?_) (ys:=(a7 (Q.take f))) (hZ:=by first|rfl|exact List.flatMap_append.symm |simp[a7]) (x:= .slice (some ab) f cap)
    have s49:=c
    replace c:=c.sa O 0 S A q.size;clear S
    replace d:=d.k O (s49.ap 2 0)
    refine sj 1023 1023 9 ((Q.take f++Q.drop (f+1)).length) 104 (a7 (Q.take f++Q.drop (f+1))) A (d.EK (by omega) hxd) (ed _) (fun H F Co A Ab V=> ?_) (ys:=(a7 (Q.drop (f+1)))) (hZ:=by first|rfl|exact List.flatMap_append.symm |simp[a7]) (x:= .slice xd (Q.length - (f+1)) (cap - (f+1)))
    replace q:=q.grew O (s49.l 0)
    have L4:=c
    replace c:=c.sa Ab 0 V A q.size;clear V
    refine mP 2047 [10] [.slice H ((Q.take f++Q.drop (f+1)).length) F]<|mE [(5,.slice H ((Q.take f++Q.drop (f+1)).length) F)] fun a o=>bK ?_
    replace g:=(g.k O (s49.ap 3 0)).k Ab (L4.ap 3 0)
    rw[wu] at g
    have hlen:=CN L1
    clear Kr
    replace q:=q.grew Ab (L4.l 0)
    replace c:=c.sub (l':=[H.map (·.block),G.map (·.block)]) (.cons_cons _ (.cons _ (.cons _ (.cons_cons _ (.slnil)))))
    show ∃m',m'<_∧_
    refine⟨_,?_,(U++[Q.getD f ai]),(Q.take f++Q.drop (f+1)),H,F,G,K,rfl,q,(hsel.step L1 hmin3),A,g,c,o.to⟩
    omega
  ·refine cX 2 (xT (xT (xB ?_)))
   exact tK<|qP [(4,.slice B U.length C)] o fun a o=>cR<|rT 4 (.slice B U.length C) o<|⟨U,B,C,by rw[hD];exact hsel.end (by omega),hsel.fQ,rfl,g,c.low 1 rfl,q⟩
noncomputable def Ol:Code:=Tryz.f114.body.getD .skip
theorem ko(h:Heap)(x:RB)(e:Int)(ho go:Bool)(L:List Pl)(va:Option Addr)(vc:Nat)(hr:Row h (.slice va L.length vc) L.length 4 (da L))(hL:L.length ≤1099511627776):Sat Tryz.prog 114 #[.agg (rc x e ho go (.slice va L.length vc)).toArray] h fun v h'=>∃c,v= .agg (rc x e ho go c).toArray ∧l9 h h' 180 c L:=by
 have g:=Ext.refl h
 have b:Sep h.size h.size []:=Sep.nil _ _
 refine ag Tryz.func114 9 fun a p=>qS p<|tN 0 (pV h.size) ((rc x e ho go (.slice va L.length vc)).toArray) 95 fun t D j=> ?_
 replace b:=b.nw g.size j
 refine tN 1 (pV t.size) ((bY).toArray) 95 fun u B n=> ?_
 replace g:=g.ext D
 replace b:=b.nw g.size n
 refine sT [(1,pV h.size),(2,pV t.size)] fun a p=>qS p<|tN 0 (.slice (some ⟨u.size,0,none⟩) 0 0) #[] 180 fun C w z=> ?_
 replace g:=g.ext B
 replace b:=b.nw g.size z
 have d:Own C (.slice (some ⟨u.size,0,none⟩) 0 0) 180 ([]:List Pl).length 4 (da []):=Own.empty 4 z
 replace b:Sep h.size C.size [(some ⟨u.size,0,none⟩:Option Addr).map (·.block),some (t.size),some (h.size)]:=b
 replace j:=(j.x B).x w
 replace g:=g.ext w
 replace n:=n.x w
 clear z
 refine tO 2 38 j<|tP 3 L.length 32 (da L) d (hr.ext g) (o7 _) (fun i f E d m o=> ?_) (hl:=(by unfold maxLen;simp;omega)) (hb:=(by simp;omega)) (hZ:=by first|rfl|exact List.flatMap_append.symm |simp[da])
 have q:=b
 replace b:=b.sa m 0 o d g.size;clear o
 replace j:=j.y m (q.bp 2 0)
 refine tV 5 38 [.slice i L.length f] (rc x e ho go (.slice i L.length f)) j fun F r A=> ?_
 replace j:=A
 refine sT [] fun a p=>qS p<|tR 0 j ?_
 replace n:=(n.y m (q.bp 1 0)).y r (b.bp 1 2)
 refine bA 1 (rc x e ho go (.slice i L.length f)) n fun G s A=> ?_
 replace n:=A
 refine sT [] fun a p=>cR<|rB n p ?_
 replace g:=((g.grew m (q.l 0)).grew r (b.l 2)).grew s (b.l 1)
 replace d:=(d.k r (b.ap 0 2)).k s (b.ap 0 1)
 exact⟨_,rfl,⟨_,_,rfl,d,b.low 0 rfl,g⟩⟩
noncomputable def b81:Code:=Tryz.f81.body.getD .skip
theorem rQ(h:Heap)(x:RB)(e:Int)(ho:Bool)(L:List Pl)(va:Option Addr)(vc:Nat)(u:Int)(hu0:0≤u)(hu:u≤1099511627776):Sat Tryz.prog 81 #[.agg (rc x e ho true (.slice va L.length vc)).toArray,.int .i64 u] h fun v h'=>v= .tuple #[.agg (rc dn (0:Int) false false (.slice none 0 0)).toArray,.int .i64 213]∧Ext h h':=by
 have d:=Ext.refl h
 have b:Sep h.size h.size []:=Sep.nil _ _
 refine ag Tryz.func81 25 fun a c=>qS c<|tN 0 (pV h.size) ((rc x e ho true (.slice va L.length vc)).toArray) 95 fun i k f=> ?_
 replace b:=b.nw d.size f
 refine tN 1 (pV i.size) ((bY).toArray) 95 fun o j g=> ?_
 replace d:=d.ext k
 replace b:=b.nw d.size g
 refine sT [(2,pV h.size),(4,pV i.size)] fun a c=>cS<|qS c<|tX 1 (u<(0:Int))<|tX 4 ((1099511627776:Int)<u)<|sT [(11,.bool false)] fun a c=>cF 11 c ?_
 refine cN<|tK<|cS<|qS c ?_
 replace f:=f.x j
 refine tO 1 37 f<|sT [(14,.bool true)] fun a c=>cT 14 c<|qS c<|bA 1 (bY) g fun p m n=> ?_
 replace g:=n
 refine sT [(5,.int .i64 213)] fun a c=>cR (yT ?_)
 refine aI [.cell 4 95,.tmp 5] [.agg (bY).toArray,.int .i64 213] (.tuple #[.agg (bY).toArray,.int .i64 213]) rfl c ⟨⟨_,rfl,Loads.blk (vs:=bY) (by kernel_rfl) g rfl⟩,rfl,trivial⟩ rfl ?_
 replace d:=(d.ext j).grew m (b.l 0)
 exact⟨rfl,d⟩
theorem x_(h:Heap)(x:RB)(e:Int)(ho:Bool)(L:List Pl)(va:Option Addr)(vc:Nat)(hr:Row h (.slice va L.length vc) L.length 4 (da L))(hL:L.length ≤1099511627776)(u:Int)(hu0:0≤u)(hu:u≤1099511627776):Sat Tryz.prog 81 #[.agg (rc x e ho false (.slice va L.length vc)).toArray,.int .i64 u] h fun v h'=>∃c,v= .tuple #[.agg (rc x (max e u) ho false c).toArray,.int .i64 0]∧l9 h h' 180 c L:=by
 have m:=Ext.refl h
 have b:Sep h.size h.size []:=Sep.nil _ _
 refine ag Tryz.func81 25 fun a j=>qS j<|tN 0 (pV h.size) ((rc x e ho false (.slice va L.length vc)).toArray) 95 fun B D n=> ?_
 replace b:=b.nw m.size n
 refine tN 1 (pV B.size) ((bY).toArray) 95 fun J C o=> ?_
 replace m:=m.ext D
 replace b:=b.nw m.size o
 refine sT [(2,pV h.size),(4,pV B.size)] fun a j=>cS<|qS j<|tX 1 (u<(0:Int))<|tX 4 ((1099511627776:Int)<u)<|sT [(11,.bool false)] fun a j=>cF 11 j ?_
 refine cN<|tK<|cS<|qS j ?_
 replace n:=n.x C
 refine tO 1 37 n<|sT [(14,.bool false)] fun a j=>cF 14 j<|cN<|tK<|qS j<|tR 0 n ?_
 replace m:=m.ext C
 refine tG 1 (ko _ x e ho false L va vc (hr.ext m) hL) ?_
 rintro _ E ⟨_,rfl,i,d,rfl,q,hge,g⟩
 have t:=m.size
 have a8:=b
 replace m:=m.ext g
 replace n:=n.x g
 replace o:=o.x g
 replace b:=a8.cons (x:=i.map (fun(x:Addr)=>x.block)) g.size t (fun k e=>⟨hge k e,q.lt (by rw[af];exact e)⟩)
 have f:Own E (.slice i L.length d) 180 L.length 4 (da L):=q;clear q a8 t hge g
 refine bA 2 (rc x e ho false (.slice i L.length d)) n fun F p r=> ?_
 replace n:=r
 refine sT [] fun a j=>cS<|qS j<|tO 2 35 n<|sT [(21,.bool (decide (e<u)))] fun a j=>cJ 21 j (fun w=> ?_) fun w=> ?_
 ·refine rS j<|tV 2 35 [.int .i64 u] (rc x u ho false (.slice i L.length d)) n fun G s r=> ?_
  replace n:=r
  refine sE [] fun a j=>tK<|qS j<|tR 0 n ?_
  replace o:=(o.y p (b.bp 1 2)).y s (b.bp 1 2)
  refine bA 1 (rc x u ho false (.slice i L.length d)) o fun H z r=> ?_
  replace o:=r
  refine sT [(5,.int .i64 0)] fun a j=>cR<|aI [.cell 4 95,.tmp 5] [.agg (rc x u ho false (.slice i L.length d)).toArray,.int .i64 0] (.tuple #[.agg (rc x u ho false (.slice i L.length d)).toArray,.int .i64 0]) rfl j ⟨⟨_,rfl,Loads.blk (vs:=rc x u ho false (.slice i L.length d)) (by kernel_rfl) o rfl⟩,rfl,trivial⟩ rfl ?_
  replace m:=((m.grew p (b.l 2)).grew s (b.l 2)).grew z (b.l 1)
  replace f:=((f.k p (b.ap 0 2)).k s (b.ap 0 2)).k z (b.ap 0 1)
  exact⟨_,by rw[Int.max_eq_right (by omega)],⟨_,_,rfl,f,b.low 0 rfl,m⟩⟩
 ·refine cN<|tK<|qS j<|tR 0 n ?_
  replace o:=o.y p (b.bp 1 2)
  refine bA 1 (rc x e ho false (.slice i L.length d)) o fun I A r=> ?_
  replace o:=r
  refine sT [(5,.int .i64 0)] fun a j=>cR<|aI [.cell 4 95,.tmp 5] [.agg (rc x e ho false (.slice i L.length d)).toArray,.int .i64 0] (.tuple #[.agg (rc x e ho false (.slice i L.length d)).toArray,.int .i64 0]) rfl j ⟨⟨_,rfl,Loads.blk (vs:=rc x e ho false (.slice i L.length d)) (by kernel_rfl) o rfl⟩,rfl,trivial⟩ rfl ?_
  replace m:=(m.grew p (b.l 2)).grew A (b.l 1)
  replace f:=(f.k p (b.ap 0 2)).k A (b.ap 0 1)
  exact⟨_,by rw[Int.max_eq_left (by omega)],⟨_,_,rfl,f,b.low 0 rfl,m⟩⟩
noncomputable def b82:Code:=Tryz.f82.body.getD .skip
theorem rR(h:Heap)(x:RB)(e:Int)(ho:Bool)(L:List Pl)(va:Option Addr)(vc:Nat)(on:Bool):Sat Tryz.prog 82 #[.agg (rc x e ho true (.slice va L.length vc)).toArray,.bool on] h fun v h'=>v= .tuple #[.agg (rc dn (0:Int) false false (.slice none 0 0)).toArray,.int .i64 213]∧Ext h h':=by
 have d:=Ext.refl h
 have b:Sep h.size h.size []:=Sep.nil _ _
 refine ag Tryz.func82 14 fun a c=>qS c<|tN 0 (pV h.size) ((rc x e ho true (.slice va L.length vc)).toArray) 95 fun i k f=> ?_
 replace b:=b.nw d.size f
 refine tN 1 (pV i.size) ((bY).toArray) 95 fun o j g=> ?_
 replace d:=d.ext k
 replace b:=b.nw d.size g
 refine sT [(2,pV h.size),(4,pV i.size)] fun a c=>cS<|qS c ?_
 replace f:=f.x j
 refine tO 1 37 f<|sT [(7,.bool true)] fun a c=>cT 7 c<|qS c<|bA 1 (bY) g fun p m n=> ?_
 replace g:=n
 refine sT [(5,.int .i64 213)] fun a c=>cR (yT ?_)
 refine aI [.cell 4 95,.tmp 5] [.agg (bY).toArray,.int .i64 213] (.tuple #[.agg (bY).toArray,.int .i64 213]) rfl c ⟨⟨_,rfl,Loads.blk (vs:=bY) (by kernel_rfl) g rfl⟩,rfl,trivial⟩ rfl ?_
 replace d:=(d.ext j).grew m (b.l 0)
 exact⟨rfl,d⟩
theorem yb(h:Heap)(x:RB)(e:Int)(ho:Bool)(L:List Pl)(va:Option Addr)(vc:Nat)(hr:Row h (.slice va L.length vc) L.length 4 (da L))(hL:L.length ≤1099511627776)(on:Bool):Sat Tryz.prog 82 #[.agg (rc x e ho false (.slice va L.length vc)).toArray,.bool on] h fun v h'=>∃c,v= .tuple #[.agg (rc x e on false c).toArray,.int .i64 0]∧l9 h h' 180 c L:=by
 have j:=Ext.refl h
 have b:Sep h.size h.size []:=Sep.nil _ _
 refine ag Tryz.func82 14 fun a m=>qS m<|tN 0 (pV h.size) ((rc x e ho false (.slice va L.length vc)).toArray) 95 fun w A n=> ?_
 replace b:=b.nw j.size n
 refine tN 1 (pV w.size) ((bY).toArray) 95 fun F z p=> ?_
 replace j:=j.ext A
 replace b:=b.nw j.size p
 refine sT [(2,pV h.size),(4,pV w.size)] fun a m=>cS<|qS m ?_
 replace n:=n.x z
 refine tO 1 37 n<|sT [(7,.bool false)] fun a m=>cF 7 m<|cN<|tK<|qS m<|tR 0 n ?_
 replace j:=j.ext z
 refine tG 1 (ko _ x e ho false L va vc (hr.ext j) hL) ?_
 rintro _ B ⟨_,rfl,f,d,rfl,o,hge,g⟩
 have s:=j.size
 have a8:=b
 replace j:=j.ext g
 replace n:=n.x g
 replace p:=p.x g
 replace b:=a8.cons (x:=f.map (fun(x:Addr)=>x.block)) g.size s (fun k e=>⟨hge k e,o.lt (by rw[af];exact e)⟩)
 have i:Own B (.slice f L.length d) 180 L.length 4 (da L):=o;clear o a8 s hge g
 refine bA 2 (rc x e ho false (.slice f L.length d)) n fun C q t=> ?_
 replace n:=t
 refine sT [] fun a m=>qS m<|tV 2 36 [.bool on] (rc x e on false (.slice f L.length d)) n fun D r t=> ?_
 replace n:=t
 refine sT [] fun a m=>qS m<|tR 0 n ?_
 replace p:=(p.y q (b.bp 1 2)).y r (b.bp 1 2)
 refine bA 1 (rc x e on false (.slice f L.length d)) p fun E u t=> ?_
 replace p:=t
 refine sT [(5,.int .i64 0)] fun a m=>cR<|aI [.cell 4 95,.tmp 5] [.agg (rc x e on false (.slice f L.length d)).toArray,.int .i64 0] (.tuple #[.agg (rc x e on false (.slice f L.length d)).toArray,.int .i64 0]) rfl m ⟨⟨_,rfl,Loads.blk (vs:=rc x e on false (.slice f L.length d)) (by kernel_rfl) p rfl⟩,rfl,trivial⟩ rfl ?_
 replace j:=((j.grew q (b.l 2)).grew r (b.l 2)).grew u (b.l 1)
 replace i:=((i.k q (b.ap 0 2)).k r (b.ap 0 2)).k u (b.ap 0 1)
 exact⟨_,rfl,⟨_,_,rfl,i,b.low 0 rfl,j⟩⟩
noncomputable def b83:Code:=Tryz.f83.body.getD .skip
theorem u6(h:Heap)(x:RB)(e:Int)(ho:Bool)(L:List Pl)(va:Option Addr)(vc:Nat)(u:Int):Sat Tryz.prog 83 #[.agg (rc x e ho true (.slice va L.length vc)).toArray,.int .i64 u] h fun v h'=>v= .tuple #[.agg (rc dn (0:Int) false false (.slice none 0 0)).toArray,.int .i64 213]∧Ext h h':=by
 have d:=Ext.refl h
 have b:Sep h.size h.size []:=Sep.nil _ _
 refine ag Tryz.func83 21 fun a c=>qS c<|tN 0 (pV h.size) ((rc x e ho true (.slice va L.length vc)).toArray) 95 fun i k f=> ?_
 replace b:=b.nw d.size f
 refine tN 1 (pV i.size) ((bY).toArray) 95 fun o j g=> ?_
 replace d:=d.ext k
 replace b:=b.nw d.size g
 refine sT [(2,pV h.size),(4,pV i.size)] fun a c=>cS<|qS c ?_
 replace f:=f.x j
 refine tO 1 37 f<|sT [(7,.bool true)] fun a c=>cT 7 c<|qS c<|bA 1 (bY) g fun p m n=> ?_
 replace g:=n
 refine sT [(5,.int .i64 213)] fun a c=>cR (yT ?_)
 refine aI [.cell 4 95,.tmp 5] [.agg (bY).toArray,.int .i64 213] (.tuple #[.agg (bY).toArray,.int .i64 213]) rfl c ⟨⟨_,rfl,Loads.blk (vs:=bY) (by kernel_rfl) g rfl⟩,rfl,trivial⟩ rfl ?_
 replace d:=(d.ext j).grew m (b.l 0)
 exact⟨rfl,d⟩
theorem u7(h:Heap)(x:RB)(e:Int) (L:List Pl)(va:Option Addr)(vc:Nat)(u:Int):Sat Tryz.prog 83 #[.agg (rc x e true false (.slice va L.length vc)).toArray,.int .i64 u] h fun v h'=>v= .tuple #[.agg (rc dn (0:Int) false false (.slice none 0 0)).toArray,.int .i64 214]∧Ext h h':=by
 have d:=Ext.refl h
 have b:Sep h.size h.size []:=Sep.nil _ _
 refine ag Tryz.func83 21 fun a c=>qS c<|tN 0 (pV h.size) ((rc x e true false (.slice va L.length vc)).toArray) 95 fun i k f=> ?_
 replace b:=b.nw d.size f
 refine tN 1 (pV i.size) ((bY).toArray) 95 fun o j g=> ?_
 replace d:=d.ext k
 replace b:=b.nw d.size g
 refine sT [(2,pV h.size),(4,pV i.size)] fun a c=>cS<|qS c ?_
 replace f:=f.x j
 refine tO 1 37 f<|sT [(7,.bool false)] fun a c=>cF 7 c<|cN<|tK<|cS<|qS c ?_
 refine tO 1 36 f<|sT [(16,.bool true)] fun a c=>cT 16 c<|qS c<|bA 1 (bY) g fun p m n=> ?_
 replace g:=n
 refine sT [(5,.int .i64 214)] fun a c=>cR (yT ?_)
 refine aI [.cell 4 95,.tmp 5] [.agg (bY).toArray,.int .i64 214] (.tuple #[.agg (bY).toArray,.int .i64 214]) rfl c ⟨⟨_,rfl,Loads.blk (vs:=bY) (by kernel_rfl) g rfl⟩,rfl,trivial⟩ rfl ?_
 replace d:=(d.ext j).grew m (b.l 0)
 exact⟨rfl,d⟩
theorem u9(h:Heap)(x:RB)(e:Int) (L:List Pl)(va:Option Addr)(vc:Nat)(u:Int)(hu:u<e):Sat Tryz.prog 83 #[.agg (rc x e false false (.slice va L.length vc)).toArray,.int .i64 u] h fun v h'=>v= .tuple #[.agg (rc dn (0:Int) false false (.slice none 0 0)).toArray,.int .i64 214]∧Ext h h':=by
 have d:=Ext.refl h
 have b:Sep h.size h.size []:=Sep.nil _ _
 refine ag Tryz.func83 21 fun a c=>qS c<|tN 0 (pV h.size) ((rc x e false false (.slice va L.length vc)).toArray) 95 fun i k f=> ?_
 replace b:=b.nw d.size f
 refine tN 1 (pV i.size) ((bY).toArray) 95 fun o j g=> ?_
 replace d:=d.ext k
 replace b:=b.nw d.size g
 refine sT [(2,pV h.size),(4,pV i.size)] fun a c=>cS<|qS c ?_
 replace f:=f.x j
 refine tO 1 37 f<|sT [(7,.bool false)] fun a c=>cF 7 c<|cN<|tK<|cS<|qS c ?_
 refine tO 1 36 f<|tO 4 35 f<|tT 6 (u<e)<|sT [(16,.bool true)] fun a c=>cT 16 c<|qS c<|bA 1 (bY) g fun p m n=> ?_
 replace g:=n
 refine sT [(5,.int .i64 214)] fun a c=>cR (yT ?_)
 refine aI [.cell 4 95,.tmp 5] [.agg (bY).toArray,.int .i64 214] (.tuple #[.agg (bY).toArray,.int .i64 214]) rfl c ⟨⟨_,rfl,Loads.blk (vs:=bY) (by kernel_rfl) g rfl⟩,rfl,trivial⟩ rfl ?_
 replace d:=(d.ext j).grew m (b.l 0)
 exact⟨rfl,d⟩
theorem AY(h:Heap)(x:RB)(e:Int) (L:List Pl)(va:Option Addr)(vc:Nat)(u:Int)(hu:e≤u):Sat Tryz.prog 83 #[.agg (rc x e false false (.slice va L.length vc)).toArray,.int .i64 u] h fun v h'=>v= .tuple #[.agg (rc x e false true (.slice none 0 0)).toArray,.int .i64 0]∧Ext h h':=by
 have f:=Ext.refl h
 have b:Sep h.size h.size []:=Sep.nil _ _
 refine ag Tryz.func83 21 fun a c=>qS c<|tN 0 (pV h.size) ((rc x e false false (.slice va L.length vc)).toArray) 95 fun m p d=> ?_
 replace b:=b.nw f.size d
 refine tN 1 (pV m.size) ((bY).toArray) 95 fun r n g=> ?_
 replace f:=f.ext p
 replace b:=b.nw f.size g
 refine sT [(2,pV h.size),(4,pV m.size)] fun a c=>cS<|qS c ?_
 replace d:=d.x n
 refine tO 1 37 d<|sT [(7,.bool false)] fun a c=>cF 7 c<|cN<|tK<|cS<|qS c ?_
 refine tO 1 36 d<|tO 4 35 d<|tX 6 (u<e)<|sT [(16,.bool false)] fun a c=>cF 16 c<|cN<|tK ?_
 refine qS c<|tV 1 37 [.bool true] (rc x e false true (.slice va L.length vc)) d fun s o i=> ?_
 replace d:=i
 refine sT [] fun a c=>qS c<|tV 1 38 [.slice none 0 0] (rc x e false true (.slice none 0 0)) d fun t j i=> ?_
 replace d:=i
 refine sT [] fun a c=>qS c<|tR 0 d ?_
 replace g:=(g.y o (b.bp 0 1)).y j (b.bp 0 1)
 refine bA 1 (rc x e false true (.slice none 0 0)) g fun q k i=> ?_
 replace g:=i
 refine sT [(5,.int .i64 0)] fun a c=>cR<|aI [.cell 4 95,.tmp 5] [.agg (rc x e false true (.slice none 0 0)).toArray,.int .i64 0] (.tuple #[.agg (rc x e false true (.slice none 0 0)).toArray,.int .i64 0]) rfl c ⟨⟨_,rfl,Loads.blk (vs:=rc x e false true (.slice none 0 0)) (by kernel_rfl) g rfl⟩,rfl,trivial⟩ rfl ?_
 replace f:=(((f.ext n).grew o (b.l 1)).grew j (b.l 1)).grew k (b.l 0)
 exact⟨rfl,f⟩
noncomputable def b43:Code:=Tryz.f43.body.getD .skip
theorem kr {W:Nat→Prop}(h:Heap)(rb:Nat)(M:Md)(T:List RO)(oa:Option Addr)(oc:Nat)(ea:Option Addr)(ec:Nat)(es:List Value)(md:bD W h rb M T oa oc ea ec es)(hE:M.E.length ≤1099511627):Sat Tryz.prog 43 #[.pointer (some ⟨rb,0,none⟩)] h fun v h'=>∃ad cap,v= .slice ad M.E.length cap∧Own h' (.slice ad M.E.length cap) 39 M.E.length 32 (hcs (cE M.E))∧(∀k,ad.map (fun(x:Addr)=>x.block)=some k→h.size ≤k)∧Ext h h':=by
 have hm:=md.hm
 have hLn:=md.ln
 have f:=Ext.refl h
 have c:Sep h.size h.size []:=Sep.nil _ _
 refine ag Tryz.func43 27 fun a d=>qP [] d fun a d=>qS d<|tN 0 (.slice (some ⟨h.size,0,none⟩) 0 0) #[] 39 fun A F s=> ?_
 replace c:=c.nw f.size s
 have b:Own A (.slice (some ⟨h.size,0,none⟩) 0 0) 39 ([]:List UInt8).length 32 (hcs []):=Own.empty 32 s
 replace c:Sep h.size A.size [(some ⟨h.size,0,none⟩:Option Addr).map (·.block)]:=c
 replace f:=f.ext F
 clear s
 refine sT [(3,.slice (some ⟨h.size,0,none⟩) 0 0)] fun a d=>cS<|qP [(4,.int .i64 0)] d fun a d=>cB 0<|cL (fun m a h'=>∃k:Nat,∃ad:Option Addr,∃cap:Nat,m=M.E.length - k∧(Ext h h')∧(k≤M.E.length)∧(Own h' (.slice ad k cap) 39 k 32 (hcs (cE (M.E.take k))))∧(Sep h.size h'.size [ad.map (·.block)])∧(Fr a 27 [(0,.pointer (some ⟨rb,0,none⟩)),(3,.slice ad k cap),(4,.int .i64 ((k:Nat):Int))])) (M.E.length - 0) ⟨0,(some ⟨h.size,0,none⟩),0,rfl,f,(by omega),b,c,d.to⟩ ?_
 clear d a
 clear f
 clear b
 clear c
 rintro m a H ⟨k,ad,cap,rfl,f,hk,b,c,d⟩
 refine cS<|qS d<|tO 4 1 (f.blk hm)<|sT [(12,.bool (decide (((k:Nat):Int)<((M.E.length :Nat):Int))))] fun a d=>cJ 12 d (fun u=> ?_) fun u=> ?_
 ·have w:k<M.E.length :=by omega
  obtain⟨e,he⟩:∃e,M.E[k]? =some e:=⟨_,List.getElem?_eq_getElem w⟩
  obtain⟨hel,xa,xc,hes,hrx⟩:=md.en.2 k e he
  have hFn:=d
  obtain⟨aa,rfl,bW⟩:=md.er.1.1.bg (by omega)
  have d:=hFn;clear hFn
  refine cN<|tK<|cS<|cB 1<|rS d<|tO 4 1 (f.blk hm)<|tI 6 aa M.E.length 1 k k ?_
  refine tC 7 (.slice xa e.length xc) (Calm.load (T:=32) (p:=(Addr.add aa k)) (by kernel_rfl) (Loads.one (k:=1) (by kernel_rfl) ((md.er.1.1.ext f).cells _ _ hes)))<|tG 8 (mZ _ e xa xc (hrx.1.1.ext f) (by omega)) ?_
  rintro _ B ⟨rfl,y⟩
  refine tF 9 (Does.newHs (L:=[cH e]) (t:=45) (E:=39) (dV:=32) (n:=1) (by kernel_rfl) (by kernel_rfl) (aq.cons (dp _) aq.nil) rfl (by decide) (by decide)) ?_
  rintro _ C ⟨rfl,hh⟩
  have D:Ext B C:=aY hh
  have o:C[B.size]? =some (.cells (hcs [cH e]).toArray 39):=bj hh
  clear hh
  replace f:=f.ext y
  have q:=f.size
  replace c:=c.up y.size
  have a8:=c
  replace c:=a8.new q (ak o)
  clear a8 q
  replace b:=(b.ext y).ext D
  refine tP 10 (k+1) 32 (hcs (cE (M.E.take k)++[cH e])) b (hrow1 (dp _) o) (dF _) (fun g i G b r j=> ?_) (ys:=(hcs ([cH e]))) (hZ:=by first|rfl|exact(bh _ _).symm |simp[bh])
  replace f:=f.ext D
  have z:=c
  replace c:=c.sa r 1 j b f.size;clear j
  refine sE [(3,.slice g (k+1) i)] fun a d=>bK<|tK<|rS d<|tA 1 k 1<|sE [(4,nV (k+1))] fun a d=> ?_
  rw[mW he] at b
  clear o
  replace f:=f.grew r (z.l 1)
  replace c:=c.sub (l':=[g.map (·.block)]) (.cons _ (.cons_cons _ (.slnil)))
  show ∃m',m'<_∧_
  refine⟨_,?_,(k+1),g,i,rfl,f,(by omega),b,c,d.to⟩
  omega
 ·refine cX 0 (xT (xT (xB ?_)))
  refine tK<|qP [(2,.slice ad k cap)] d fun a d=>cR<|rT 2 (.slice ad k cap) d ?_
  obtain rfl:k=M.E.length :=by omega
  rw[List.take_length] at b
  exact⟨ad,cap,rfl,b,c.low 0 rfl,f⟩
noncomputable def b39:Code:=Tryz.f39.body.getD .skip
set_option maxHeartbeats 1000000 in
theorem gL {W:Nat→Prop}(h:Heap)(rb:Nat)(M:Md)(T:List RO)(oa:Option Addr)(oc:Nat)(ea:Option Addr)(ec:Nat)(es:List Value)(md:bD W h rb M T oa oc ea ec es)(kd n:Int)(s:ByteArray)(pa:Option Addr)(on pc:Nat)(ka:Option Addr)(kn kc:Nat)(hsz:s.size ≤9223372036854775807)(hE:M.E.length ≤1099511627):Sat Tryz.prog 39 #[.pointer (some ⟨rb,0,none⟩),.agg #[.int .i64 kd,.string s,.slice pa on pc,.int .i64 n,.slice ka kn kc]] h fun v h'=>v= .int .i64 (ff M kd n s).2 ∧bB W h' rb (ff M kd n s).1 ∧RG rb h h':=by
 have hm:=md.hm
 have hLn:=md.ln
 have d:=Ext.refl h
 have i:Sep h.size h.size []:=Sep.nil _ _
 refine ag Tryz.func39 80 fun a c=>qS c<|tN 0 (pV h.size) #[.int .i64 kd,.string s,.slice pa on pc,.int .i64 n,.slice ka kn kc] 35 fun S F k=> ?_
 replace i:=i.nw d.size k
 refine sT [(3,pV h.size)] fun a c=>cS<|cS ?_
 rcases md.j0 s with hok|⟨hok,hf,A,B,rfl,hA,hB⟩|⟨hok,A,x,B,rfl,hA,rfl,hf⟩
 ·refine rS c<|tO 1 1 k<|tC 2 (.bool false) (Does.call (f:=27) (args:= #[.string s]) (by kernel_rfl) (lK _ s hsz hok))<|sE [(11,.bool true)] fun a c=>tK<|cT 11 c<|qP [(4,.int .i64 210)] c fun a c=> ?_
  refine cR (yT ?_)
  refine rT 4 (.int .i64 210) c ?_
  replace d:=d.ext F
  rw[wD hok];exact⟨rfl,⟨_,_,_,_,_,_,md.ext d⟩,RG.aK d⟩
 ·refine rS c<|tO 1 1 k<|tC 2 (.bool true) (Does.call (f:=27) (args:= #[.string s]) (by kernel_rfl) (dS _ s hok))<|sE [(11,.bool false)] fun a c=>tK<|cF 11 c<|cN ?_
  refine tK<|cS<|cS ?_
  rcases nW kd n with hk|hk|hk|hk
  ·refine rS c<|tO 1 0 k<|eT 2 kd 4<|tO 5 3 k<|tT 6 (n<(0:Int))<|sE [(24,.bool true)] fun a c=>tK ?_
   refine cT 24 c<|qP [(4,.int .i64 1)] c fun a c=>cR (yT ?_)
   refine rT 4 (.int .i64 1) c ?_
   replace d:=d.ext F
   rw[e7 hok (by omega)];exact⟨rfl,⟨_,_,_,_,_,_,md.ext d⟩,RG.aK d⟩
  ·refine rS c<|tO 1 0 k<|eT 2 kd 4<|tO 5 3 k<|tX 6 (n<(0:Int))<|tO 9 3 k<|tT 10 ((1099511627776:Int)<n) ?_
   refine sE [(24,.bool true)] fun a c=>tK<|cT 24 c<|qP [(4,.int .i64 1)] c fun a c=>cR (yT ?_)
   refine rT 4 (.int .i64 1) c ?_
   replace d:=d.ext F
   rw[e7 hok (by omega)];exact⟨rfl,⟨_,_,_,_,_,_,md.ext d⟩,RG.aK d⟩
  ·refine rS c<|tO 1 0 k<|eT 2 kd 4<|tO 5 3 k<|tX 6 (n<(0:Int))<|tO 9 3 k<|tX 10 ((1099511627776:Int)<n) ?_
   refine sE [(24,.bool false)] fun a c=>tK<|cF 24 c<|cN<|tK<|qS c<|tO 2 1 k ?_
   replace d:=d.ext F
   refine tC 3 (.tuple #[.int .i64 0,.int .i64 211]) (Does.call (f:=80) (args:= #[pV rb,.string s]) (by kernel_rfl) (dT _ rb M (A++B) oa oc ea ec es (md.ext d) s hsz 0 211 (.inr (.inl ⟨hok,⟨_,.no hA hB⟩,rfl,rfl⟩)) hE))<|sT [(5,.int .i64 0),(6,.int .i64 211)] fun a c=>cS<|qP [(33,.bool true)] c fun a c=>cT 33 c<|qP [(4,.int .i64 211)] c fun a c=>cR (yT ?_)
   refine rT 4 (.int .i64 211) c ?_
   rw[jn hok (by omega) hf];exact⟨rfl,⟨_,_,_,_,_,_,md.ext d⟩,RG.aK d⟩
  ·refine rS c<|tO 1 0 k<|eF 2 kd 4<|sE [(24,.bool false)] fun a c=>tK<|cF 24 c<|cN ?_
   refine tK<|qS c<|tO 2 1 k ?_
   replace d:=d.ext F
   refine tC 3 (.tuple #[.int .i64 0,.int .i64 211]) (Does.call (f:=80) (args:= #[pV rb,.string s]) (by kernel_rfl) (dT _ rb M (A++B) oa oc ea ec es (md.ext d) s hsz 0 211 (.inr (.inl ⟨hok,⟨_,.no hA hB⟩,rfl,rfl⟩)) hE))<|sT [(5,.int .i64 0),(6,.int .i64 211)] fun a c=>cS<|qP [(33,.bool true)] c fun a c=>cT 33 c<|qP [(4,.int .i64 211)] c fun a c=>cR (yT ?_)
   refine rT 4 (.int .i64 211) c ?_
   rw[jn hok (by omega) hf];exact⟨rfl,⟨_,_,_,_,_,_,md.ext d⟩,RG.aK d⟩
 ·have hAl:A.length <(A++x::B).length :=wU
  refine rS c<|tO 1 1 k<|tC 2 (.bool true) (Does.call (f:=27) (args:= #[.string x.o.b.id]) (by kernel_rfl) (dS _ x.o.b.id hok))<|sE [(11,.bool false)] fun a c=>tK<|cF 11 c<|cN ?_
  refine tK<|cS<|cS ?_
  rcases nW kd n with hk|hk|hk|hk
  ·refine rS c<|tO 1 0 k<|eT 2 kd 4<|tO 5 3 k<|tT 6 (n<(0:Int))<|sE [(24,.bool true)] fun a c=>tK ?_
   refine cT 24 c<|qP [(4,.int .i64 1)] c fun a c=>cR (yT ?_)
   refine rT 4 (.int .i64 1) c ?_
   replace d:=d.ext F
   rw[e7 hok (by omega)];exact⟨rfl,⟨_,_,_,_,_,_,md.ext d⟩,RG.aK d⟩
  ·refine rS c<|tO 1 0 k<|eT 2 kd 4<|tO 5 3 k<|tX 6 (n<(0:Int))<|tO 9 3 k<|tT 10 ((1099511627776:Int)<n) ?_
   refine sE [(24,.bool true)] fun a c=>tK<|cT 24 c<|qP [(4,.int .i64 1)] c fun a c=>cR (yT ?_)
   refine rT 4 (.int .i64 1) c ?_
   replace d:=d.ext F
   rw[e7 hok (by omega)];exact⟨rfl,⟨_,_,_,_,_,_,md.ext d⟩,RG.aK d⟩
  ·refine rS c<|tO 1 0 k<|eT 2 kd 4<|tO 5 3 k<|tX 6 (n<(0:Int))<|tO 9 3 k<|tX 10 ((1099511627776:Int)<n) ?_
   refine sE [(24,.bool false)] fun a c=>tK<|cF 24 c<|cN<|tK<|qS c<|tO 2 1 k ?_
   replace d:=d.ext F
   refine tC 3 (.tuple #[nV A.length,.int .i64 0]) (Does.call (f:=80) (args:= #[pV rb,.string x.o.b.id]) (by kernel_rfl) (dT _ rb M (A++x::B) oa oc ea ec es (md.ext d) x.o.b.id hsz A.length 0 (.inr (.inr ⟨hok,.yes hA rfl,rfl⟩)) hE))<|sT [(5,nV A.length),(6,.int .i64 0)] fun a c=>cS<|qP [(33,.bool false)] c fun a c=>cF 33 c<|cN<|tK ?_
   refine cS ?_
   obtain⟨k1,k2,k3,k4⟩:=md.ob x (by simp)
   have hFn:=c
   obtain⟨ao,rfl,fM⟩:=md.row.1.bg (by omega)
   have c:=hFn;clear hFn
   ·refine rS c<|tO 3 0 (d.blk hm)<|tI 5 ao ((A++x::B).length) 40 A.length (A.length *40)<|t1 6 (.pointer (some (Addr.add ao (A.length *40)))) (.pointer (some ((Addr.add ao (A.length *40)).add 0))) (by rw[add_add,Nat.add_zero])<|tC 7 (.agg (rc x.o.b x.o.e x.o.ho x.o.go (.slice x.ca 0 x.cc)).toArray) (Calm.load (T:=95) (p:=(Addr.add ao (A.length *40))) (by kernel_rfl) (Row.Hv (md.row.1.ext d) q8 (by kernel_rfl) rfl))<|tN 8 (pV S.size) ((bY).toArray) 95 fun h4 V w=> ?_
    replace i:=i.nw d.size w
    refine bA 9 (rc x.o.b x.o.e x.o.ho x.o.go (.slice x.ca 0 x.cc)) w fun h7 U u=> ?_
    replace w:=u
    refine sE [(7,pV S.size)] fun a c=> ?_
    obtain⟨⟨ob,oe,oh,og,od⟩,ca,cc,ba,bc⟩:=x
    refine tK<|cS<|qS c ?_
    replace k:=(k.x V).y U (i.bp 1 0)
    refine tO 1 0 k<|sT [(44,.int .i64 kd)] fun a c=>cB 0<|qS c<|eT 0 kd 4<|sT [(54,.bool true)] fun a c=>cT 54 c ?_
    cases og
    ·refine rS c<|tR 0 w<|tO 2 3 k<|tG 3 (x_ _ ob oe oh [] ca cc (k3.zero rfl) (by decide) n (by omega) (by omega)) ?_
     rintro _ h11 ⟨_,rfl,I,C,rfl,q,hge,g⟩
     replace d:=(d.ext V).grew U (i.l 0)
     replace i:=i.up U.size
     replace d:=d.ext g
     replace w:=w.x g
     replace i:=i.up g.size
     clear hge g;have hrc:=q.row;clear q
     refine bA 7 (rc ob (max oe n) oh false (.slice I 0 C)) w fun h12 X u=> ?_
     replace w:=u
     refine sE [(6,.int .i64 0)] fun a c=>bK<|tK<|cS<|qP [(74,.bool true)] c fun a c=>cT 74 c<|rS c ?_
     refine tR 2 w ?_
     replace d:=d.grew X (i.l 0)
     refine tG 3 (lO _ rb M A B _ _ oc ea ec es (md.ext d) (max oe n) oh false I C (hrc.zero rfl) hE) ?_
     rintro _ kA ⟨hfin,J⟩
     have K:=(RG.aK d).then J
     refine sE [] fun a c=>tK<|qP [(4,.int .i64 0)] c fun a c=>cR<|rT 4 (.int .i64 0) c ?_
     rw[j1 hok (by omega) hf (o':=⟨ob,(max oe n),oh,false,od⟩) (by first|exact eH hk.1 |exact eI hk5|exact fl hk hk5 ht)];exact⟨rfl,hfin,K⟩
    ·refine rS c<|tR 0 w<|tO 2 3 k<|tG 3 (rQ _ ob oe oh [] ca cc n (by omega) (by omega)) ?_
     rintro _ h16 ⟨rfl,L⟩
     replace w:=w.x L
     refine bA 7 (bY) w fun h17 Y u=>sE [(6,.int .i64 213)] fun a c=>bK<|tK<|cS<|qP [(74,.bool false)] c fun a c=>cF 74 c ?_
     refine cN<|tK<|qP [(4,.int .i64 213)] c fun a c=>cR<|rT 4 (.int .i64 213) c ?_
     replace d:=(((d.ext V).grew U (i.l 0)).ext L).grew Y (i.l 0)
     rw[fc hok (by omega) hf (z:=213) (by first|exact cM|exact cO hk hk5|exact cP hk hk5 ht) (by decide)];exact⟨rfl,⟨_,_,_,_,_,_,md.ext d⟩,RG.aK d⟩
  ·refine rS c<|tO 1 0 k<|eF 2 kd 4<|sE [(24,.bool false)] fun a c=>tK<|cF 24 c<|cN ?_
   refine tK<|qS c<|tO 2 1 k ?_
   replace d:=d.ext F
   refine tC 3 (.tuple #[nV A.length,.int .i64 0]) (Does.call (f:=80) (args:= #[pV rb,.string x.o.b.id]) (by kernel_rfl) (dT _ rb M (A++x::B) oa oc ea ec es (md.ext d) x.o.b.id hsz A.length 0 (.inr (.inr ⟨hok,.yes hA rfl,rfl⟩)) hE))<|sT [(5,nV A.length),(6,.int .i64 0)] fun a c=>cS<|qP [(33,.bool false)] c fun a c=>cF 33 c<|cN<|tK ?_
   refine cS ?_
   obtain⟨k1,k2,k3,k4⟩:=md.ob x (by simp)
   have hFn:=c
   obtain⟨ao,rfl,fM⟩:=md.row.1.bg (by omega)
   have c:=hFn;clear hFn
   ·refine rS c<|tO 3 0 (d.blk hm)<|tI 5 ao ((A++x::B).length) 40 A.length (A.length *40)<|t1 6 (.pointer (some (Addr.add ao (A.length *40)))) (.pointer (some ((Addr.add ao (A.length *40)).add 0))) (by rw[add_add,Nat.add_zero])<|tC 7 (.agg (rc x.o.b x.o.e x.o.ho x.o.go (.slice x.ca 0 x.cc)).toArray) (Calm.load (T:=95) (p:=(Addr.add ao (A.length *40))) (by kernel_rfl) (Row.Hv (md.row.1.ext d) q8 (by kernel_rfl) rfl))<|tN 8 (pV S.size) ((bY).toArray) 95 fun h19 r j=> ?_
    replace i:=i.nw d.size j
    refine bA 9 (rc x.o.b x.o.e x.o.ho x.o.go (.slice x.ca 0 x.cc)) j fun h22 m u=> ?_
    replace j:=u
    refine sE [(7,pV S.size)] fun a c=> ?_
    obtain⟨⟨ob,oe,oh,og,od⟩,ca,cc,ba,bc⟩:=x
    refine tK<|cS<|qS c ?_
    replace k:=(k.x r).y m (i.bp 1 0)
    refine tO 1 0 k<|sT [(44,.int .i64 kd)] fun a c=>cB 0<|qS c<|eF 0 kd 4<|sT [(54,.bool false)] fun a c=>cF 54 c ?_
    refine cS ?_
    rcases(by omega:kd=5∨kd≠5) with hk5|hk5
    ·refine rS c<|eT 0 kd 5<|sE [(63,.bool true)] fun a c=>tK<|cT 63 c ?_
     cases og
     ·refine rS c<|tR 0 j<|tO 2 3 k<|tG 4 (yb _ ob oe oh [] ca cc (k3.zero rfl) (by decide) (decide (n=(1:Int)))) ?_
      rintro _ kg ⟨_,rfl,G,D,rfl,q,hge,g⟩
      replace d:=(d.ext r).grew m (i.l 0)
      replace i:=i.up m.size
      replace d:=d.ext g
      replace j:=j.x g
      replace i:=i.up g.size
      clear hge g;have hrc:=q.row;clear q
      refine bA 8 (rc ob oe (decide (n=(1:Int))) false (.slice G 0 D)) j fun h27 Z u=> ?_
      replace j:=u
      refine sE [(6,.int .i64 0)] fun a c=>bK<|tK<|cS<|qP [(74,.bool true)] c fun a c=>cT 74 c<|rS c ?_
      refine tR 2 j ?_
      replace d:=d.grew Z (i.l 0)
      refine tG 3 (lO _ rb M A B _ _ oc ea ec es (md.ext d) oe (decide (n=(1:Int))) false G D (hrc.zero rfl) hE) ?_
      rintro _ FM ⟨hfin,J⟩
      have K:=(RG.aK d).then J
      refine sE [] fun a c=>tK<|qP [(4,.int .i64 0)] c fun a c=>cR<|rT 4 (.int .i64 0) c ?_
      rw[j1 hok (by omega) hf (o':=⟨ob,oe,(decide (n=(1:Int))),false,od⟩) (by first|exact eH hk.1 |exact eI hk5|exact fl hk hk5 ht)];exact⟨rfl,hfin,K⟩
     ·refine rS c<|tR 0 j<|tO 2 3 k<|tG 4 (rR _ ob oe oh [] ca cc (decide (n=(1:Int)))) ?_
      rintro _ h31 ⟨rfl,N⟩
      replace j:=j.x N
      refine bA 8 (bY) j fun h32 rm u=>sE [(6,.int .i64 213)] fun a c=>bK<|tK<|cS<|qP [(74,.bool false)] c fun a c=>cF 74 c ?_
      refine cN<|tK<|qP [(4,.int .i64 213)] c fun a c=>cR<|rT 4 (.int .i64 213) c ?_
      replace d:=(((d.ext r).grew m (i.l 0)).ext N).grew rm (i.l 0)
      rw[fc hok (by omega) hf (z:=213) (by first|exact cM|exact cO hk hk5|exact cP hk hk5 ht) (by decide)];exact⟨rfl,⟨_,_,_,_,_,_,md.ext d⟩,RG.aK d⟩
    ·refine rS c<|eF 0 kd 5<|sE [(63,.bool false)] fun a c=>tK<|cF 63 c ?_
     rcases s3 og oh M.t oe with rfl|⟨rfl,rfl⟩|⟨rfl,rfl,ht⟩|⟨rfl,rfl,ht⟩
     ·refine cD [0,0,2,6,14,31,63,127,127,255,1023] 10 mixed c<|mR 1 1 0 j<|mP 15 [1,2,3] [pV rb,pV rb,.pointer (some ⟨rb,2,none⟩)] ?_
      replace d:=(d.ext r).grew m (i.l 0)
      refine mO 31 17 4 2 (.int .i64 M.t) (d.blk hm)<|fZ 63 63 5 (u6 _ ob oe oh [] ca cc M.t) ?_
      rintro _ h35 ⟨rfl,O⟩
      refine mP 511 [6,7,8] [.tuple #[.agg (bY).toArray,.int .i64 213],.agg (bY).toArray,.int .i64 213] ?_
      replace j:=j.x O
      refine mV 1023 767 9 0 (bY) (bY) j fun Cm oq u=>mP 2047 [10] [.int .i64 213]<|mE [(6,.int .i64 213)] fun a c=>bK<|tK<|cS<|qP [(74,.bool false)] c fun a c=> ?_
      refine cF 74 c<|cN<|tK<|qP [(4,.int .i64 213)] c fun a c=>cR<|rT 4 (.int .i64 213) c ?_
      replace d:=(d.ext O).grew oq (i.l 0)
      rw[fc hok (by omega) hf (z:=213) (by first|exact cM|exact cO hk hk5|exact cP hk hk5 ht) (by decide)];exact⟨rfl,⟨_,_,_,_,_,_,md.ext d⟩,RG.aK d⟩
     ·refine cD [0,0,2,6,14,31,63,127,127,255,1023] 10 mixed c<|mR 1 1 0 j<|mP 15 [1,2,3] [pV rb,pV rb,.pointer (some ⟨rb,2,none⟩)] ?_
      replace d:=(d.ext r).grew m (i.l 0)
      refine mO 31 17 4 2 (.int .i64 M.t) (d.blk hm)<|fZ 63 63 5 (u7 _ ob oe [] ca cc M.t) ?_
      rintro _ uN ⟨rfl,P⟩
      refine mP 511 [6,7,8] [.tuple #[.agg (bY).toArray,.int .i64 214],.agg (bY).toArray,.int .i64 214] ?_
      replace j:=j.x P
      refine mV 1023 767 9 0 (bY) (bY) j fun yZ rn u=>mP 2047 [10] [.int .i64 214]<|mE [(6,.int .i64 214)] fun a c=>bK<|tK<|cS<|qP [(74,.bool false)] c fun a c=> ?_
      refine cF 74 c<|cN<|tK<|qP [(4,.int .i64 214)] c fun a c=>cR<|rT 4 (.int .i64 214) c ?_
      replace d:=(d.ext P).grew rn (i.l 0)
      rw[fc hok (by omega) hf (z:=214) (by first|exact cM|exact cO hk hk5|exact cP hk hk5 ht) (by decide)];exact⟨rfl,⟨_,_,_,_,_,_,md.ext d⟩,RG.aK d⟩
     ·refine cD [0,0,2,6,14,31,63,127,127,255,1023] 10 mixed c<|mR 1 1 0 j<|mP 15 [1,2,3] [pV rb,pV rb,.pointer (some ⟨rb,2,none⟩)] ?_
      replace d:=(d.ext r).grew m (i.l 0)
      refine mO 31 17 4 2 (.int .i64 M.t) (d.blk hm)<|fZ 63 63 5 (u9 _ ob oe [] ca cc M.t ht) ?_
      rintro _ h43 ⟨rfl,Q⟩
      refine mP 511 [6,7,8] [.tuple #[.agg (bY).toArray,.int .i64 214],.agg (bY).toArray,.int .i64 214] ?_
      replace j:=j.x Q
      refine mV 1023 767 9 0 (bY) (bY) j fun Es za u=>mP 2047 [10] [.int .i64 214]<|mE [(6,.int .i64 214)] fun a c=>bK<|tK<|cS<|qP [(74,.bool false)] c fun a c=> ?_
      refine cF 74 c<|cN<|tK<|qP [(4,.int .i64 214)] c fun a c=>cR<|rT 4 (.int .i64 214) c ?_
      replace d:=(d.ext Q).grew za (i.l 0)
      rw[fc hok (by omega) hf (z:=214) (by first|exact cM|exact cO hk hk5|exact cP hk hk5 ht) (by decide)];exact⟨rfl,⟨_,_,_,_,_,_,md.ext d⟩,RG.aK d⟩
     ·refine cD [0,0,2,6,14,31,63,127,127,255,1023] 10 mixed c<|mR 1 1 0 j<|mP 15 [1,2,3] [pV rb,pV rb,.pointer (some ⟨rb,2,none⟩)] ?_
      replace d:=(d.ext r).grew m (i.l 0)
      refine mO 31 17 4 2 (.int .i64 M.t) (d.blk hm)<|fZ 63 63 5 (AY _ ob oe [] ca cc M.t ht) ?_
      rintro _ h47 ⟨rfl,H⟩
      refine mP 511 [6,7,8] [.tuple #[.agg (rc ob oe false true (.slice none 0 0)).toArray,.int .i64 0],.agg (rc ob oe false true (.slice none 0 0)).toArray,.int .i64 0] ?_
      replace j:=j.x H
      refine mV 1023 767 9 0 (rc ob oe false true (.slice none 0 0)) (rc ob oe false true (.slice none 0 0)) j fun h48 R u=> ?_
      replace j:=u
      refine mP 2047 [10] [.int .i64 0]<|mE [(6,.int .i64 0)] fun a c=>bK<|tK<|cS<|qP [(74,.bool true)] c fun a c=>cT 74 c ?_
      refine rS c<|tR 2 j ?_
      replace i:=((i.up m.size).up H.size).up R.size
      replace d:=(d.ext H).grew R (i.l 0)
      refine tG 3 (lO _ rb M A B _ _ oc ea ec es (md.ext d) oe false true none 0 (Row.nil _ 4) hE) ?_
      rintro _ h50 ⟨hfin,J⟩
      have K:=(RG.aK d).then J
      refine sE [] fun a c=>tK<|qP [(4,.int .i64 0)] c fun a c=>cR<|rT 4 (.int .i64 0) c ?_
      rw[j1 hok (by omega) hf (o':=⟨ob,oe,false,true,od⟩) (by first|exact eH hk.1 |exact eI hk5|exact fl hk hk5 ht)];exact⟨rfl,hfin,K⟩
theorem AZ(h:Heap)(L:List Hs)(va:Option Addr)(vc n:Nat)(hL:HR h va vc n L)(hn:n≤1099511627000)(i:Int)(p:List Hs)(e:Int)(hz:cA L i=(p,e)):Sat Tryz.prog 85 #[.slice va n vc,.int .i64 i] h fun v h'=>∃ad cap,v= .tuple #[.slice ad p.length cap,.int .i64 e]∧Own h' (.slice ad p.length cap) 39 p.length 32 (hcs p)∧(∀k,ad.map (fun(x:Addr)=>x.block)=some k→h.size ≤k)∧Ext h h':=
 (x4 h L va vc n hL hn i p e hz).mono fun v h' ⟨s,hv,ad,cap,hs,o,hge,g⟩=>by
  subst hs
  exact⟨ad,cap,hv,o,hge,g⟩
theorem A1(h:Heap)(L:List Hs)(va:Option Addr)(vc n:Nat)(hL:HR h va vc n L)(hn:n≤1099511627000):Sat Tryz.prog 42 #[.slice va n vc] h fun v h'=>v= .agg ((hl (pf (root L))).map bv).toArray ∧Ext h h':=by
 rw[lA (a_ hL.2.1)];exact im h L va vc n hL hn
noncomputable def b40:Code:=Tryz.f40.body.getD .skip
set_option maxHeartbeats 1000000 in
theorem jL {W:Nat→Prop}(h:Heap)(rb:Nat)(M:Md)(T:List RO)(oa:Option Addr)(oc:Nat)(ea:Option Addr)(ec:Nat)(es:List Value)(md:bD W h rb M T oa oc ea ec es)(kd n:Int)(s:ByteArray)(pa:Option Addr)(on pc:Nat)(ka:Option Addr)(kn kc:Nat)(hsz:s.size ≤9223372036854775807)(hE:M.E.length ≤1099511627)(A0:An)(hA0:c7 M kd s=A0):Sat Tryz.prog 40 #[.pointer (some ⟨rb,0,none⟩),.agg #[.int .i64 kd,.string s,.slice pa on pc,.int .i64 n,.slice ka kn kc]] h fun v h'=>AnsAt h' v A0∧Ext h h':=by
 subst hA0
 have hm:=md.hm
 have hLn:=md.ln
 have g:=Ext.refl h
 have c:Sep h.size h.size []:=Sep.nil _ _
 refine ag Tryz.func40 65 fun a d=>qS d<|tN 0 (pV h.size) #[.int .i64 kd,.string s,.slice pa on pc,.int .i64 n,.slice ka kn kc] 35 fun h1 g2 D=> ?_
 replace c:=c.nw g.size D
 refine tN 1 (pV h1.size) ((b6 0).toArray) 47 fun U V i=> ?_
 replace g:=g.ext g2
 replace c:=c.nw g.size i
 refine sT [(3,pV h.size),(4,pV h1.size)] fun a d=>cS ?_
 rcases md.j0 s with hok|⟨hok,hf,A,B,rfl,hA,hB⟩|⟨hok,A,x,B,rfl,hA,rfl,hf⟩
 ·refine rS d ?_
  replace D:=D.x V
  refine tO 2 1 D ?_
  replace g:=g.ext V
  refine tC 3 (.tuple #[.int .i64 0,.int .i64 210]) (Does.call (f:=80) (args:= #[pV rb,.string s]) (by kernel_rfl) (dT _ rb M T oa oc ea ec es (md.ext g) s hsz 0 210 (.inl ⟨hok,rfl,rfl⟩) hE))<|sE [(5,.int .i64 0),(6,.int .i64 210)] fun a d=>tK<|cS<|qP [(18,.bool true)] d fun a d=>cT 18 d<|qS d ?_
  refine bA 2 (b6 210) i fun h7 g8 C=> ?_
  replace i:=C
  refine sT [] fun a d=>cR (yT ?_)
  refine rB i d ?_
  replace g:=g.grew g8 (c.l 0)
  rw[sQ hok];exact⟨iK _ 210,g⟩
 ·refine rS d ?_
  replace D:=D.x V
  refine tO 2 1 D ?_
  replace g:=g.ext V
  refine tC 3 (.tuple #[.int .i64 0,.int .i64 211]) (Does.call (f:=80) (args:= #[pV rb,.string s]) (by kernel_rfl) (dT _ rb M (A++B) oa oc ea ec es (md.ext g) s hsz 0 211 (.inr (.inl ⟨hok,⟨_,.no hA hB⟩,rfl,rfl⟩)) hE))<|sE [(5,.int .i64 0),(6,.int .i64 211)] fun a d=>tK<|cS<|qP [(18,.bool true)] d fun a d=>cT 18 d<|qS d ?_
  refine bA 2 (b6 211) i fun h9 g10 C=> ?_
  replace i:=C
  refine sT [] fun a d=>cR (yT ?_)
  refine rB i d ?_
  replace g:=g.grew g10 (c.l 0)
  rw[j3 hok hf];exact⟨iK _ 211,g⟩
 ·have hAl:A.length <(A++x::B).length :=wU
  obtain⟨k1,k2,k3,k4⟩:=md.ob x (by simp)
  refine rS d ?_
  replace D:=D.x V
  refine tO 2 1 D ?_
  replace g:=g.ext V
  refine tC 3 (.tuple #[nV A.length,.int .i64 0]) (Does.call (f:=80) (args:= #[pV rb,.string x.o.b.id]) (by kernel_rfl) (dT _ rb M (A++x::B) oa oc ea ec es (md.ext g) x.o.b.id hsz A.length 0 (.inr (.inr ⟨hok,.yes hA rfl,rfl⟩)) hE))<|sE [(5,nV A.length),(6,.int .i64 0)] fun a d=>tK<|cS<|qP [(18,.bool false)] d fun a d=>cF 18 d<|cN ?_
  refine tK<|cS ?_
  have hFn:=d
  obtain⟨ao,rfl,fM⟩:=md.row.1.bg (by omega)
  have d:=hFn;clear hFn
  ·refine rS d<|tO 3 0 (g.blk hm)<|tI 5 ao ((A++x::B).length) 40 A.length (A.length *40)<|tC 6 (.agg (c8 x.o.b x.o.e x.o.ho x.o.go (.slice x.ca 0 x.cc) (.slice x.ba x.o.dt.length x.bc)).toArray) (Calm.load (T:=97) (p:=(Addr.add ao (A.length *40))) (by kernel_rfl) (Row.ro (md.row.1.ext g) q8 (by kernel_rfl) rfl))<|tN 7 (pV U.size) ((c6 (.slice none 0 0)).toArray) 97 fun h11 t m=> ?_
   replace c:=c.nw g.size m
   refine bA 8 (c8 x.o.b x.o.e x.o.ho x.o.go (.slice x.ca 0 x.cc) (.slice x.ba x.o.dt.length x.bc)) m fun O r C=> ?_
   replace m:=C
   refine sE [(7,pV U.size)] fun a d=>tK<|cS<|qS d ?_
   replace D:=(D.x t).y r (c.bp 2 0)
   refine tO 1 0 D<|sT [(29,.int .i64 kd)] fun a d=>cB 0<|qP [(30,.bool (decide (kd=(3:Int))))] d fun a d=>cJ 30 d (fun F=> ?_) fun F=> ?_
   ·refine qS d<|tQ 1 0 (rc x.o.b x.o.e x.o.ho x.o.go (.slice x.ca 0 x.cc)) m<|tG 2 (u3 _ x.o.b x.o.e x.o.ho x.o.go (.slice x.ca 0 x.cc)) ?_
    rintro _ h18 ⟨rfl,X⟩
    replace i:=((i.x t).y r (c.bp 1 0)).x X
    refine bA 4 (bN (0:Int) (.slice none 0 0) x.o.b x.o.e x.o.ho x.o.go (.slice none 0 0) (0:Int) dn (0:Int) (.slice none 0 0)) i fun h19 g20 C=> ?_
    replace i:=C
    refine sT [] fun a d=>cR (yB (yT ?_))
    refine rB i d ?_
    replace g:=(((g.ext t).grew r (c.l 0)).ext X).grew g20 (c.l 1)
    rw[nf hok hf F];exact⟨ie rfl (Own.nil _ _ _) (Own.nil _ _ _) (Own.nil _ _ _) aq.nil,g⟩
   ·refine qP [(36,.bool (decide (kd=(16:Int))))] d fun a d=>cJ 36 d (fun G=> ?_) fun G=> ?_
    ·refine cS<|cD [0,1,0,4,12,31,63,127,127,255,1023] 9 mixed d<|mP 13 [0,2,3] [pV rb,pV U.size,.pointer (some ⟨U.size,34,none⟩)]<|mO 29 16 4 34 (.int .i64 x.o.b.idx) m ?_
     replace g:=(g.ext t).grew r (c.l 0)
     refine fT 31 3 1 [4] (Does.call (f:=43) (args:= #[.pointer (some ⟨rb,0,none⟩)]) (by kernel_rfl) (kr _ rb M (A++x::B) _ oc ea ec es (md.ext g) hE)) ?_
     rintro _ kg ⟨Om,L5,rfl,H,Y,K⟩
     replace c:=(c.up r.size).co K Y H g.size
     replace m:=m.x K
     refine⟨?_,?_⟩
     ·intro j hj
      simp only[List.mem_cons,List.not_mem_nil,or_false] at hj
      subst hj
      exact aG (Calm.load (T:=3) (p:=⟨U.size,34,none⟩) (by kernel_rfl) (Loads.one (k:=1) (by kernel_rfl) ((an m).trans (rfl))))
     obtain⟨p,hz⟩:=Aq (md.ix _ _ k1)
     refine fZ 63 63 5 (AZ _ (cE M.E) _ _ M.E.length (HR.of H (gZ _)) (by omega) x.o.b.idx p 0 hz) ?_
     rintro _ h31 ⟨z,u,rfl,w,Z,L⟩
     replace g:=g.ext K
     replace c:=c.co L Z w g.size
     refine mP 2047 [6,7,8,9,10] [.tuple #[.slice z p.length u,.int .i64 0],.slice z p.length u,.int .i64 0,.slice z p.length u,.int .i64 0]<|mE [(8,.slice z p.length u)] fun a d=>tK<|qS d ?_
     replace m:=m.x L
     refine tO 2 34 m ?_
     replace i:=(((i.x t).y r (c.bp 3 2)).x K).x L
     refine bA 5 (bN (0:Int) (.slice none 0 0) dn 0 false false (.slice none 0 0) (0:Int) dn x.o.b.idx (.slice z p.length u)) i fun h32 rm C=> ?_
     replace i:=C
     refine sT [] fun a d=>cR (yB (yT ?_))
     refine rB i d ?_
     have hpp:(cA (cE M.E) x.o.b.idx).1 =p:=by rw[hz]
     replace g:=(g.ext L).grew rm (c.l 3)
     replace w:=w.k rm (c.ap 0 3)
     rw[lC hok hf G hz];exact⟨ie rfl (Own.nil _ _ _) (Own.nil _ _ _) w (hpp▸o5 (gZ _) _),g⟩
    ·refine cN<|bK<|tK<|cS<|qS d<|tO 2 37 m<|sT [(54,.bool x.o.go)] fun a d=> ?_
     refine cC 54 x.o.go d (fun I=> ?_) (fun I=> ?_)
     ·have hgo:=I
      refine qS d ?_
      replace i:=(i.x t).y r (c.bp 1 0)
      refine bA 1 (b6 213) i fun h35 Hy C=> ?_
      replace i:=C
      refine sT [] fun a d=>cR (yT ?_)
      refine rB i d ?_
      replace g:=((g.ext t).grew r (c.l 0)).grew Hy (c.l 1)
      rw[ng hok hf F G hgo];exact⟨iK _ 213,g⟩
     ·have hgo:=I
      refine cN<|tK<|cS<|qS d<|tO 1 0 D<|sT [(58,.bool (decide (kd=(2:Int))))] fun a d=>cJ 58 d (fun J=> ?_) fun J=> ?_
      ·refine qS d<|tN 0 (.slice (some ⟨O.size,0,none⟩) 0 0) #[] 5 fun h38 P Q=> ?_
       replace g:=(g.ext t).grew r (c.l 0)
       replace c:=(c.up r.size).nw g.size Q
       have q:Own h38 (.slice (some ⟨O.size,0,none⟩) 0 0) 5 ([]:List UInt8).length 1 (([]:List UInt8).map bv):=Own.empty 1 Q
       replace c:Sep h.size h38.size [(some ⟨O.size,0,none⟩:Option Addr).map (·.block),some (U.size),some (h1.size),some (h.size)]:=c
       replace i:=((i.x t).y r (c.bp 2 1)).x P
       replace g:=g.ext P
       replace m:=m.x P
       clear Q
       refine tO 2 39 m<|tP 3 (0+x.o.dt.length) 1 (x.o.dt.map bv) q (k4.1.1.ext g) (aE _) (fun Ks R h45 q S N=> ?_)
       have L6:=c
       replace c:=c.sa S 0 N q g.size;clear N
       replace i:=i.y S (L6.bp 2 0)
       refine bA 5 (bN (0:Int) (.slice Ks (0+x.o.dt.length) R) dn 0 false false (.slice none 0 0) (0:Int) dn (0:Int) (.slice none 0 0)) i fun h47 g48 C=> ?_
       replace i:=C
       refine sT [] fun a d=>cR (yT ?_)
       refine rB i d ?_
       replace q:=q.k g48 (c.ap 0 2)
       rw[Nat.zero_add] at q
       replace g:=(g.grew S (L6.l 0)).grew g48 (c.l 2)
       rw[lD hok hf J hgo,Nat.zero_add];exact⟨ie rfl q (Own.nil _ _ _) (Own.nil _ _ _) aq.nil,g⟩
      ·refine cN<|tK<|qS d ?_
       replace i:=(i.x t).y r (c.bp 1 0)
       refine bA 1 (b6 0) i fun D_ GD C=> ?_
       replace i:=C
       refine sT [] fun a d=>cR<|rB i d ?_
       replace g:=((g.ext t).grew r (c.l 0)).grew GD (c.l 1)
       rw[nh hok hf F G J hgo];exact⟨iK _ 0,g⟩
noncomputable def b18:Code:=Tryz.f18.body.getD .skip
theorem DB{W:Nat→Prop}{h0:Heap}(h:Heap)(rb:Nat)(M:Md)(T:List RO)(oa:Option Addr)(oc:Nat)(ea:Option Addr)(ec:Nat)(es:List Value)(md:bD W h0 rb M T oa oc ea ec es)(va:Option Addr)(vc:Nat)(hr:Row h (.slice va T.length vc) T.length 39 (a7 (T.map iq)))(hE:M.E.length ≤1099511627):Sat Tryz.prog 41 #[.slice va T.length vc,.int .i64 M.t] h fun v h'=>∃ad cap,v= .slice ad (eE M).length cap∧Own h' (.slice ad (eE M).length cap) 9 (eE M).length 1 ((eE M).map Value.string)∧(∀k,ad.map (fun(x:Addr)=>x.block)=some k→h.size ≤k)∧Ext h h':=by
 have hl:(T.map iq).length =T.length :=List.length_map _
 have hLn:=md.ln
 have:=x8 h (T.map iq) va vc M.t (by rw[hl];exact hr) (by rw[hl];omega)
 rw[hl] at this
 exact this.mono fun v h' ⟨S,ad,cap,hp,hs,e,o,hge,g⟩=>by
  have e2:=md.I9 hp hs
  have e3:S.length =(eE M).length :=by rw[e2];simp[ids]
  rw[←e2,e3] at o
  rw[e3] at e
  exact⟨ad,cap,e,o,hge,g⟩
set_option maxHeartbeats 2000000 in
theorem A2 {W:Nat→Prop}(h:Heap)(rb:Nat)(M:Md)(T:List RO)(oa:Option Addr)(oc:Nat)(ea:Option Addr)(ec:Nat)(es:List Value)(md:bD W h rb M T oa oc ea ec es)(hW:∀k,W k→k<h.size)(kd n:Int)(s:ByteArray)(l:List UInt8)(pa:Option Addr)(pc:Nat)(ka:Option Addr)(kn kc:Nat)(hr:Row h (.slice pa l.length pc) l.length 1 (l.map bv))(hsz:s.size ≤9223372036854775807)(hE:M.E.length ≤1099511627):Sat Tryz.prog 18 #[.pointer (some ⟨rb,0,none⟩),.agg #[.int .i64 kd,.string s,.slice pa l.length pc,.int .i64 n,.slice ka kn kc]] h fun v h'=>AnsAt h' v (step M kd n s l).2 ∧bB W h' rb (step M kd n s l).1 ∧RG rb h h':=by
 have hm:=md.hm
 have hbr:=ak hm
 have hLn:=md.ln
 have q:=Ext.refl h
 have r:Sep h.size h.size []:=Sep.nil _ _
 refine ag Tryz.func18 133 fun a d=>qS d<|tN 0 (pV h.size) #[.int .i64 kd,.string s,.slice pa l.length pc,.int .i64 n,.slice ka kn kc] 35 fun I g2 B=> ?_
 have HZ:=ak B
 replace r:=r.nw q.size B
 refine tN 1 (pV I.size) ((b6 0).toArray) 47 fun h6 J z=> ?_
 replace q:=q.ext g2
 have Er:=q.size
 replace r:=r.nw q.size z
 refine sT [(3,pV h.size),(4,pV I.size)] fun a d=>cS<|qS d ?_
 replace B:=B.x J
 refine tO 1 0 B<|sT [(9,.int .i64 kd)] fun a d=>cB 0<|qP [(11,.bool (decide (kd=(1:Int))))] d fun a d=>cJ 11 d (fun GF=> ?_) fun GF=> ?_
 ·refine qS d<|tO 2 1 B<|tO 4 2 B ?_
  replace q:=q.ext J
  refine tG 5 (x6 _ rb M T oa oc ea ec es (md.ext q) (fun k hk=>Nat.lt_of_lt_of_le (hW k hk) q.size) s hsz l pa pc (hr.ext q) hE) ?_
  rintro _ h12 ⟨rfl,hmod,U⟩
  have K:RG rb h h12:=(RG.aK q).then U
  replace z:h12[I.size]? =_:=(U.2 _ (ak z) (by omega)).trans z
  refine bA 7 (b6 ((db M s l).2)) z fun h13 g14 C=> ?_
  replace hmod:=hmod.aO g14 z (by decide) (by omega)
  replace z:=C
  refine sT [] fun a d=>cR (yB (yT ?_))
  refine rB z d ?_
  replace K:=K.bX g14 (fun x e=> .inr (by cases e;omega))
  rw[gB GF];exact⟨iK _ _,hmod,K⟩
 ·refine cS<|qP [(20,.bool (decide (kd=(4:Int))))] d fun a d=>cJ 20 d (fun GG=> ?_) fun GG=> ?_
  ·refine cN<|tK<|cJ 20 d (fun hx16=> ?_) fun hx16=>absurd GG hx16
   refine qS d<|tR 1 B ?_
   replace q:=q.ext J
   refine tG 2 (gL _ rb M T oa oc ea ec es (md.ext q) kd n s pa l.length pc ka kn kc hsz hE) ?_
   rintro _ h17 ⟨rfl,hmod,U⟩
   have K:RG rb h h17:=(RG.aK q).then U
   replace z:h17[I.size]? =_:=(U.2 _ (ak z) (by omega)).trans z
   refine bA 4 (b6 ((ff M kd n s).2)) z fun h18 g19 C=> ?_
   replace hmod:=hmod.aO g19 z (by decide) (by omega)
   replace z:=C
   refine sT [] fun a d=>cR (yB (yT ?_))
   refine rB z d ?_
   replace K:=K.bX g19 (fun x e=> .inr (by cases e;omega))
   rw[eQ (by omega)];exact⟨iK _ _,hmod,K⟩
  ·refine qP [(20,.bool (decide (kd=(5:Int))))] d fun a d=>cJ 20 d (fun GH=> ?_) fun GH=> ?_
   ·refine cN<|tK<|cJ 20 d (fun GI=> ?_) fun GI=>absurd GH GI
    refine qS d<|tR 1 B ?_
    replace q:=q.ext J
    refine tG 2 (gL _ rb M T oa oc ea ec es (md.ext q) kd n s pa l.length pc ka kn kc hsz hE) ?_
    rintro _ h22 ⟨rfl,hmod,U⟩
    have K:RG rb h h22:=(RG.aK q).then U
    replace z:h22[I.size]? =_:=(U.2 _ (ak z) (by omega)).trans z
    refine bA 4 (b6 ((ff M kd n s).2)) z fun h23 g24 C=> ?_
    replace hmod:=hmod.aO g24 z (by decide) (by omega)
    replace z:=C
    refine sT [] fun a d=>cR (yB (yT ?_))
    refine rB z d ?_
    replace K:=K.bX g24 (fun x e=> .inr (by cases e;omega))
    rw[eQ (by omega)];exact⟨iK _ _,hmod,K⟩
   ·refine rP [(20,.bool (decide (kd=(6:Int))))] d fun a d=>tK<|cJ 20 d (fun hc25=> ?_) fun hc25=> ?_
    ·refine qS d<|tR 1 B ?_
     replace q:=q.ext J
     refine tG 2 (gL _ rb M T oa oc ea ec es (md.ext q) kd n s pa l.length pc ka kn kc hsz hE) ?_
     rintro _ kg ⟨rfl,hmod,U⟩
     have K:RG rb h kg:=(RG.aK q).then U
     replace z:kg[I.size]? =_:=(U.2 _ (ak z) (by omega)).trans z
     refine bA 4 (b6 ((ff M kd n s).2)) z fun h27 xe C=> ?_
     replace hmod:=hmod.aO xe z (by decide) (by omega)
     replace z:=C
     refine sT [] fun a d=>cR (yB (yT ?_))
     refine rB z d ?_
     replace K:=K.bX xe (fun x e=> .inr (by cases e;omega))
     rw[eQ (by omega)];exact⟨iK _ _,hmod,K⟩
    ·refine cS<|qP [(28,.bool (decide (kd=(2:Int))))] d fun a d=>cJ 28 d (fun hc29=> ?_) fun hc29=> ?_
     ·refine cN<|tK<|cJ 28 d (fun GJ=> ?_) fun GJ=>absurd hc29 GJ
      refine qS d<|tR 1 B ?_
      obtain⟨A,hA⟩:∃A,c7 M kd s=A:=⟨_,rfl⟩
      replace q:=q.ext J
      refine tG 2 (jL _ rb M T oa oc ea ec es (md.ext q) kd n s pa l.length pc ka kn kc hsz hE A hA) ?_
      rintro _ h31 ⟨⟨qa,qc,ia,ic,V,X,rfl,r1,r2,r3,r4⟩,g⟩
      replace q:=q.ext g
      replace z:=z.x g
      replace r:=r.up g.size
      clear g
      refine bA 3 (bN A.c (.slice qa A.b.length qc) A.sx A.se A.sh A.sg (.slice ia A.i.length ic) A.n A.y A.k (.slice V A.p.length X)) z fun h32 rm C=> ?_
      replace r1:=r1.aO rm z (by decide)
      replace r2:=r2.aO rm z (by decide)
      replace r3:=r3.aO rm z (by decide)
      replace z:=C
      refine sT [] fun a d=>cR (yB (yT ?_))
      refine rB z d ?_
      replace q:=q.grew rm (r.l 0)
      rw[dr (by omega),hA];exact⟨⟨_,_,_,_,_,_,rfl,r1,r2,r3,r4⟩,⟨_,_,_,_,_,_,md.ext q⟩,RG.aK q⟩
     ·refine qP [(28,.bool (decide (kd=(3:Int))))] d fun a d=>cJ 28 d (fun hc34=> ?_) fun hc34=> ?_
      ·refine cN<|tK<|cJ 28 d (fun GK=> ?_) fun GK=>absurd hc34 GK
       refine qS d<|tR 1 B ?_
       obtain⟨A,hA⟩:∃A,c7 M kd s=A:=⟨_,rfl⟩
       replace q:=q.ext J
       refine tG 2 (jL _ rb M T oa oc ea ec es (md.ext q) kd n s pa l.length pc ka kn kc hsz hE A hA) ?_
       rintro _ Cm ⟨⟨qa,qc,ia,ic,V,X,rfl,r1,r2,r3,r4⟩,g⟩
       replace q:=q.ext g
       replace z:=z.x g
       replace r:=r.up g.size
       clear g
       refine bA 3 (bN A.c (.slice qa A.b.length qc) A.sx A.se A.sh A.sg (.slice ia A.i.length ic) A.n A.y A.k (.slice V A.p.length X)) z fun h37 BB C=> ?_
       replace r1:=r1.aO BB z (by decide)
       replace r2:=r2.aO BB z (by decide)
       replace r3:=r3.aO BB z (by decide)
       replace z:=C
       refine sT [] fun a d=>cR (yB (yT ?_))
       refine rB z d ?_
       replace q:=q.grew BB (r.l 0)
       rw[dr (by omega),hA];exact⟨⟨_,_,_,_,_,_,rfl,r1,r2,r3,r4⟩,⟨_,_,_,_,_,_,md.ext q⟩,RG.aK q⟩
      ·refine qP [(28,.bool (decide (kd=(16:Int))))] d fun a d=>cJ 28 d (fun hc39=> ?_) fun hc39=> ?_
       ·refine cN<|tK<|cJ 28 d (fun GL=> ?_) fun GL=>absurd hc39 GL
        refine qS d<|tR 1 B ?_
        obtain⟨A,hA⟩:∃A,c7 M kd s=A:=⟨_,rfl⟩
        replace q:=q.ext J
        refine tG 2 (jL _ rb M T oa oc ea ec es (md.ext q) kd n s pa l.length pc ka kn kc hsz hE A hA) ?_
        rintro _ vl ⟨⟨qa,qc,ia,ic,V,X,rfl,r1,r2,r3,r4⟩,g⟩
        replace q:=q.ext g
        replace z:=z.x g
        replace r:=r.up g.size
        clear g
        refine bA 3 (bN A.c (.slice qa A.b.length qc) A.sx A.se A.sh A.sg (.slice ia A.i.length ic) A.n A.y A.k (.slice V A.p.length X)) z fun h42 vo C=> ?_
        replace r1:=r1.aO vo z (by decide)
        replace r2:=r2.aO vo z (by decide)
        replace r3:=r3.aO vo z (by decide)
        replace z:=C
        refine sT [] fun a d=>cR (yB (yT ?_))
        refine rB z d ?_
        replace q:=q.grew vo (r.l 0)
        rw[dr (by omega),hA];exact⟨⟨_,_,_,_,_,_,rfl,r1,r2,r3,r4⟩,⟨_,_,_,_,_,_,md.ext q⟩,RG.aK q⟩
       ·refine rP [(28,.bool (decide (kd=(15:Int))))] d fun a d=>tK<|cJ 28 d (fun Kt=> ?_) fun Kt=> ?_
        ·refine qS d<|tR 1 B ?_
         obtain⟨A,hA⟩:∃A,c7 M kd s=A:=⟨_,rfl⟩
         replace q:=q.ext J
         refine tG 2 (jL _ rb M T oa oc ea ec es (md.ext q) kd n s pa l.length pc ka kn kc hsz hE A hA) ?_
         rintro _ h45 ⟨⟨qa,qc,ia,ic,V,X,rfl,r1,r2,r3,r4⟩,g⟩
         replace q:=q.ext g
         replace z:=z.x g
         replace r:=r.up g.size
         clear g
         refine bA 3 (bN A.c (.slice qa A.b.length qc) A.sx A.se A.sh A.sg (.slice ia A.i.length ic) A.n A.y A.k (.slice V A.p.length X)) z fun h46 g47 C=> ?_
         replace r1:=r1.aO g47 z (by decide)
         replace r2:=r2.aO g47 z (by decide)
         replace r3:=r3.aO g47 z (by decide)
         replace z:=C
         refine sT [] fun a d=>cR (yB (yT ?_))
         refine rB z d ?_
         replace q:=q.grew g47 (r.l 0)
         rw[dr (by omega),hA];exact⟨⟨_,_,_,_,_,_,rfl,r1,r2,r3,r4⟩,⟨_,_,_,_,_,_,md.ext q⟩,RG.aK q⟩
        ·refine cS<|qP [(36,.bool (decide (kd=(7:Int))))] d fun a d=>cJ 36 d (fun DC=> ?_) fun DC=> ?_
         ·refine cN<|tK<|cJ 36 d (fun GM=> ?_) fun GM=>absurd DC GM
          refine qS d<|tN 0 (.slice (some ⟨h6.size,0,none⟩) 0 0) #[] 9 fun Y Ku Kv=> ?_
          replace q:=q.ext J
          replace r:=r.nw q.size Kv
          have u:Own Y (.slice (some ⟨h6.size,0,none⟩) 0 0) 9 ([]:List ByteArray).length 1 (([]:List ByteArray).map Value.string):=Own.empty 1 Kv
          replace r:Sep h.size Y.size [(some ⟨h6.size,0,none⟩:Option Addr).map (·.block),some (I.size),some (h.size)]:=r
          replace q:=q.ext Ku
          replace B:=B.x Ku
          replace z:=z.x Ku
          clear Kv
          refine sT [(5,.slice (some ⟨h6.size,0,none⟩) 0 0)] fun a d=>qS d<|tN 0 (.slice (some ⟨Y.size,0,none⟩) 0 0) #[] 95 fun Da sO Kw=> ?_
          replace r:=r.nw q.size Kw
          have w:Own Da (.slice (some ⟨Y.size,0,none⟩) 0 0) 95 ([]:List Rec).length 39 (a7 []):=Own.empty 39 Kw
          replace r:Sep h.size Da.size [(some ⟨Y.size,0,none⟩:Option Addr).map (·.block),(some ⟨h6.size,0,none⟩:Option Addr).map (·.block),some (I.size),some (h.size)]:=r
          replace q:=q.ext sO
          replace u:=u.ext sO
          replace B:=B.x sO
          replace z:=z.x sO
          clear Kw
          refine sT [(6,.slice (some ⟨Y.size,0,none⟩) 0 0)] fun a d=>cS<|qP [(7,.int .i64 0)] d fun a d=>cB 1<|cL (fun m a h'=>∃k:Nat,∃ni:Nat,∃ia:Option Addr,∃ic:Nat,∃ra:Option Addr,∃rd:Nat,m=T.length - k∧(Ext h h')∧(h'[h.size]? =some (.cells #[.int .i64 kd,.string s,.slice pa l.length pc,.int .i64 n,.slice ka kn kc] 35))∧(h'[I.size]? =some (.cells (b6 0).toArray 47))∧(k≤T.length)∧((live ((T.take k).map iq)).length =ni)∧(ni≤k)∧(Own h' (.slice ia ni ic) 9 ni 1 ((live ((T.take k).map iq)).map Value.string))∧(Own h' (.slice ra k rd) 95 k 39 (a7 ((T.take k).map iq)))∧(Sep h.size h'.size [ra.map (·.block),ia.map (·.block),some (I.size),some (h.size)])∧(Fr a 133 [(0,.pointer (some ⟨rb,0,none⟩)),(3,.pointer (some ⟨h.size,0,none⟩)),(4,.pointer (some ⟨I.size,0,none⟩)),(5,.slice ia ni ic),(6,.slice ra k rd),(7,.int .i64 ((k:Nat):Int))])) (T.length - 0) ⟨0,0,(some ⟨h6.size,0,none⟩),0,(some ⟨Y.size,0,none⟩),0,rfl,q,B,z,(Nat.zero_le _),rfl,(Nat.le_refl _),u,w,r,d.to⟩ ?_
          clear d a
          clear q
          clear B
          clear z
          clear u
          clear w
          clear r
          rintro m a h60 ⟨k,ni,ia,ic,ra,rd,rfl,q,B,z,hk,hni,hnk,u,w,r,d⟩
          refine cS<|qS d<|tO 4 0 (q.blk hm)<|sT [(47,.bool (decide (((k:Nat):Int)<((T.length :Nat):Int))))] fun a d=>cJ 47 d (fun Kx=> ?_) fun Kx=> ?_
          ·have hkn:k<T.length :=by omega
           obtain⟨x,hx⟩:∃x,T[k]? =some x:=⟨_,List.getElem?_eq_getElem hkn⟩
           have hFn:=d
           obtain⟨ao,rfl,fM⟩:=md.row.1.bg (by omega)
           have d:=hFn;clear hFn
           refine cN<|tK<|cS<|cB 2<|qS d<|tO 4 0 (q.blk hm)<|tI 6 ao T.length 40 k (k*40) ?_
           refine t1 7 (.pointer (some (Addr.add ao (k*40)))) (.pointer (some ((Addr.add ao (k*40)).add 0))) (by rw[add_add,Nat.add_zero])<|tC 8 (.agg (rc x.o.b x.o.e x.o.ho x.o.go (.slice x.ca 0 x.cc)).toArray) (Calm.load (T:=95) (p:=(Addr.add ao (k*40))) (by kernel_rfl) (Row.Hv (md.row.1.ext q) hx (by kernel_rfl) rfl))<|tN 9 (.slice (some ⟨h60.size,0,none⟩) 1 1) ((rc x.o.b x.o.e x.o.ho x.o.go (.slice x.ca 0 x.cc)).toArray) 95 fun Cp N m64=> ?_
           replace r:=r.nw q.size m64
           replace w:=w.ext N
           refine tP 10 (k+1) 104 (a7 (((T.take k).map iq)++[iq x])) w (Row.BI (x:=x) m64) (ed _) (fun O Z IK w P GN=> ?_) (ys:=(a7 ([iq x]))) (hZ:=by first|rfl|exact List.flatMap_append.symm |simp[a7])
           replace q:=q.ext N
           have s72:=r
           replace r:=r.sa P 1 GN w q.size;clear GN
           refine sT [(6,.slice O (k+1) Z)] fun a d=>qS d ?_
           replace q:=q.grew P (s72.l 1)
           refine tO 3 0 (q.blk hm)<|tI 5 ao T.length 40 k (k*40)<|t1 6 (.pointer (some (Addr.add ao (k*40)))) (.pointer (some ((Addr.add ao (k*40)).add 0))) (by rw[add_add,Nat.add_zero])<|t1 7 (.pointer (some (Addr.add ao ((k*40)+37)))) (.pointer (some ((Addr.add ao (k*40)).add 37))) (by rw[add_add])<|tC 8 (.bool x.o.go) (Calm.load (T:=4) (p:=(Addr.add ao ((k*40)+37))) (by kernel_rfl) (Loads.one (k:=1) (by kernel_rfl) (Row.FD (md.row.1.ext q) hx)))<|sT [(70,.bool (!x.o.go))] fun a d=>cC 70 (!x.o.go) d (fun DD=> ?_) (fun DD=> ?_)
           ·have hgo:x.o.go =false:=by simpa using DD
            refine rS d<|tO 4 0 (q.blk hm)<|tI 6 ao T.length 40 k (k*40)<|t1 7 (.pointer (some (Addr.add ao (k*40)))) (.pointer (some ((Addr.add ao (k*40)).add 0))) (by rw[add_add,Nat.add_zero])<|t1 8 (.pointer (some (Addr.add ao (k*40)))) (.pointer (some ((Addr.add ao (k*40)).add 0))) (by rw[add_add,Nat.add_zero])<|tC 9 (.string x.o.b.id) (Calm.load (T:=9) (p:=(Addr.add ao (k*40))) (by kernel_rfl) (Loads.one (k:=1) (by kernel_rfl) (Row.wV (md.row.1.ext q) hx)))<|tN 10 (.slice (some ⟨IK.size,0,none⟩) 1 1) #[.string x.o.b.id] 9 fun KY vm D7=> ?_
            replace r:=r.nw q.size D7
            replace u:=((u.ext N).k P (s72.ap 2 1)).ext vm
            refine tP 11 (ni+1) 16 (((live ((T.take k).map iq))++[x.o.b.id]).map Value.string) u (Row.blk (n:=1) (sz:=1) (l:=[.string x.o.b.id]) D7 rfl) (List.all_eq_true.1 (by rfl)) (fun DE BS h83 u z_ GO=> ?_) (ys:=(([x.o.b.id]).map Value.string))
            replace q:=q.ext vm
            have HJ:=r
            replace r:=r.sa z_ 3 GO u q.size;clear GO
            refine sE [(5,.slice DE (ni+1) BS)] fun a d=>bK<|tK<|rS d<|tA 1 k 1<|sE [(7,nV (k+1))] fun a d=> ?_
            clear m64
            clear D7
            replace B:=(((B.x N).y P (s72.bp 4 1)).x vm).y z_ (HJ.bp 5 3)
            replace z:=(((z.x N).y P (s72.bp 3 1)).x vm).y z_ (HJ.bp 4 3)
            replace w:=(w.ext vm).k z_ (HJ.ap 2 3)
            replace q:=q.grew z_ (HJ.l 3)
            replace r:=r.sub (l':=[O.map (·.block),DE.map (·.block),some (I.size),some (h.size)]) (.cons _ (.cons _ (.cons_cons _ (.cons_cons _ (.cons_cons _ (.cons_cons _ (.slnil)))))))
            rw[←ig hx] at w
            rw[←ik hx hgo] at u
            have oA:=congrArg List.length (ik hx hgo)
            rw[List.length_append,hni] at oA
            show ∃m',m'<_∧_
            refine⟨_,?_,(k+1),(ni+1),DE,BS,O,Z,rfl,q,B,z,(by omega),oA,(by omega),u,w,r,d.to⟩
            omega
           ·have hgo:x.o.go =true:=by simpa using DD
            refine cN<|bK<|tK<|rS d<|tA 1 k 1<|sE [(7,nV (k+1))] fun a d=> ?_
            clear m64
            replace u:=(u.ext N).k P (s72.ap 2 1)
            replace B:=(B.x N).y P (s72.bp 4 1)
            replace z:=(z.x N).y P (s72.bp 3 1)
            replace r:=r.sub (l':=[O.map (·.block),ia.map (·.block),some (I.size),some (h.size)]) (.cons _ (.cons_cons _ (.cons_cons _ (.cons_cons _ (.cons_cons _ (.slnil))))))
            rw[←ig hx] at w
            rw[←ij hx hgo] at u
            have oA:=(congrArg List.length (ij hx hgo)).trans hni
            show ∃m',m'<_∧_
            refine⟨_,?_,(k+1),ni,ia,ic,O,Z,rfl,q,B,z,(by omega),oA,(by omega),u,w,r,d.to⟩
            omega
          ·refine cX 1 (xT (xT (xB ?_)))
           refine tK<|cS<|cS ?_
           obtain rfl:k=T.length :=by omega
           rw[List.take_length] at w u hni
           ·refine rS d<|tO 1 0 B<|eF 2 kd 8<|sE [(85,.bool false)] fun a d=>tK<|cF 85 d<|cN ?_
            refine tK<|qS d<|bA 2 (bN (0:Int) (.slice none 0 0) dn 0 false false (.slice ia ni ic) (0:Int) dn (0:Int) (.slice none 0 0)) z fun Hk vJ C=> ?_
            replace z:=C
            refine sT [] fun a d=>cR (yB (yT ?_))
            refine rB z d ?_
            replace q:=q.grew vJ (r.l 2)
            replace u:=u.k vJ (r.ap 1 2)
            rw[py DC,md.FC];rw[←hni] at u⊢;exact⟨ie rfl (Own.nil _ _ _) u (Own.nil _ _ _) aq.nil,⟨_,_,_,_,_,_,md.ext q⟩,RG.aK q⟩
         ·refine rP [(36,.bool (decide (kd=(8:Int))))] d fun a d=>tK<|cJ 36 d (fun GP=> ?_) fun GP=> ?_
          ·refine qS d<|tN 0 (.slice (some ⟨h6.size,0,none⟩) 0 0) #[] 9 fun DF Ky Kz=> ?_
           replace q:=q.ext J
           replace r:=r.nw q.size Kz
           have u:Own DF (.slice (some ⟨h6.size,0,none⟩) 0 0) 9 ([]:List ByteArray).length 1 (([]:List ByteArray).map Value.string):=Own.empty 1 Kz
           replace r:Sep h.size DF.size [(some ⟨h6.size,0,none⟩:Option Addr).map (·.block),some (I.size),some (h.size)]:=r
           replace q:=q.ext Ky
           replace B:=B.x Ky
           replace z:=z.x Ky
           clear Kz
           refine sT [(5,.slice (some ⟨h6.size,0,none⟩) 0 0)] fun a d=>qS d<|tN 0 (.slice (some ⟨DF.size,0,none⟩) 0 0) #[] 95 fun L7 BA KA=> ?_
           replace r:=r.nw q.size KA
           have w:Own L7 (.slice (some ⟨DF.size,0,none⟩) 0 0) 95 ([]:List Rec).length 39 (a7 []):=Own.empty 39 KA
           replace r:Sep h.size L7.size [(some ⟨DF.size,0,none⟩:Option Addr).map (·.block),(some ⟨h6.size,0,none⟩:Option Addr).map (·.block),some (I.size),some (h.size)]:=r
           replace q:=q.ext BA
           replace u:=u.ext BA
           replace B:=B.x BA
           replace z:=z.x BA
           clear KA
           refine sT [(6,.slice (some ⟨DF.size,0,none⟩) 0 0)] fun a d=>cS<|qP [(7,.int .i64 0)] d fun a d=>cB 1<|cL (fun m a h'=>∃k:Nat,∃ni:Nat,∃ia:Option Addr,∃ic:Nat,∃ra:Option Addr,∃rd:Nat,m=T.length - k∧(Ext h h')∧(h'[h.size]? =some (.cells #[.int .i64 kd,.string s,.slice pa l.length pc,.int .i64 n,.slice ka kn kc] 35))∧(h'[I.size]? =some (.cells (b6 0).toArray 47))∧(k≤T.length)∧((live ((T.take k).map iq)).length =ni)∧(ni≤k)∧(Own h' (.slice ia ni ic) 9 ni 1 ((live ((T.take k).map iq)).map Value.string))∧(Own h' (.slice ra k rd) 95 k 39 (a7 ((T.take k).map iq)))∧(Sep h.size h'.size [ra.map (·.block),ia.map (·.block),some (I.size),some (h.size)])∧(Fr a 133 [(0,.pointer (some ⟨rb,0,none⟩)),(3,.pointer (some ⟨h.size,0,none⟩)),(4,.pointer (some ⟨I.size,0,none⟩)),(5,.slice ia ni ic),(6,.slice ra k rd),(7,.int .i64 ((k:Nat):Int))])) (T.length - 0) ⟨0,0,(some ⟨h6.size,0,none⟩),0,(some ⟨DF.size,0,none⟩),0,rfl,q,B,z,(Nat.zero_le _),rfl,(Nat.le_refl _),u,w,r,d.to⟩ ?_
           clear d a
           clear q
           clear B
           clear z
           clear u
           clear w
           clear r
           rintro m a Lz ⟨k,ni,ia,ic,ra,rd,rfl,q,B,z,hk,hni,hnk,u,w,r,d⟩
           refine cS<|qS d<|tO 4 0 (q.blk hm)<|sT [(47,.bool (decide (((k:Nat):Int)<((T.length :Nat):Int))))] fun a d=>cJ 47 d (fun hc99=> ?_) fun hc99=> ?_
           ·have hkn:k<T.length :=by omega
            obtain⟨x,hx⟩:∃x,T[k]? =some x:=⟨_,List.getElem?_eq_getElem hkn⟩
            have hFn:=d
            obtain⟨ao,rfl,fM⟩:=md.row.1.bg (by omega)
            have d:=hFn;clear hFn
            refine cN<|tK<|cS<|cB 2<|qS d<|tO 4 0 (q.blk hm)<|tI 6 ao T.length 40 k (k*40) ?_
            refine t1 7 (.pointer (some (Addr.add ao (k*40)))) (.pointer (some ((Addr.add ao (k*40)).add 0))) (by rw[add_add,Nat.add_zero])<|tC 8 (.agg (rc x.o.b x.o.e x.o.ho x.o.go (.slice x.ca 0 x.cc)).toArray) (Calm.load (T:=95) (p:=(Addr.add ao (k*40))) (by kernel_rfl) (Row.Hv (md.row.1.ext q) hx (by kernel_rfl) rfl))<|tN 9 (.slice (some ⟨Lz.size,0,none⟩) 1 1) ((rc x.o.b x.o.e x.o.ho x.o.go (.slice x.ca 0 x.cc)).toArray) 95 fun On D A3=> ?_
            replace r:=r.nw q.size A3
            replace w:=w.ext D
            refine tP 10 (k+1) 104 (a7 (((T.take k).map iq)++[iq x])) w (Row.BI (x:=x) A3) (ed _) (fun G L KB w F BT=> ?_) (ys:=(a7 ([iq x]))) (hZ:=by first|rfl|exact List.flatMap_append.symm |simp[a7])
            replace q:=q.ext D
            have H:=r
            replace r:=r.sa F 1 BT w q.size;clear BT
            refine sT [(6,.slice G (k+1) L)] fun a d=>qS d ?_
            replace q:=q.grew F (H.l 1)
            refine tO 3 0 (q.blk hm)<|tI 5 ao T.length 40 k (k*40)<|t1 6 (.pointer (some (Addr.add ao (k*40)))) (.pointer (some ((Addr.add ao (k*40)).add 0))) (by rw[add_add,Nat.add_zero])<|t1 7 (.pointer (some (Addr.add ao ((k*40)+37)))) (.pointer (some ((Addr.add ao (k*40)).add 37))) (by rw[add_add])<|tC 8 (.bool x.o.go) (Calm.load (T:=4) (p:=(Addr.add ao ((k*40)+37))) (by kernel_rfl) (Loads.one (k:=1) (by kernel_rfl) (Row.FD (md.row.1.ext q) hx)))<|sT [(70,.bool (!x.o.go))] fun a d=>cC 70 (!x.o.go) d (fun yd=> ?_) (fun yd=> ?_)
            ·have hgo:x.o.go =false:=by simpa using yd
             refine rS d<|tO 4 0 (q.blk hm)<|tI 6 ao T.length 40 k (k*40)<|t1 7 (.pointer (some (Addr.add ao (k*40)))) (.pointer (some ((Addr.add ao (k*40)).add 0))) (by rw[add_add,Nat.add_zero])<|t1 8 (.pointer (some (Addr.add ao (k*40)))) (.pointer (some ((Addr.add ao (k*40)).add 0))) (by rw[add_add,Nat.add_zero])<|tC 9 (.string x.o.b.id) (Calm.load (T:=9) (p:=(Addr.add ao (k*40))) (by kernel_rfl) (Loads.one (k:=1) (by kernel_rfl) (Row.wV (md.row.1.ext q) hx)))<|tN 10 (.slice (some ⟨KB.size,0,none⟩) 1 1) #[.string x.o.b.id] 9 fun h112 Q DG=> ?_
             replace r:=r.nw q.size DG
             replace u:=((u.ext D).k F (H.ap 2 1)).ext Q
             refine tP 11 (ni+1) 16 (((live ((T.take k).map iq))++[x.o.b.id]).map Value.string) u (Row.blk (n:=1) (sz:=1) (l:=[.string x.o.b.id]) DG rfl) (List.all_eq_true.1 (by rfl)) (fun ye yf Oo u R BU=> ?_) (ys:=(([x.o.b.id]).map Value.string))
             replace q:=q.ext Q
             have A4:=r
             replace r:=r.sa R 3 BU u q.size;clear BU
             refine sE [(5,.slice ye (ni+1) yf)] fun a d=>bK<|tK<|rS d<|tA 1 k 1<|sE [(7,nV (k+1))] fun a d=> ?_
             clear A3
             clear DG
             replace B:=(((B.x D).y F (H.bp 4 1)).x Q).y R (A4.bp 5 3)
             replace z:=(((z.x D).y F (H.bp 3 1)).x Q).y R (A4.bp 4 3)
             replace w:=(w.ext Q).k R (A4.ap 2 3)
             replace q:=q.grew R (A4.l 3)
             replace r:=r.sub (l':=[G.map (·.block),ye.map (·.block),some (I.size),some (h.size)]) (.cons _ (.cons _ (.cons_cons _ (.cons_cons _ (.cons_cons _ (.cons_cons _ (.slnil)))))))
             rw[←ig hx] at w
             rw[←ik hx hgo] at u
             have oA:=congrArg List.length (ik hx hgo)
             rw[List.length_append,hni] at oA
             show ∃m',m'<_∧_
             refine⟨_,?_,(k+1),(ni+1),ye,yf,G,L,rfl,q,B,z,(by omega),oA,(by omega),u,w,r,d.to⟩
             omega
            ·have hgo:x.o.go =true:=by simpa using yd
             refine cN<|bK<|tK<|rS d<|tA 1 k 1<|sE [(7,nV (k+1))] fun a d=> ?_
             clear A3
             replace u:=(u.ext D).k F (H.ap 2 1)
             replace B:=(B.x D).y F (H.bp 4 1)
             replace z:=(z.x D).y F (H.bp 3 1)
             replace r:=r.sub (l':=[G.map (·.block),ia.map (·.block),some (I.size),some (h.size)]) (.cons _ (.cons_cons _ (.cons_cons _ (.cons_cons _ (.cons_cons _ (.slnil))))))
             rw[←ig hx] at w
             rw[←ij hx hgo] at u
             have oA:=(congrArg List.length (ij hx hgo)).trans hni
             show ∃m',m'<_∧_
             refine⟨_,?_,(k+1),ni,ia,ic,G,L,rfl,q,B,z,(by omega),oA,(by omega),u,w,r,d.to⟩
             omega
           ·refine cX 1 (xT (xT (xB ?_)))
            refine tK<|cS<|cS ?_
            obtain rfl:k=T.length :=by omega
            rw[List.take_length] at w u hni
            ·refine rS d<|tO 1 0 B<|eT 2 kd 8<|sE [(85,.bool true)] fun a d=>tK<|cT 85 d<|rS d ?_
             refine tO 4 2 (q.blk hm)<|tG 5 (DB _ rb M T oa oc ea ec es md ra rd w.row hE) ?_
             rintro _ KC ⟨yg,yh,rfl,rl,hge,g⟩
             have hlo:=q.size
             have a8:=r
             replace q:=q.ext g
             replace z:=z.x g
             replace r:=a8.cons (x:=yg.map (fun(x:Addr)=>x.block)) g.size hlo (fun k e=>⟨hge k e,rl.lt (by rw[af];exact e)⟩)
             have yi:=rl;clear rl a8 hlo hge g
             refine sE [(5,.slice yg ((eE M).length) yh)] fun a d=>tK<|qS d<|bA 2 (bN (0:Int) (.slice none 0 0) dn 0 false false (.slice yg ((eE M).length) yh) (0:Int) dn (0:Int) (.slice none 0 0)) z fun Oq GQ C=> ?_
             replace z:=C
             refine sT [] fun a d=>cR (yB (yT ?_))
             refine rB z d ?_
             replace q:=q.grew GQ (r.l 3)
             replace yi:=yi.k GQ (r.ap 0 3)
             rw[pz GP];exact⟨ie rfl (Own.nil _ _ _) yi (Own.nil _ _ _) aq.nil,⟨_,_,_,_,_,_,md.ext q⟩,RG.aK q⟩
          ·refine qP [(94,.bool (decide (kd=(9:Int))))] d fun a d=>cJ 94 d (fun hc128=> ?_) fun hc128=> ?_
           ·refine cS<|cD [0,1,3,7,15,0,32,96,255,511,1023] 28 mixed d<|mP 7 [0,1,2] [pV rb,pV rb,.pointer (some ⟨rb,1,none⟩)] ?_
            replace q:=q.ext J
            refine mO 15 8 3 1 (.slice ea M.E.length ec) (q.blk hm)<|mP 63 [4,5] [nV M.E.length,pV rb]<|fT 127 96 6 [3] (Does.call (f:=43) (args:= #[.pointer (some ⟨rb,0,none⟩)]) (by kernel_rfl) (kr _ rb M T oa oc ea ec es (md.ext q) hE)) ?_
            rintro _ GR ⟨tj,DH,rfl,BV,GS,DI⟩
            replace r:=r.co DI GS BV q.size
            replace q:=q.ext DI
            refine⟨?_,?_⟩
            ·intro j hj
             simp only[List.mem_cons,List.not_mem_nil,or_false] at hj
             subst hj
             exact aG (Calm.load (T:=67) (p:=⟨rb,1,none⟩) (by kernel_rfl) (Loads.one (k:=1) (by kernel_rfl) ((an (q.blk hm)).trans rfl)))
            refine fT 255 224 7 [3] (Does.call (f:=42) (args:= #[.slice tj M.E.length DH]) (by kernel_rfl) (A1 _ (cE M.E) _ _ M.E.length (HR.of BV (gZ _)) (by omega))) ?_
            rintro _ CF ⟨rfl,j8⟩
            replace q:=q.ext j8
            refine⟨?_,?_⟩
            ·intro j hj
             simp only[List.mem_cons,List.not_mem_nil,or_false] at hj
             subst hj
             exact aG (Calm.load (T:=67) (p:=⟨rb,1,none⟩) (by kernel_rfl) (Loads.one (k:=1) (by kernel_rfl) ((an (q.blk hm)).trans rfl)))
            refine mP 1023 [8,9] [.agg (hdc ((M.E.length :Nat):Int) (pf (root (cE M.E)))).toArray,.agg (bN (0:Int) (.slice none 0 0) dn 0 false false (.slice none 0 0) ((M.E.length :Nat):Int) (pf (root (cE M.E))) (0:Int) (.slice none 0 0)).toArray] ?_
            replace z:=(z.x DI).x j8
            refine mV 2047 2047 10 0 (bN (0:Int) (.slice none 0 0) dn 0 false false (.slice none 0 0) ((M.E.length :Nat):Int) (pf (root (cE M.E))) (0:Int) (.slice none 0 0)) (bN (0:Int) (.slice none 0 0) dn 0 false false (.slice none 0 0) ((M.E.length :Nat):Int) (pf (root (cE M.E))) (0:Int) (.slice none 0 0)) z fun Ot KD C=> ?_
            replace z:=C
            refine mE [] fun a d=>tK<|cR (yB (yT ?_))
            refine rB z d ?_
            replace q:=q.grew KD (r.l 1)
            rw[step_head hc128];exact⟨ie rfl (Own.nil _ _ _) (Own.nil _ _ _) (Own.nil _ _ _) aq.nil,⟨_,_,_,_,_,_,md.ext q⟩,RG.aK q⟩
           ·refine qP [(106,.bool (decide (kd=(10:Int))))] d fun a d=>cJ 106 d (fun oQ=> ?_) fun oQ=> ?_
            ·refine qS d<|tO 1 3 B<|sT [(110,.bool (decide ((0:Int)<n)))] fun a d=>cJ 110 d (fun GU=> ?_) fun GU=> ?_
             ·refine cD [0,0,2,6,14,0,32,0,128,384,896,1920,4064,8190,16383,32767,65535] 31 mixed d<|mP 15 [0,1,2,3] [pV rb,pV rb,pV rb,.pointer (some ⟨rb,2,none⟩)] ?_
              replace q:=q.ext J
              refine mO 31 16 4 2 (.int .i64 M.t) (q.blk hm)<|mP 63 [5] [.pointer (some ⟨h.size,3,none⟩)]<|mO 127 80 6 3 (.int .i64 n) B<|mP 1023 [7,8,9] [pV rb,pV rb,.pointer (some ⟨rb,2,none⟩)]<|mO 2047 1104 10 2 (.int .i64 M.t) (q.blk hm)<|m1 4095 11 (.int .i64 (1099511627776 - M.t)) (.int .i64 (IntKind.i64.wrap ((1099511627776:Int) - M.t))) (congrArg (Value.int .i64) (k7 (by have:=md.t0;have:=md.t1;omega) (by have:=md.t0;have:=md.t1;omega)))<|m1 8191 12 (.int .i64 (min n (1099511627776 - M.t))) (.int .i64 (if (1099511627776 - M.t)<n then (1099511627776 - M.t) else n)) (congrArg (Value.int .i64) (by have:=md.t0;have:=md.t1;omega)) ?_
              refine m1 16383 13 (.int .i64 (M.t +min n (1099511627776 - M.t))) (.int .i64 (IntKind.i64.wrap (M.t +min n (1099511627776 - M.t)))) (congrArg (Value.int .i64) (k7 (by have:=md.t0;have:=md.t1;omega) (by have:=md.t0;have:=md.t1;omega)))<|mP 65535 [14,15] [pV rb,.pointer (some ⟨rb,2,none⟩)] ?_
              have hmo:=q.blk hm
              refine iO 131071 131071 16 (Does.store (b:=rb) (off:=2) (vs:=[.int .i64 (M.t +min n (1099511627776 - M.t))]) (l:=[.slice oa T.length oc,.slice ea M.E.length ec,.int .i64 M.t]) (by kernel_rfl) hmo (of_decide_eq_true (by kernel_rfl)) (List.all_eq_true.1 (by kernel_rfl))) ?_
              rintro _ S ⟨rfl,hh⟩
              have gt:=bC hh
              have hmn:S[rb]? =some (.cells ([.slice oa T.length oc,.slice ea M.E.length ec,.int .i64 (M.t +min n (1099511627776 - M.t))]).toArray 86):=bR (off:=2) (vs:=[.int .i64 (M.t +min n (1099511627776 - M.t))]) (l:=[.slice oa T.length oc,.slice ea M.E.length ec,.int .i64 M.t]) hh (by kernel_rfl) hmo
              have ht0:=md.t0;have ht1:=md.t1
              have U:RG rb _ S:=RG.one (Ext.refl _) gt
              have hmod:bB W S rb ⟨M.f,M.E,(M.t +min n (1099511627776 - M.t))⟩:=⟨_,_,_,_,_,_,(md.ext q).tick U hmn (by omega) (by omega)⟩
              have K:RG rb h S:=(RG.aK q).then U
              replace z:S[I.size]? =_:=(U.2 _ (ak z) (by omega)).trans z
              refine mE [] fun a d=>bK<|tK<|qS d<|bA 1 (b6 0) z fun Ou pZ C=> ?_
              replace hmod:=hmod.aO pZ z (by decide) (by omega)
              replace z:=C
              refine sT [] fun a d=>cR<|rB z d ?_
              replace K:=K.bX pZ (fun x e=> .inr (by cases e;omega))
              rw[eJ oQ,show max 0 n=n by omega];exact⟨iK _ 0,hmod,K⟩
             ·refine cN<|bK<|tK<|qS d<|bA 1 (b6 0) z fun Ia vT C=> ?_
              replace z:=C
              refine sT [] fun a d=>cR<|rB z d ?_
              replace q:=(q.ext J).grew vT (r.l 0)
              rw[eJ oQ,show M.t +min (max 0 n) (1099511627776 - M.t)=M.t by have:=md.t1;omega];exact⟨iK _ 0,⟨_,_,_,_,_,_,md.ext q⟩,RG.aK q⟩
            ·refine cS<|qP [(127,.bool (decide (kd=(11:Int))))] d fun a d=>cJ 127 d (fun BW=> ?_) fun BW=> ?_
             ·refine cN<|tK<|cJ 127 d (fun BX=> ?_) fun BX=>absurd BW BX
              refine cN<|bK<|tK<|qS d<|bA 1 (b6 0) z fun Dy KE C=> ?_
              replace z:=C
              refine sT [] fun a d=>cR<|rB z d ?_
              replace q:=(q.ext J).grew KE (r.l 0)
              rw[b1 (by omega)];exact⟨iK _ 0,⟨_,_,_,_,_,_,md.ext q⟩,RG.aK q⟩
             ·refine qP [(127,.bool (decide (kd=(12:Int))))] d fun a d=>cJ 127 d (fun BY=> ?_) fun BY=> ?_
              ·refine cN<|tK<|cJ 127 d (fun hx150=> ?_) fun hx150=>absurd BY hx150
               refine cN<|bK<|tK<|qS d<|bA 1 (b6 0) z fun Ov KF C=> ?_
               replace z:=C
               refine sT [] fun a d=>cR<|rB z d ?_
               replace q:=(q.ext J).grew KF (r.l 0)
               rw[b1 (by omega)];exact⟨iK _ 0,⟨_,_,_,_,_,_,md.ext q⟩,RG.aK q⟩
              ·refine qP [(127,.bool (decide (kd=(13:Int))))] d fun a d=>cJ 127 d (fun hc153=> ?_) fun hc153=> ?_
               ·refine cN<|tK<|cJ 127 d (fun BZ=> ?_) fun BZ=>absurd hc153 BZ
                refine cN<|bK<|tK<|qS d<|bA 1 (b6 0) z fun Ow KG C=> ?_
                replace z:=C
                refine sT [] fun a d=>cR<|rB z d ?_
                replace q:=(q.ext J).grew KG (r.l 0)
                rw[b1 (by omega)];exact⟨iK _ 0,⟨_,_,_,_,_,_,md.ext q⟩,RG.aK q⟩
               ·refine rP [(127,.bool (decide (kd=(14:Int))))] d fun a d=>tK<|cJ 127 d (fun hc157=> ?_) fun hc157=> ?_
                ·refine cN<|bK<|tK<|qS d<|bA 1 (b6 0) z fun Ox KH C=> ?_
                 replace z:=C
                 refine sT [] fun a d=>cR<|rB z d ?_
                 replace q:=(q.ext J).grew KH (r.l 0)
                 rw[b1 (by omega)];exact⟨iK _ 0,⟨_,_,_,_,_,_,md.ext q⟩,RG.aK q⟩
                ·refine qS d<|bA 1 (b6 1) z fun Oy KI C=> ?_
                 replace z:=C
                 refine sT [] fun a d=>cR (yB (yT ?_))
                 refine rB z d ?_
                 replace q:=(q.ext J).grew KI (r.l 0)
                 rw[kN (by omega) (by omega) (by omega) (by omega) (by omega) (by omega) (by omega) (by omega)];exact⟨iK _ 1,⟨_,_,_,_,_,_,md.ext q⟩,RG.aK q⟩
end Go.Proofs.YtegkejcglfgpmaaGreatDoor
end
section
namespace Go.aN
open Go Go.aj
/-! ### the document's models: the same; a clone -/
section
variable {W W2:Nat→Prop} {h h':Heap} {rb nb c i:Nat} {M N:Md} {T T2:List RO} {oa oa2 ra:Option Addr} {oc oc2 rc:Nat} {ea Dh na:Option Addr} {ec AJ nc:Nat} {es es2:List Value} {x y:RO}
def Oz(T:List RO)(i:Nat):Option ByteArray:=T[i]?.map fun x=>x.o.b.id
theorem bD.cloned(m:bD W h rb M T oa oc ea ec es)(e:Ext h h')(hc:h'[c]? =some (.cells #[.slice ra T.length rc, .slice na M.E.length nc, .int .i64 M.t] 86))(o1:Own h' (.slice ra T.length rc) 97 T.length 40 (bz T))(o2:Own h' (.slice na M.E.length nc) 32 M.E.length 1 es)(hn:∀k,na.map (fun(x:Addr)=>x.block)=some k→h.size ≤k)(hW:∀k,W k→k<h.size)(kc:h.size ≤c):bB W h' c M:=
  have k1:=m.kb
  have k2:=ak m.hm
  ⟨T,ra,rc,na,nc,es,hc,jE.of o1,m.fQ,(m.ext e).ob,m.al,cr.new o2 (by decide) hW hn,m.en.ext e,m.ln,m.t0,m.t1,by omega,m.ix⟩
end
end Go.aN
end
section
namespace Go.Proofs.YtegkejcglfgpmaaGreatDoor
open Go Go.aj Go.aN
noncomputable def b24:Code:=Tryz.f24.body.getD .skip
set_option maxHeartbeats 1000000 in
theorem yj {W:Nat→Prop}(h:Heap)(rb:Nat)(M:Md)(T:List RO)(oa:Option Addr)(oc:Nat)(ea:Option Addr)(ec:Nat)(es:List Value)(md:bD W h rb M T oa oc ea ec es)(hW:∀k,W k→k<h.size)(hE:M.E.length ≤1099511627):Sat Tryz.prog 24 #[.pointer (some ⟨rb,0,none⟩)] h fun v h'=>∃c,v= .pointer (some ⟨c,0,none⟩)∧bB W h' c M∧h.size ≤c∧Ext h h':=by
 have hm:=md.hm
 have hLn:=md.ln
 have g:=Ext.refl h
 have d:Sep h.size h.size []:=Sep.nil _ _
 refine ag Tryz.func24 21 fun a J=>qP [] J fun a J=>cS<|C.mono (K:=fun e a hJ=>∃(bk1:Nat),∃(V:Option Addr) (L:Nat),∃(A:Option Addr) (r:Nat),e= .normal ∧(Ext h hJ)∧(Own hJ (.slice V T.length L) 97 T.length 40 (bz T))∧(Own hJ (.slice A M.E.length r) 32 M.E.length 1 es)∧(hJ[bk1]? =some (.cells #[.slice V T.length L,.slice A M.E.length r,.int .i64 M.t] 86))∧(Sep h.size hJ.size [some bk1,V.map (·.block),A.map (·.block)])∧Fr a 21 [(2,.pointer (some ⟨bk1,0,none⟩))]) ?_ ?_
 ·refine cD [0,0,2,6,14,31,0,0,128,384,896,2047,0,4096,12288,28672,65535,131071,262143] 1 mixed J<|mP 14 [1,2,3] [pV rb,pV rb,pV rb]<|mO 30 16 4 0 (.slice oa T.length oc) (g.blk hm)<|mP 926 [7,8,9] [pV rb,pV rb,.pointer (some ⟨rb,1,none⟩)]<|mO 1950 1040 10 1 (.slice ea M.E.length ec) (g.blk hm)<|mP 30622 [12,13,14] [pV rb,pV rb,.pointer (some ⟨rb,2,none⟩)]<|mO 63390 33808 15 2 (.int .i64 M.t) (g.blk hm) ?_
  refine aH.oK (is:=[0,6]) (by kernel_rfl) (by simp) ?_
  intro q hq
  simp only[List.mem_cons,List.not_mem_nil,or_false] at hq
  rcases hq with rfl|rfl
  ·refine qg 63391 1 0 [4,10,15] (Does.new (v:= .slice (some ⟨h.size,0,none⟩) 0 0) (o:= .cells #[] 97) (by kernel_rfl)) ?_
   rintro _ U ⟨rfl,hh⟩
   have g4:Ext h U:=aY hh
   have m5:U[h.size]? =some (.cells #[] 97):=bj hh
   clear hh
   replace d:=d.nw g.size m5
   replace g:=g.ext g4
   refine⟨?_,?_⟩
   ·intro j hj
    simp only[List.mem_cons,List.not_mem_nil,or_false] at hj
    rcases hj with rfl|rfl|rfl
    ·exact aG (Calm.load (T:=84) (p:=⟨rb,0,none⟩) (by kernel_rfl) (Loads.one (k:=1) (by kernel_rfl) ((an (g.blk hm)).trans rfl)))
    ·exact aG (Calm.load (T:=67) (p:=⟨rb,1,none⟩) (by kernel_rfl) (Loads.one (k:=1) (by kernel_rfl) ((an (g.blk hm)).trans rfl)))
    ·exact aG (Calm.load (T:=3) (p:=⟨rb,2,none⟩) (by kernel_rfl) (Loads.one (k:=1) (by kernel_rfl) ((an (g.blk hm)).trans rfl)))
   have f:Own U (.slice (some ⟨h.size,0,none⟩) 0 0) 97 ([]:List RO).length 40 (bz []):=Own.empty 40 m5
   replace d:Sep h.size U.size [(some ⟨h.size,0,none⟩:Option Addr).map (·.block)]:=d
   clear m5
   refine aH.oK (is:=[5,6]) (by kernel_rfl) (by simp) ?_
   intro q hq
   simp only[List.mem_cons,List.not_mem_nil,or_false] at hq
   rcases hq with rfl|rfl
   ·refine qg 63423 63 5 [10,15] (Does.eC (t:=84) (E:=97) (sz:=40) (dV:=128) (n:=0) (m:=T.length) (c:=0) (N:=T.length) (a:=(some ⟨h.size,0,none⟩)) (x:= .slice oa T.length oc) (xs:=(bz ([]))) (ys:=(bz T)) (Z:=(bz T)) (by kernel_rfl) (by kernel_rfl) f (md.row.1.ext g) (dR _) (by unfold maxLen;omega) (by omega) (by first|rfl| (simp;done)| (simp;omega)) (by first|rfl|exact List.flatMap_append.symm |simp[bz])) ?_
    rintro _ I ⟨O,P,rfl,f,g8,L8⟩
    have s11:=d
    replace d:=d.sa g8 0 L8 f g.size;clear L8
    replace g:=g.grew g8 (s11.l 0)
    refine⟨?_,?_⟩
    ·intro j hj
     simp only[List.mem_cons,List.not_mem_nil,or_false] at hj
     rcases hj with rfl|rfl
     ·exact aG (Calm.load (T:=67) (p:=⟨rb,1,none⟩) (by kernel_rfl) (Loads.one (k:=1) (by kernel_rfl) ((an (g.blk hm)).trans rfl)))
     ·exact aG (Calm.load (T:=3) (p:=⟨rb,2,none⟩) (by kernel_rfl) (Loads.one (k:=1) (by kernel_rfl) ((an (g.blk hm)).trans rfl)))
    refine fT 63487 127 6 [10,15] (Does.new (v:= .slice (some ⟨I.size,0,none⟩) 0 0) (o:= .cells #[] 32) (by kernel_rfl)) ?_
    rintro _ X ⟨rfl,hh⟩
    have g13:Ext I X:=aY hh
    have m14:X[I.size]? =some (.cells #[] 32):=bj hh
    clear hh
    replace d:=d.nw g.size m14
    replace g:=g.ext g13
    refine⟨?_,?_⟩
    ·intro j hj
     simp only[List.mem_cons,List.not_mem_nil,or_false] at hj
     rcases hj with rfl|rfl
     ·exact aG (Calm.load (T:=67) (p:=⟨rb,1,none⟩) (by kernel_rfl) (Loads.one (k:=1) (by kernel_rfl) ((an (g.blk hm)).trans rfl)))
     ·exact aG (Calm.load (T:=3) (p:=⟨rb,2,none⟩) (by kernel_rfl) (Loads.one (k:=1) (by kernel_rfl) ((an (g.blk hm)).trans rfl)))
    have b:Own X (.slice (some ⟨I.size,0,none⟩) 0 0) 32 ([]:List Value).length 1 ([]:List Value):=Own.empty 1 m14
    replace d:Sep h.size X.size [(some ⟨I.size,0,none⟩:Option Addr).map (·.block),O.map (·.block)]:=d
    replace f:=f.ext g13
    clear m14
    refine fT 65535 4095 11 [15] (Does.eC (t:=67) (E:=32) (sz:=1) (dV:=24) (n:=0) (m:=M.E.length) (c:=0) (N:=M.E.length) (a:=(some ⟨I.size,0,none⟩)) (x:= .slice ea M.E.length ec) (xs:=[]) (ys:=es) (Z:=es) (by kernel_rfl) (by kernel_rfl) b (md.er.1.1.ext g) (fp md.en) (by unfold maxLen;omega) (by omega) (by first|rfl| (simp;done)| (simp;omega)) (by first|rfl|exact List.flatMap_append.symm | (simp;done)| (simp;rfl))) ?_
    rintro _ Q ⟨B,s,rfl,b,g17,GV⟩
    have s20:=d
    replace d:=d.sa g17 0 GV b g.size;clear GV
    replace g:=g.grew g17 (s20.l 0)
    refine⟨?_,?_⟩
    ·intro j hj
     simp only[List.mem_cons,List.not_mem_nil,or_false] at hj
     subst hj
     exact aG (Calm.load (T:=3) (p:=⟨rb,2,none⟩) (by kernel_rfl) (Loads.one (k:=1) (by kernel_rfl) ((an (g.blk hm)).trans rfl)))
    refine mP 131071 [16] [.agg #[.slice O T.length P,.slice B M.E.length s,.int .i64 M.t]]<|mN 262143 262143 17 (pV Q.size) #[.slice O T.length P,.slice B M.E.length s,.int .i64 M.t] 86 fun h21 g22 m23=> ?_
    replace d:=d.nw g.size m23
    refine mP 524287 [18] [pV Q.size]<|mE [(2,pV Q.size)] fun a J=> ?_
    have iM:=d.pick (l':=[some Q.size,O.map (·.block),B.map (·.block)]) [0,2,1] rfl (by decide)
    replace f:=(f.k g17 (s20.ap 1 0)).ext g22
    replace g:=g.ext g22
    replace b:=b.ext g22
    exact⟨Q.size,O,P,B,s,rfl,g,f,b,m23,iM,J.to⟩
   ·refine qg 63455 65 6 [4,10,15] (Does.new (v:= .slice (some ⟨U.size,0,none⟩) 0 0) (o:= .cells #[] 32) (by kernel_rfl)) ?_
    rintro _ Y ⟨rfl,hh⟩
    have mX:Ext U Y:=aY hh
    have CZ:Y[U.size]? =some (.cells #[] 32):=bj hh
    clear hh
    replace d:=d.nw g.size CZ
    replace g:=g.ext mX
    refine⟨?_,?_⟩
    ·intro j hj
     simp only[List.mem_cons,List.not_mem_nil,or_false] at hj
     rcases hj with rfl|rfl|rfl
     ·exact aG (Calm.load (T:=84) (p:=⟨rb,0,none⟩) (by kernel_rfl) (Loads.one (k:=1) (by kernel_rfl) ((an (g.blk hm)).trans rfl)))
     ·exact aG (Calm.load (T:=67) (p:=⟨rb,1,none⟩) (by kernel_rfl) (Loads.one (k:=1) (by kernel_rfl) ((an (g.blk hm)).trans rfl)))
     ·exact aG (Calm.load (T:=3) (p:=⟨rb,2,none⟩) (by kernel_rfl) (Loads.one (k:=1) (by kernel_rfl) ((an (g.blk hm)).trans rfl)))
    have b:Own Y (.slice (some ⟨U.size,0,none⟩) 0 0) 32 ([]:List Value).length 1 ([]:List Value):=Own.empty 1 CZ
    replace d:Sep h.size Y.size [(some ⟨U.size,0,none⟩:Option Addr).map (·.block),(some ⟨h.size,0,none⟩:Option Addr).map (·.block)]:=d
    replace f:=f.ext mX
    clear CZ
    refine fT 63487 127 5 [10,15] (Does.eC (t:=84) (E:=97) (sz:=40) (dV:=128) (n:=0) (m:=T.length) (c:=0) (N:=T.length) (a:=(some ⟨h.size,0,none⟩)) (x:= .slice oa T.length oc) (xs:=(bz ([]))) (ys:=(bz T)) (Z:=(bz T)) (by kernel_rfl) (by kernel_rfl) f (md.row.1.ext g) (dR _) (by unfold maxLen;omega) (by omega) (by first|rfl| (simp;done)| (simp;omega)) (by first|rfl|exact List.flatMap_append.symm |simp[bz])) ?_
    rintro _ h31 ⟨D,u,rfl,f,qi,GW⟩
    have E4:=d
    replace d:=d.sa qi 1 GW f g.size;clear GW
    replace g:=g.grew qi (E4.l 1)
    refine⟨?_,?_⟩
    ·intro j hj
     simp only[List.mem_cons,List.not_mem_nil,or_false] at hj
     rcases hj with rfl|rfl
     ·exact aG (Calm.load (T:=67) (p:=⟨rb,1,none⟩) (by kernel_rfl) (Loads.one (k:=1) (by kernel_rfl) ((an (g.blk hm)).trans rfl)))
     ·exact aG (Calm.load (T:=3) (p:=⟨rb,2,none⟩) (by kernel_rfl) (Loads.one (k:=1) (by kernel_rfl) ((an (g.blk hm)).trans rfl)))
    replace b:=b.k qi (E4.ap 0 1)
    refine fT 65535 4095 11 [15] (Does.eC (t:=67) (E:=32) (sz:=1) (dV:=24) (n:=0) (m:=M.E.length) (c:=0) (N:=M.E.length) (a:=(some ⟨U.size,0,none⟩)) (x:= .slice ea M.E.length ec) (xs:=[]) (ys:=es) (Z:=es) (by kernel_rfl) (by kernel_rfl) b (md.er.1.1.ext g) (fp md.en) (by unfold maxLen;omega) (by omega) (by first|rfl| (simp;done)| (simp;omega)) (by first|rfl|exact List.flatMap_append.symm | (simp;done)| (simp;rfl))) ?_
    rintro _ R ⟨F,w,rfl,b,A5,yk⟩
    have GX:=d
    replace d:=d.sa A5 0 yk b g.size;clear yk
    replace g:=g.grew A5 (GX.l 0)
    refine⟨?_,?_⟩
    ·intro j hj
     simp only[List.mem_cons,List.not_mem_nil,or_false] at hj
     subst hj
     exact aG (Calm.load (T:=3) (p:=⟨rb,2,none⟩) (by kernel_rfl) (Loads.one (k:=1) (by kernel_rfl) ((an (g.blk hm)).trans rfl)))
    refine mP 131071 [16] [.agg #[.slice D T.length u,.slice F M.E.length w,.int .i64 M.t]]<|mN 262143 262143 17 (pV R.size) #[.slice D T.length u,.slice F M.E.length w,.int .i64 M.t] 86 fun uN xf Eg=> ?_
    replace d:=d.nw g.size Eg
    refine mP 524287 [18] [pV R.size]<|mE [(2,pV R.size)] fun a J=> ?_
    have iM:=d.pick (l':=[some R.size,D.map (·.block),F.map (·.block)]) [0,2,1] rfl (by decide)
    replace f:=(f.k A5 (GX.ap 1 0)).ext xf
    replace g:=g.ext xf
    replace b:=b.ext xf
    exact⟨R.size,D,u,F,w,rfl,g,f,b,Eg,iM,J.to⟩
  ·refine qg 63454 64 6 [4,10,15] (Does.new (v:= .slice (some ⟨h.size,0,none⟩) 0 0) (o:= .cells #[] 32) (by kernel_rfl)) ?_
   rintro _ i ⟨rfl,hh⟩
   have vo:Ext h i:=aY hh
   have C0:i[h.size]? =some (.cells #[] 32):=bj hh
   clear hh
   replace d:=d.nw g.size C0
   replace g:=g.ext vo
   refine⟨?_,?_⟩
   ·intro j hj
    simp only[List.mem_cons,List.not_mem_nil,or_false] at hj
    rcases hj with rfl|rfl|rfl
    ·exact aG (Calm.load (T:=84) (p:=⟨rb,0,none⟩) (by kernel_rfl) (Loads.one (k:=1) (by kernel_rfl) ((an (g.blk hm)).trans rfl)))
    ·exact aG (Calm.load (T:=67) (p:=⟨rb,1,none⟩) (by kernel_rfl) (Loads.one (k:=1) (by kernel_rfl) ((an (g.blk hm)).trans rfl)))
    ·exact aG (Calm.load (T:=3) (p:=⟨rb,2,none⟩) (by kernel_rfl) (Loads.one (k:=1) (by kernel_rfl) ((an (g.blk hm)).trans rfl)))
   have b:Own i (.slice (some ⟨h.size,0,none⟩) 0 0) 32 ([]:List Value).length 1 ([]:List Value):=Own.empty 1 C0
   replace d:Sep h.size i.size [(some ⟨h.size,0,none⟩:Option Addr).map (·.block)]:=d
   clear C0
   refine fT 63455 65 0 [4,10,15] (Does.new (v:= .slice (some ⟨i.size,0,none⟩) 0 0) (o:= .cells #[] 97) (by kernel_rfl)) ?_
   rintro _ h45 ⟨rfl,hh⟩
   have B0:Ext i h45:=aY hh
   have KJ:h45[i.size]? =some (.cells #[] 97):=bj hh
   clear hh
   replace d:=d.nw g.size KJ
   replace g:=g.ext B0
   refine⟨?_,?_⟩
   ·intro j hj
    simp only[List.mem_cons,List.not_mem_nil,or_false] at hj
    rcases hj with rfl|rfl|rfl
    ·exact aG (Calm.load (T:=84) (p:=⟨rb,0,none⟩) (by kernel_rfl) (Loads.one (k:=1) (by kernel_rfl) ((an (g.blk hm)).trans rfl)))
    ·exact aG (Calm.load (T:=67) (p:=⟨rb,1,none⟩) (by kernel_rfl) (Loads.one (k:=1) (by kernel_rfl) ((an (g.blk hm)).trans rfl)))
    ·exact aG (Calm.load (T:=3) (p:=⟨rb,2,none⟩) (by kernel_rfl) (Loads.one (k:=1) (by kernel_rfl) ((an (g.blk hm)).trans rfl)))
   have f:Own h45 (.slice (some ⟨i.size,0,none⟩) 0 0) 97 ([]:List RO).length 40 (bz []):=Own.empty 40 KJ
   replace d:Sep h.size h45.size [(some ⟨i.size,0,none⟩:Option Addr).map (·.block),(some ⟨h.size,0,none⟩:Option Addr).map (·.block)]:=d
   replace b:=b.ext B0
   clear KJ
   refine fT 63487 127 5 [10,15] (Does.eC (t:=84) (E:=97) (sz:=40) (dV:=128) (n:=0) (m:=T.length) (c:=0) (N:=T.length) (a:=(some ⟨i.size,0,none⟩)) (x:= .slice oa T.length oc) (xs:=(bz ([]))) (ys:=(bz T)) (Z:=(bz T)) (by kernel_rfl) (by kernel_rfl) f (md.row.1.ext g) (dR _) (by unfold maxLen;omega) (by omega) (by first|rfl| (simp;done)| (simp;omega)) (by first|rfl|exact List.flatMap_append.symm |simp[bz])) ?_
   rintro _ HX ⟨G,y,rfl,f,GD,GY⟩
   have s53:=d
   replace d:=d.sa GD 0 GY f g.size;clear GY
   replace g:=g.grew GD (s53.l 0)
   refine⟨?_,?_⟩
   ·intro j hj
    simp only[List.mem_cons,List.not_mem_nil,or_false] at hj
    rcases hj with rfl|rfl
    ·exact aG (Calm.load (T:=67) (p:=⟨rb,1,none⟩) (by kernel_rfl) (Loads.one (k:=1) (by kernel_rfl) ((an (g.blk hm)).trans rfl)))
    ·exact aG (Calm.load (T:=3) (p:=⟨rb,2,none⟩) (by kernel_rfl) (Loads.one (k:=1) (by kernel_rfl) ((an (g.blk hm)).trans rfl)))
   replace b:=b.k GD (s53.ap 1 0)
   refine fT 65535 4095 11 [15] (Does.eC (t:=67) (E:=32) (sz:=1) (dV:=24) (n:=0) (m:=M.E.length) (c:=0) (N:=M.E.length) (a:=(some ⟨h.size,0,none⟩)) (x:= .slice ea M.E.length ec) (xs:=[]) (ys:=es) (Z:=es) (by kernel_rfl) (by kernel_rfl) b (md.er.1.1.ext g) (fp md.en) (by unfold maxLen;omega) (by omega) (by first|rfl| (simp;done)| (simp;omega)) (by first|rfl|exact List.flatMap_append.symm | (simp;done)| (simp;rfl))) ?_
   rintro _ S ⟨H,z,rfl,b,sO,GZ⟩
   have E8:=d
   replace d:=d.sa sO 1 GZ b g.size;clear GZ
   replace g:=g.grew sO (E8.l 1)
   refine⟨?_,?_⟩
   ·intro j hj
    simp only[List.mem_cons,List.not_mem_nil,or_false] at hj
    subst hj
    exact aG (Calm.load (T:=3) (p:=⟨rb,2,none⟩) (by kernel_rfl) (Loads.one (k:=1) (by kernel_rfl) ((an (g.blk hm)).trans rfl)))
   refine mP 131071 [16] [.agg #[.slice G T.length y,.slice H M.E.length z,.int .i64 M.t]]<|mN 262143 262143 17 (pV S.size) #[.slice G T.length y,.slice H M.E.length z,.int .i64 M.t] 86 fun h60 zd Ea=> ?_
   replace d:=d.nw g.size Ea
   refine mP 524287 [18] [pV S.size]<|mE [(2,pV S.size)] fun a J=> ?_
   have iM:=d.pick (l':=[some S.size,G.map (·.block),H.map (·.block)]) [0,1,2] rfl (by decide)
   replace f:=(f.k sO (E8.ap 0 1)).ext zd
   replace g:=g.ext zd
   replace b:=b.ext zd
   exact⟨S.size,G,y,H,z,rfl,g,f,b,Ea,iM,J.to⟩
 ·clear J a g d
  rintro e a h63 ⟨bk1,V,L,A,r,rfl,g,f,b,mk2,d,J⟩
  refine tK<|cR<|rT 2 (pV bk1) J ?_
  have hcg:=(d.l 0) _ rfl
  exact⟨_,rfl,md.cloned g mk2 f b (d.l 2) hW hcg,hcg,g⟩
noncomputable def b26:Code:=Tryz.f26.body.getD .skip
end Go.Proofs.YtegkejcglfgpmaaGreatDoor
end
section
namespace Go.aN
open Go Go.aj
theorem bB.other{W W2:Nat→Prop}{h h':Heap}{rb nb:Nat}{M N:Md}(m:bB W h rb M)(g:RG nb h h')(k:bB W2 h nb N)(hne:rb≠nb):bB W h' rb M:=by
  obtain⟨_,_,_,_,_,_,k⟩:=k
  exact m.fr g (fun i e=>e▸⟨.inl (aZ.cells k.hm (by decide)),oo.cells k.hm (by decide)⟩) hne
end Go.aN
namespace Go.Proofs.YtegkejcglfgpmaaGreatDoor
open Go Go.aj Go.aN
theorem oB(h:Heap)(rb:Nat)(M:Md)(m:bB (fun _=>False) h rb M)(kd n:Int)(s:ByteArray)(l:List UInt8)(oa:Option Addr)(oc:Nat)(ka:Option Addr)(kn kc:Nat)(hr:Row h (.slice oa l.length oc) l.length 1 (l.map bv))(hsz:s.size ≤9223372036854775807)(hE:M.E.length ≤1099511627)(N:Md)(X:An)(hs:step M kd n s l=(N,X)):
    Sat Tryz.prog 18 #[.pointer (some ⟨rb,0,none⟩), .agg #[.int .i64 kd, .string s, .slice oa l.length oc, .int .i64 n, .slice ka kn kc]] h fun v h'=>∃qa qc ia ic pa pc,v=px X (.slice qa X.b.length qc) (.slice ia X.i.length ic) (.slice pa X.p.length pc)∧
      aC h' (.slice qa X.b.length qc) X.b.length 1 (X.b.map bv)∧aC h' (.slice ia X.i.length ic) X.i.length 1 (X.i.map Value.string)∧aC h' (.slice pa X.p.length pc) X.p.length 32 (hcs X.p)∧aq X.p ∧bB (fun _=>False) h' rb N∧RG rb h h':=by
  obtain⟨T,ra,rc,ea,ec,es,md⟩:=m
  refine(A2 h rb M T ra rc ea ec es md (fun _ e=>e.elim) kd n s l oa oc ka kn kc hr hsz hE).mono fun v h' ⟨a,m',g⟩=> ?_
  rw[hs] at a m'
  obtain⟨qa,qc,ia,ic,pa,pc,e,r1,r2,r3,r4⟩:=a
  exact⟨qa,qc,ia,ic,pa,pc,e,r1,r2,r3,r4,m',g⟩
theorem p4(h:Heap)(rb:Nat)(M:Md)(m:bB (fun _=>False) h rb M)(hE:M.E.length ≤1099511627):Sat Tryz.prog 24 #[.pointer (some ⟨rb,0,none⟩)] h fun v h'=>∃c,v= .pointer (some ⟨c,0,none⟩)∧bB (fun _=>False) h' c M∧h.size ≤c∧Ext h h':=by
  obtain⟨T,ra,rc,ea,ec,es,md⟩:=m
  exact yj h rb M T ra rc ea ec es md (fun _ e=>e.elim) hE
end Go.Proofs.YtegkejcglfgpmaaGreatDoor
end
section
namespace Go.aN
open Go Go.aj
/-! ### an answer's own rows, written over -/
/-! ### beside both models: what is written past a mark -/
section
variable {lo:Nat} {h h':Heap} {b p rb c:Nat} {M:Md} {o:Option Nat} {v:Value} {n sz E:Nat} {xs:List Value}
theorem _root_.Go.aj.Own.rg{W:Nat→Prop}(own:Own h v E n sz xs)(g:RG rb h h')(m:bB W h rb M)(hE:E≠86):Own h' v E n sz xs:=by
  obtain⟨_,_,_,_,_,_,m⟩:=m
  rcases own.2 with⟨rfl,h0⟩|⟨q,off,cap,l,rfl,q2,r⟩
  · exact⟨own.1, .inl ⟨rfl,h0⟩⟩
  · refine ⟨own.1, .inr ⟨q, off, cap, l, rfl, ?_, r⟩⟩
    rw[g.2 q (ak q2) (fun e=>by have:=m.hm;rw[←e,q2] at this;cases this;exact hE rfl)];exact q2
def F3(mb mp rb i:Nat):Prop:=i=mb∨i=mp∨i=rb
def WR(lo c e k:Nat):Prop:=(lo≤k∧k<c)∨e≤k
def WP(lo c e:Nat)(qa ia pa:Option Addr)(k:Nat):Prop:=(lo≤k∧k<c)∨AF qa ia pa k∨e≤k
variable {mb mp:Nat} {h0:Heap} {qa ia pa:Option Addr} {F:Nat→Prop}
end
/-! ### luck -/
structure Lk where
  dark:Int
  full:Int
  work:Int
@[reducible] def KK(x:Lk):List Value:=[.int .i64 x.dark, .int .i64 x.full, .int .i64 x.work]
def lS:Lk:=⟨3,1,0⟩
@[reducible] def tn(L:List Lk):List Value:=L.flatMap KK
theorem tp(x:Lk):(KK x).length =3:=rfl
def cq(c:Int)(n:Nat):Nat:=(if c<0 then -(c+1) else c).toNat %n
/-! ### models whose hashes are 32 bytes and nothing more: the same just if they are equal -/
def Canon(M:Md):Prop:=∀s o,M.f s=some o→o.b.id =s∧∀i,32≤i→o.b.root i=0
theorem A6{x y:RB}(h:hl x=hl y):∀i,i<32→x.root i=y.root i:=by
  have hg:∀(x:RB) (i:Nat),i<32→(hl x).getD i 0=x.root i:=fun x i hi=>by
    rcases i with _|_|_|_|_|_|_|_|_|_|_|_|_|_|_|_|_|_|_|_|_|_|_|_|_|_|_|_|_|_|_|_|i<;>first|rfl|omega
  intro i hi;rw[←hg x i hi, ←hg y i hi,h]
theorem A7{o p:Ob}{s:ByteArray}(e:uP o p)(h1:o.b.id =s∧∀i,32≤i→o.b.root i=0)(h2:p.b.id =s∧∀i,32≤i→p.b.root i=0):o=p:=by
  obtain⟨⟨i1,l1,r1,x1⟩,e1,a1,g1,d1⟩:=o
  obtain⟨⟨i2,l2,r2,x2⟩,e2,a2,g2,d2⟩:=p
  obtain⟨hs,hd⟩:=e
  unfold fG at hs
  simp only[List.all_cons,List.all_nil,id,Bool.and_true,Bool.and_eq_true,beq_iff_eq,decide_eq_true_eq] at hs hd h1 h2
  obtain⟨hl1,hr,hx,he,ha,hg⟩:=hs
  have hroot:r1=r2:=funext fun i=>by
    by_cases hi:i<32
    · exact A6 hr i hi
    · rw[h1.2 i (by omega),h2.2 i (by omega)]
  subst hroot;subst hl1;subst hx;subst he;subst ha;subst hg;subst hd
  rw[h1.1,h2.1]
theorem yl {M N : Md} (q : iB M N) (hM : Canon M) (hN : Canon N) (ht : M.t = N.t) : M = N := by
  obtain⟨f,E,t⟩:=M
  obtain⟨g,E',t'⟩:=N
  have hf:f=g:=funext fun s=>by
    have:=q.1 s
    cases h1:f s with
    | none => cases h2 : g s with
      |none=>rfl
      |some p=>exact absurd this (by show ¬pP (f s) (g s);rw[h1,h2];exact id)
    | some o => cases h2 : g s with
      |none=>exact absurd this (by show ¬pP (f s) (g s);rw[h1,h2];exact id)
      | some p =>
        have e:pP (f s) (g s):=this
        rw[h1,h2] at e
        rw[A7 e (hM s o h1) (hN s p h2)]
  have hE:E=E':=q.2
  have ht':t=t':=ht
  subst hf;subst hE;subst ht';rfl
theorem A8(E:List (List UInt8))(t:Int):Canon ⟨fun _=>none,E,t⟩:=fun s o h=>by cases h
theorem nx{M:Md}(h:Canon M){s:ByteArray}{o:Ob}(ho:o.b.id =s∧∀i,32≤i→o.b.root i=0)(E:List (List UInt8))(t:Int):Canon ⟨upd M.f s o,E,t⟩:=fun k p hp=>by
  by_cases e:k=s
  · subst e;have hp':upd M.f k o k=some p:=hp;rw[gv] at hp';cases hp';exact ho
  · exact h k p (by rw[←upd_ne (f:=M.f) (o:=o) e];exact hp)
theorem DJ(o:Ob)(kd n t:Int):(et o kd n t).1.b =o.b :=by
  unfold et;split
  · split<;>rfl
  split
  · split<;>rfl
  split
  · rfl
  split
  · rfl
  split<;>rfl
theorem DK(o:Ob)(kd n t:Int):(et o kd n t).2 =0∨200≤(et o kd n t).2 :=by
  unfold et;split
  · split<;>simp
  split
  · split<;>simp
  split
  · simp
  split
  · simp
  split<;>simp
theorem A9{M:Md}(h:Canon M)(t:Int):Canon ⟨M.f,M.E,t⟩:=h
theorem u_{M:Md}(h:Canon M)(kd n:Int)(s:ByteArray):Canon (ff M kd n s).1 :=by
  unfold ff;split
  · exact h
  split
  · exact h
  split
  · exact h
  · rename_i o ho
    split
    · exact nx h (by rw[DJ];exact h s o ho) _ _
    · exact h
theorem u'{M:Md}(h:Canon M)(s:ByteArray)(b:List UInt8):Canon (db M s b).1 :=by
  unfold db;split
  · exact h
  split
  · exact h
  split
  · exact h
  · refine nx h (s := s) (o := ph s b M.E.length) ⟨rfl, fun i hi => ?_⟩ _ _
    show(bE b).getD i 0=0
    rw[List.getD_eq_getElem?_getD,List.getElem?_eq_none (by rw[dQ];exact hi)];rfl
theorem G0(M:Md)(kd n:Int)(s:ByteArray):(ff M kd n s).1.t =M.t :=by
  unfold ff;split
  · rfl
  split
  · rfl
  split
  · rfl
  split<;>rfl
theorem G1(M:Md)(s:ByteArray)(b:List UInt8):(db M s b).1.t =M.t :=by
  unfold db;split
  · rfl
  split
  · rfl
  split<;>rfl
theorem c23(c:Int)(h:c≠2∧c≠3:=by decide):c≠2∧c≠3:=h
theorem G2(M:Md)(kd n:Int)(s:ByteArray):(ff M kd n s).2 ≠2∧(ff M kd n s).2 ≠3:=by
  unfold ff;split
  · exact c23 (210)
  split
  · exact c23 (1)
  split
  · exact c23 (211)
  · rename_i o _
    have:=DK o kd n M.t
    split
    · exact c23 (0)
    · constructor<;>(intro e;dsimp only at e;omega)
theorem G3(M:Md)(s:ByteArray)(b:List UInt8):(db M s b).2 ≠2∧(db M s b).2 ≠3:=by
  unfold db;split
  · exact c23 (210)
  split
  · exact c23 (5)
  split
  · exact c23 212
  · exact c23 0
theorem dU(A:An):az A A=0:=pA rfl rfl (hU ..) rfl (h_ ..) rfl rfl
theorem p5{Ns:List Md}{M N:Md}(h:N∈Ns):N∈gH Ns M:=by unfold gH;split;exact h;exact List.mem_append_left _ h
theorem p6{Ns:List Md}{M N:Md}(h:N∈gH Ns M):N∈Ns∨N=M:=by
  unfold gH at h;split at h
  · exact .inl h
  · exact(List.mem_append.1 h).imp id List.mem_singleton.1
theorem ny{Ns:List Md}{M:Md}(hM:Canon M)(hc:∀N∈Ns,Canon N∧N.t =M.t):M∈gH Ns M:=by
  unfold gH;split
  · rename_i h
    unfold uR at h
    obtain⟨N,hN,e⟩:=List.any_eq_true.1 h
    have q:iB M N:=by
      by_cases k:iB M N
      · exact k
      · rw[fK k] at e;cases e
    rw[yl q hM (hc N hN).1 (hc N hN).2.symm];exact hN
  · exact List.mem_append_right _ (List.mem_singleton.2 rfl)
end Go.aN
namespace Go.Proofs.YtegkejcglfgpmaaGreatDoor
open Go Go.aj Go.aN
section
variable {M N:Md} {kd n:Int} {s:ByteArray} {l:List UInt8}
theorem lT(h:Canon M):Canon (step M kd n s l).1 :=by
  unfold step;split
  · exact u' h s l
  split
  · exact u_ h kd n s
  split
  · exact h
  split
  · exact h
  split
  · exact h
  split
  · exact h
  split
  · exact A9 h _
  split<;>exact h
theorem oC(hk:kd≠10):(step M kd n s l).1.t =M.t :=by
  unfold step;split
  · exact G1 M s l
  split
  · exact G0 M kd n s
  split
  · rfl
  split
  · rfl
  split
  · rfl
  split
  · rfl
  split<;>rfl
theorem A_(h:M.t =N.t):(step M kd n s l).1.t =(step N kd n s l).1.t :=by
  by_cases hk:kd=10
  · rw[eJ hk,eJ hk];show M.t +_=N.t +_;rw[h]
  · rw[oC hk,oC hk,h]
theorem Ba(L:List Hs)(m:Int):(cA L m).2 ≠2∧(cA L m).2 ≠3:=by unfold cA;split;exact c23 0;exact c23 _
theorem DL(M:Md)(kd:Int)(s:ByteArray):(c7 M kd s).c ≠2∧(c7 M kd s).c ≠3:=by
  unfold c7;split
  · exact c23 210
  cases M.f s with
  |none=>exact c23 211
  | some o =>
    dsimp only
    split
    · exact c23 0
    split
    · exact Ba ..
    split
    · exact c23 213
    split<;>exact c23 0
theorem DM:(step M kd n s l).2.c ≠2∧(step M kd n s l).2.c ≠3:=by
  unfold step;split
  · exact G3 M s l
  split
  · exact G2 M kd n s
  split
  · exact DL M kd s
  split
  · exact c23 0
  split
  · exact c23 0
  split
  · exact c23 0
  split
  · exact c23 0
  split
  · exact c23 0
  · exact c23 1
end
/-! ### a round of what is played -/
structure j9 where
  M:Md
  off:Bool
  aD:Bool
def lZ(kd:Int)(W:An)(x:Lk):An:=if kd=11 then {W with k:=((cq x.work 7:Nat):Int)} else if kd=15∧W.c =0 then {W with k:=((cq x.work 5:Nat):Int)} else W
def b5(kd n:Int)(off aD:Bool):Bool×Bool:=if kd=12∧off=false then (off,decide (0≤n)) else if kd=13 then (false,false) else (off,aD)
noncomputable def ft(S:j9)(o:e9)(x:Lk):j9×An:=
  if (au o.kd).1 =true∧((b5 o.kd o.n S.off S.aD).1 =true∨((b5 o.kd o.n S.off S.aD).2 =true∧cq x.dark 4<2)) then
    (⟨if (b5 o.kd o.n S.off S.aD).1 =false∧(au o.kd).2 =true∧cq x.dark 4=0 then (bO S.M o).1 else S.M,true,(b5 o.kd o.n S.off S.aD).2⟩,b8 2)
  else if (au o.kd).2 =true∧cq x.full 5=0∧(bO S.M o).2.c =0 then (⟨S.M,(b5 o.kd o.n S.off S.aD).1,(b5 o.kd o.n S.off S.aD).2⟩,b8 3)
  else (⟨(bO S.M o).1,(b5 o.kd o.n S.off S.aD).1,(b5 o.kd o.n S.off S.aD).2⟩,lZ o.kd (bO S.M o).2 x)
/-! ### the judge, in plain Lean -/
noncomputable def oD(J:Jd)(o:e9)(X:An):Jd×Int:=
  if J.gave =true then (J,0)
  else if (au o.kd).1 =false then
    (if o.kd =12 then (if J.off =true then J else {J with aD:=decide (0≤o.n)}) else if o.kd =13 then {J with off:=false,aD:=false} else if o.kd =10 then {J with c:=J.c.map fun M=>(bO M o).1 } else J,
      az (if o.kd =12∨o.kd =13∨o.kd =10∨o.kd =14 then dh else b8 1) X)
  else if J.off =true then (J,az (b8 2) X)
  else if X.c =2∧J.aD =true then
    (if (au o.kd).2 =true then ⟨eh o.kd o.n o.s o.l J.c,true,J.aD,J.qj,decide (16<(eh o.kd o.n o.s o.l J.c).length)⟩ else {J with off:=true},az (b8 2) X)
  else bx J (if (au o.kd).2 =true∧X.c =3 then bb o.kd o.n o.s o.l X else bw o.kd o.n o.s o.l X)
theorem p7{kd:Int}(h:(au kd).1 =true):au kd=(true,(au kd).2):=Prod.ext h rfl
theorem lU{kd:Int}(h:(au kd).1 =false):au kd=(false,false):=by
  unfold au at h⊢;split
  · rename_i k;rw[if_pos k] at h;cases h
  split
  · rename_i k1 k;rw[if_neg k1,if_pos k] at h;cases h
  · rfl
theorem ym{kd:Int}(h:(au kd).1 =true):kd≠10∧kd≠12∧kd≠13∧kd≠14:=by
  refine⟨?_, ?_, ?_, ?_⟩<;>(rintro rfl;exact absurd h (by decide))
theorem Bb{h:Heap}{o:e9}{x:dL}{J:Jd}(ho:me h o)(hx:kP h x)(hr:J.qj =false)(hk:o.kd =14→x.X.k ≠1)(hE:J.gave =false→∀M∈J.c,M.E.length ≤1099511627)(hn:J.gave =false→J.c.length ≤109951162):aW h o x J (oD J o x.X).1 (oD J o x.X).2 :=by
  obtain⟨Ms,off,b,qj,gave⟩:=J
  dsimp only at hr hE hn
  subst hr
  dsimp only[oD]
  cases gave with
  |true=>rw[if_pos rfl];exact aW.gave
  | false =>
    rw[if_neg Bool.false_ne_true]
    have hE':=hE rfl
    have hn':=hn rfl
    by_cases hc:(au o.kd).1 =false
    · rw [if_pos hc]
      by_cases k12:o.kd =12
      · rw [if_pos k12, if_pos (Or.inl k12)]
        cases off with
        |true=>rw[if_pos rfl];exact aW.Gc hx k12
        |false=>rw[if_neg Bool.false_ne_true];exact aW.fuse hx k12
      by_cases k13:o.kd =13
      · rw[if_neg k12,if_pos k13,if_pos (Or.inr (.inl k13))];exact aW.Gd hx k13
      by_cases k10:o.kd =10
      · rw[if_neg k12,if_neg k13,if_pos k10,if_pos (Or.inr (.inr (.inl k10)))];exact aW.tick ho hx k10 hE' (by omega)
      rw[if_neg k12,if_neg k13,if_neg k10]
      by_cases k14:o.kd =14
      · rw[if_pos (Or.inr (.inr (.inr k14)))];exact aW.qj hx k14 (hk k14)
      · rw[if_neg (by omega)];exact aW.none hx (lU hc) ⟨k12,k10,k14,k13⟩
    · rw [if_neg hc]
      have hc1:(au o.kd).1 =true:=by cases e:(au o.kd).1 with|true=>rfl|false=>exact absurd e hc
      have hkc:=p7 hc1
      cases off with
      |true=>rw[if_pos rfl];exact aW.off hx hkc
      | false =>
        rw[if_neg Bool.false_ne_true]
        by_cases hp:x.X.c =2∧b=true
        · rw [if_pos hp]
          obtain⟨hX,rfl⟩:=hp
          cases hg:(au o.kd).2 with
          |true=>rw[if_pos rfl];rw[hg] at hkc;exact aW.xQ ho hx hkc hX hE' hn'
          |false=>rw[if_neg Bool.false_ne_true];rw[hg] at hkc;exact aW.dark hx hkc hX
        · rw [if_neg hp]
          have hb:x.X.c =2→b=false:=fun e=>by cases b with|false=>rfl|true=>exact absurd ⟨e,rfl⟩ hp
          cases hg:(au o.kd).2 with
          |false=>rw[if_neg (by rintro⟨e,_⟩;cases e)];rw[hg] at hkc;exact aW.xU ho hx hkc hb hE' (by omega) rfl
          | true =>
            rw[hg] at hkc
            by_cases h3:x.X.c =3
            · rw[if_pos ⟨rfl,h3⟩];exact aW.Ge ho hx hkc hb h3 hE' (by omega) rfl
            · rw[if_neg (fun e=>h3 e.2)];exact aW.xS ho hx hkc hb h3 hE' (by omega) rfl
/-! ### no false blame -/
structure Bc(S:j9)(J:Jd)(k:Nat):Prop where
  qj:J.qj =false
  off:J.gave =false→J.off =S.off ∧J.aD =S.aD
  mem:J.gave =false→S.M ∈J.c
  all:J.gave =false→∀N∈J.c,Canon N∧N.t =S.M.t ∧N.E.length ≤k
  len:J.gave =false→J.c.length ≤16
theorem nz{J:Jd}{f:Md→Md×Int}{M:Md}(hM:M∈J.c)(h0:(f M).2 =0):(bx J f).2 =0∧(f M).1 ∈(bx J f).1.c ∧(∀N∈(bx J f).1.c,∃K∈J.c,N=(f K).1)∧(bx J f).1.c.length ≤J.c.length ∧(bx J f).1.off =J.off ∧(bx J f).1.aD =J.aD ∧(bx J f).1.qj =J.qj ∧(bx J f).1.gave =J.gave :=by
  have hin:f M∈(J.c.map f).filter fun y=>decide (y.2 =0):=List.mem_filter.2 ⟨List.mem_map.2 ⟨M,hM,rfl⟩,decide_eq_true h0⟩
  rw[lG (fun e=>by rw[e] at hin;cases hin)]
  refine⟨rfl,List.mem_map.2 ⟨f M,hin,rfl⟩,fun N hN=> ?_, ?_,rfl,rfl,rfl,rfl⟩
  · obtain ⟨y, hy, rfl⟩ := List.mem_map.1 hN
    obtain⟨K,hK,rfl⟩:=List.mem_map.1 (List.mem_filter.1 hy).1
    exact⟨K,hK,rfl⟩
  · show (List.map _ _).length ≤ _
    rw[List.length_map];exact Nat.le_trans (List.length_filter_le _ _) (by rw[List.length_map];exact Nat.le_refl _)
theorem p8{kd n:Int}{s:ByteArray}{l:List UInt8}{t:Int}{k:Nat}(hk:kd≠10):∀(Ms A:List Md),(∀N∈Ms,Canon N∧N.t =t∧N.E.length ≤k)→(∀N∈A,Canon N∧N.t =t∧N.E.length ≤k+1)→
    (∀N∈Ms.foldl (dM kd n s l) A,Canon N∧N.t =t∧N.E.length ≤k+1)∧(∀N∈A,N∈Ms.foldl (dM kd n s l) A)∧∀M∈Ms,M∈Ms.foldl (dM kd n s l) A∧((step M kd n s l).2.c =0→(step M kd n s l).1 ∈Ms.foldl (dM kd n s l) A)
  |[],A,_,hA=>⟨hA,fun _ h=>h,fun _ h=>by cases h⟩
  | M :: Ms, A, hM, hA => by
    have hm:=hM M (List.mem_cons_self ..)
    have c1:Canon (step M kd n s l).1 :=lT hm.1
    have t1:(step M kd n s l).1.t =t:=(oC hk).trans hm.2.1
    have e1:(step M kd n s l).1.E.length ≤k+1:=by have:=n9 M kd n s l;omega
    have hB:∀N∈gH A M,Canon N∧N.t =t∧N.E.length ≤k+1:=fun N hN=>(p6 hN).elim (hA N) fun e=>by rw[e];exact⟨hm.1,hm.2.1,by omega⟩
    have sB:M∈gH A M:=ny hm.1 fun N hN=>⟨(hA N hN).1,(hA N hN).2.1.trans hm.2.1.symm⟩
    have hC:∀N∈dM kd n s l A M,Canon N∧N.t =t∧N.E.length ≤k+1:=fun N hN=>by
      unfold dM at hN;split at hN
      · exact(p6 hN).elim (hB N) fun e=>by rw[e];exact⟨c1,t1,e1⟩
      · exact hB N hN
    have sC:∀N∈gH A M,N∈dM kd n s l A M:=fun N hN=>by unfold dM;split;exact p5 hN;exact hN
    have nC:(step M kd n s l).2.c =0→(step M kd n s l).1 ∈dM kd n s l A M:=fun h=>by
      unfold dM;rw[if_pos h];exact ny c1 fun N hN=>⟨(hB N hN).1,(hB N hN).2.1.trans t1.symm⟩
    obtain⟨r1,r2,r3⟩:=p8 hk Ms (dM kd n s l A M) (fun N hN=>hM N (List.mem_cons_of_mem _ hN)) hC
    rw[List.foldl_cons]
    refine⟨r1,fun N hN=>r2 N (sC N (p5 hN)),fun N hN=> ?_⟩
    rcases List.mem_cons.1 hN with rfl|hN
    · exact⟨r2 _ (sC _ sB),fun h=>r2 _ (nC h)⟩
    · exact r3 N hN
theorem yn{M:Md}{kd n:Int}{s:ByteArray}{l:List UInt8}(hk:kd=1∨kd=4∨kd=5∨kd=6)(h:(step M kd n s l).2.c ≠0):(step M kd n s l).1 =M:=by
  rcases hk with k|k
  · rw [gB k] at h ⊢
    have h:(db M s l).2 ≠0:=h
    show(db M s l).1 =M
    unfold db at h⊢;split
    · rfl
    split
    · rfl
    split
    · rfl
    · rename_i e1 e2 _ e3
      rw[if_neg e1,if_neg e2,e3] at h;exact absurd rfl h
  · rw [eQ k] at h ⊢
    have h:(ff M kd n s).2 ≠0:=h
    show(ff M kd n s).1 =M
    unfold ff at h⊢;split
    · rfl
    split
    · rfl
    split
    · rfl
    · rename_i e1 e2 _ o e3
      rw[if_neg e1,if_neg e2,e3] at h
      dsimp only at h
      split
      · rename_i e4;rw[if_pos e4] at h;exact absurd rfl h
      · rfl
theorem ve(kd:Int)(W:An):jB kd W W=W:=by unfold jB;split<;>rfl
theorem yo(c:Int){n:Nat}(h:0<n):cq c n<n:=Nat.mod_lt _ h
theorem yp(kd:Int)(W:An)(x:Lk):jB kd W (lZ kd W x)=lZ kd W x:=by
  have h7:=yo x.work (n:=7) (by decide)
  have h5:=yo x.work (n:=5) (by decide)
  unfold lZ;split
  · rename_i k;exact jC (.inl ⟨k,by show(0:Int)≤((cq x.work 7:Nat):Int);omega,by show((cq x.work 7:Nat):Int)≤6;omega⟩)
  split
  · rename_i k;exact jC (.inr ⟨k.1,k.2,by show(0:Int)≤((cq x.work 5:Nat):Int);omega,by show((cq x.work 5:Nat):Int)≤8;omega⟩)
  · exact ve ..
theorem G4(kd:Int)(W:An)(x:Lk):(lZ kd W x).c =W.c :=by unfold lZ;split;rfl;split<;>rfl
theorem yq{kd:Int}(W:An)(x:Lk)(h:kd≠11)(k:kd≠15):lZ kd W x=W:=by unfold lZ;rw[if_neg h,if_neg fun e=>k e.1]
theorem rU{kd:Int}(h:(au kd).2 =true):kd=1∨kd=4∨kd=5∨kd=6:=by
  unfold au at h;split at h
  · assumption
  split at h<;>cases h
theorem yr{kd n:Int}{off b:Bool}(h12:kd≠12)(h13:kd≠13):b5 kd n off b=(off,b):=by unfold b5;rw[if_neg fun e=>h12 e.1,if_neg h13]
theorem p9{Ms:List Md}{t:Int}{k:Nat}{M:Md}(o:e9)(ht:M.t =t)(h:∀N∈Ms,Canon N∧N.t =t∧N.E.length ≤k):∀N∈Ms,Canon (bO N o).1 ∧(bO N o).1.t =(bO M o).1.t ∧(bO N o).1.E.length ≤k+1:=fun N hN=>
  ⟨lT (h N hN).1,A_ ((h N hN).2.1.trans ht.symm),by have:=n9 N o.kd o.n o.s o.l;have:=(h N hN).2.2;unfold bO;omega⟩
theorem iN{Ms:List Md}{t:Int}{k:Nat}(h:∀N∈Ms,Canon N∧N.t =t∧N.E.length ≤k):∀N∈Ms,Canon N∧N.t =t∧N.E.length ≤k+1:=fun N hN=>⟨(h N hN).1,(h N hN).2.1,Nat.le_succ_of_le (h N hN).2.2⟩
theorem p_{S:j9}{J:Jd}{k:Nat}(o:e9)(x:Lk)(i:Bc S J k):(oD J o (ft S o x).2).2 =0∧Bc (ft S o x).1 (oD J o (ft S o x).2).1 (k+1):=by
  obtain⟨qj,off,mem,all,len⟩:=i
  cases hg:J.gave with
  | true =>
    unfold oD;rw[if_pos hg]
    exact⟨rfl,qj,fun e=>(by rw[hg] at e;cases e),fun e=>(by rw[hg] at e;cases e),fun e=>(by rw[hg] at e;cases e),fun e=>(by rw[hg] at e;cases e)⟩
  | false =>
    obtain⟨Ms,vf,jb,OB,jg⟩:=J
    obtain⟨M,OC,sb⟩:=S
    dsimp only at qj off mem all len hg
    subst hg;subst qj
    obtain⟨rfl,rfl⟩:=off rfl
    have mem:=mem rfl
    have all:=all rfl
    have len:=len rfl
    dsimp only[oD]
    rw[if_neg Bool.false_ne_true]
    by_cases hc:(au o.kd).1 =false
    · rw [if_pos hc]
      have hc2:(au o.kd).2 =false:=by rw[lU hc]
      have h11:o.kd ≠11:=fun e=>by rw[e] at hc;exact absurd hc (by decide)
      have h15:o.kd ≠15:=fun e=>by rw[e] at hc;exact absurd hc (by decide)
      have hp:ft ⟨M,vf,jb⟩ o x=(⟨(bO M o).1,(b5 o.kd o.n vf jb).1,(b5 o.kd o.n vf jb).2⟩,(bO M o).2):=by
        unfold ft;rw[if_neg (fun e=>by rw[hc] at e;exact absurd e.1 (by decide)),if_neg (fun e=>by rw[hc2] at e;exact absurd e.1 (by decide)),yq _ _ h11 h15]
      rw[hp]
      have hst:=p9 o rfl all
      have DN:o.kd ≠10→(bO M o).1 =M:=fun k10=>by
        unfold bO
        have hn:¬(o.kd =1∨o.kd =4∨o.kd =5∨o.kd =6):=fun e=>by rw[cu e] at hc;cases hc
        by_cases ha:o.kd =2∨o.kd =3∨o.kd =7∨o.kd =8∨o.kd =9∨o.kd =11∨o.kd =15∨o.kd =16
        · rw[bT hn ha] at hc;cases hc
        by_cases h4:o.kd =11∨o.kd =12∨o.kd =13∨o.kd =14
        · rw[b1 h4]
        · rw[kN (by omega) (by omega) (by omega) (by omega) (by omega) (by omega) k10 h4]
      have G5:az (if o.kd =12∨o.kd =13∨o.kd =10∨o.kd =14 then dh else b8 1) (bO M o).2 =0:=by
        unfold bO
        by_cases k10:o.kd =10
        · rw[if_pos (by omega),eJ k10];exact dU _
        by_cases h4:o.kd =11∨o.kd =12∨o.kd =13∨o.kd =14
        · rw[if_pos (by omega),b1 h4];exact dU _
        have hn:¬(o.kd =1∨o.kd =4∨o.kd =5∨o.kd =6):=fun e=>by rw[cu e] at hc;cases hc
        by_cases ha:o.kd =2∨o.kd =3∨o.kd =7∨o.kd =8∨o.kd =9∨o.kd =11∨o.kd =15∨o.kd =16
        · rw[bT hn ha] at hc;cases hc
        rw[if_neg (by omega),kN (by omega) (by omega) (by omega) (by omega) (by omega) (by omega) k10 h4];exact dU _
      refine⟨G5, ?_⟩
      dsimp only
      by_cases k12:o.kd =12
      · rw [if_pos k12, DN (by omega)]
        cases vf with
        |true=>rw[if_pos rfl];unfold b5;rw[if_neg (fun e=>by cases e.2),if_neg (by omega)];exact⟨rfl,fun _=>⟨rfl,rfl⟩,fun _=>mem,fun _=>iN all,fun _=>len⟩
        |false=>rw[if_neg Bool.false_ne_true];unfold b5;rw[if_pos ⟨k12,rfl⟩];exact⟨rfl,fun _=>⟨rfl,rfl⟩,fun _=>mem,fun _=>iN all,fun _=>len⟩
      rw[if_neg k12]
      by_cases k13:o.kd =13
      · rw[if_pos k13,DN (by omega)];unfold b5;rw[if_neg (fun e=>k12 e.1),if_pos k13];exact⟨rfl,fun _=>⟨rfl,rfl⟩,fun _=>mem,fun _=>iN all,fun _=>len⟩
      rw[if_neg k13,yr k12 k13]
      by_cases k10:o.kd =10
      · rw [if_pos k10]
        refine⟨rfl,fun _=>⟨rfl,rfl⟩,fun _=>List.mem_map.2 ⟨M,mem,rfl⟩,fun _ N hN=> ?_,fun _=>(by show(List.map _ _).length ≤_;rw[List.length_map];exact len)⟩
        obtain⟨K,hK,rfl⟩:=List.mem_map.1 hN
        exact hst K hK
      · rw[if_neg k10,DN k10];exact⟨rfl,fun _=>⟨rfl,rfl⟩,fun _=>mem,fun _=>iN all,fun _=>len⟩
    · rw [if_neg hc]
      have hc1:(au o.kd).1 =true:=by cases e:(au o.kd).1 with|true=>rfl|false=>exact absurd e hc
      obtain⟨k10,k12,k13,k14⟩:=ym hc1
      have hF:=yr (n:=o.n) (off:=vf) (b:=jb) k12 k13
      cases vf with
      | true =>
        have hp:ft ⟨M,true,jb⟩ o x=(⟨M,true,jb⟩,b8 2):=by
          unfold ft;dsimp only;rw[hF,if_pos ⟨hc1, .inl rfl⟩,if_neg (fun e=>by cases e.1)]
        rw[hp,if_pos rfl]
        exact⟨dU (b8 2),rfl,fun _=>⟨rfl,rfl⟩,fun _=>mem,fun _=>iN all,fun _=>len⟩
      | false =>
        rw[if_neg Bool.false_ne_true]
        by_cases hd:jb=true∧cq x.dark 4<2
        · obtain ⟨rfl, hd⟩ := hd
          have hp:ft ⟨M,false,true⟩ o x=(⟨if (au o.kd).2 =true∧cq x.dark 4=0 then (bO M o).1 else M,true,true⟩,b8 2):=by
            unfold ft;dsimp only;rw[hF,if_pos ⟨hc1, .inr ⟨rfl,hd⟩⟩]
            by_cases q:(au o.kd).2 =true∧cq x.dark 4=0
            · rw[if_pos ⟨rfl,q⟩,if_pos q]
            · rw[if_neg (fun e=>q e.2),if_neg q]
          rw[hp];dsimp only
          rw[if_pos ⟨rfl,rfl⟩]
          refine⟨dU (b8 2), ?_⟩
          cases hg:(au o.kd).2 with
          | false =>
            rw[if_neg Bool.false_ne_true,if_neg (fun e=>by cases e.1)]
            exact⟨rfl,fun _=>⟨rfl,rfl⟩,fun _=>mem,fun _=>iN all,fun _=>len⟩
          | true =>
            rw[if_pos rfl]
            obtain⟨p1,_,p3⟩:=p8 (kd:=o.kd) (n:=o.n) (s:=o.s) (l:=o.l) k10 Ms [] all (fun N hN=>by cases hN)
            obtain⟨q1,q2⟩:=p3 M mem
            have hM:(if true=true∧cq x.dark 4=0 then (bO M o).1 else M)∈eh o.kd o.n o.s o.l Ms:=by
              split
              · by_cases h0 : (step M o.kd o.n o.s o.l).2.c = 0
                · exact q2 h0
                · unfold bO;rw[yn (rU hg) h0];exact q1
              · exact q1
            have ht:(if true=true∧cq x.dark 4=0 then (bO M o).1 else M).t =M.t :=by
              split
              · exact oC k10
              · rfl
            refine⟨rfl,fun _=>⟨rfl,rfl⟩,fun _=>hM,fun _ N hN=> ?_,fun e=> ?_⟩
            · dsimp only;rw[ht];exact p1 N hN
            · have:=of_decide_eq_false e;dsimp only;omega
        · have hx : ∀ c : Int, c ≠ 2 → ¬ (c = 2 ∧ jb = true) := fun c h e => h e.1
          have hd':¬((au o.kd).1 =true∧(false=true∨jb=true∧cq x.dark 4<2)):=fun e=>e.2.elim (fun q=>by cases q) hd
          by_cases hf:(au o.kd).2 =true∧cq x.full 5=0∧(bO M o).2.c =0
          · have hp : ft ⟨M, false, jb⟩ o x = (⟨M, false, jb⟩, b8 3) := by
              unfold ft;dsimp only;rw[hF,if_neg hd',if_pos hf]
            rw[hp];dsimp only
            rw[if_neg (hx (b8 3).c (by decide)),if_pos ⟨hf.1,rfl⟩]
            have hy:bb o.kd o.n o.s o.l (b8 3) M=(M,0):=jD hf.2.2 (dU _)
            have ox:∀K,(bb o.kd o.n o.s o.l (b8 3) K).1 =K:=fun _=>rfl
            obtain⟨r1,r2,r3,r4,r5,r6,r7,r8⟩:=nz (J:=⟨Ms,false,jb,false,false⟩) (f:=bb o.kd o.n o.s o.l (b8 3)) mem (congrArg Prod.snd hy)
            refine⟨r1,r7,fun _=>⟨r5,r6⟩,fun _=>by rw[ox] at r2;exact r2,fun _ N hN=> ?_,fun _=>Nat.le_trans r4 len⟩
            obtain⟨K,hK,e⟩:=r3 N hN
            rw[show N=K from e];exact iN all K hK
          · have hp : ft ⟨M, false, jb⟩ o x = (⟨(bO M o).1, false, jb⟩, lZ o.kd (bO M o).2 x) := by
              unfold ft;dsimp only;rw[hF,if_neg hd',if_neg hf]
            have hcc:=DM (M:=M) (kd:=o.kd) (n:=o.n) (s:=o.s) (l:=o.l)
            have hpc:(lZ o.kd (bO M o).2 x).c ≠2∧(lZ o.kd (bO M o).2 x).c ≠3:=by rw[G4];exact hcc
            rw[hp];dsimp only
            rw[if_neg (hx _ hpc.1),if_neg (fun e=>hpc.2 e.2)]
            have hy:(bw o.kd o.n o.s o.l (lZ o.kd (bO M o).2 x) M).2 =0:=by
              show az (jB o.kd (bO M o).2 _) _=0
              rw[yp];exact dU _
            obtain⟨r1,r2,r3,r4,r5,r6,r7,r8⟩:=nz (J:=⟨Ms,false,jb,false,false⟩) mem hy
            refine⟨r1,r7,fun _=>⟨r5,r6⟩,fun _=>r2,fun _ N hN=> ?_,fun _=>Nat.le_trans r4 len⟩
            obtain⟨K,hK,rfl⟩:=r3 N hN
            exact p9 o rfl all K hK
theorem G6:Bc ⟨M0,false,false⟩ ⟨[M0],false,false,false,false⟩ 0:=⟨rfl,fun _=>⟨rfl,rfl⟩,fun _=>List.mem_singleton.2 rfl,fun _ N hN=>(by rw[List.mem_singleton.1 hN];exact⟨A8 _ _,rfl,Nat.le_refl _⟩),fun _=>(by decide)⟩
end Go.Proofs.YtegkejcglfgpmaaGreatDoor
end
section
namespace Go.aN
open Go Go.aj
structure lV(x:Lk):Prop where
  d1: -9223372036854775808≤x.dark
  d2:x.dark ≤9223372036854775807
  f1: -9223372036854775808≤x.full
  f2:x.full ≤9223372036854775807
  w1: -9223372036854775808≤x.work
  w2:x.work ≤9223372036854775807
theorem Bd{V:List Lk}{i:Nat}(h:∀x∈V,lV x)(hi:i<V.length):lV (V.getD i lS):=by
  rw[List.getD_eq_getElem?_getD,List.getElem?_eq_getElem hi];exact h _ (List.getElem_mem hi)
theorem G7:lV lS:=⟨by decide,by decide,by decide,by decide,by decide,by decide⟩
theorem DO{V:List Lk}{i:Nat}(hi:¬i<V.length):V.getD i lS=lS:=by
  rw[List.getD_eq_getElem?_getD,List.getElem?_eq_none (by omega)];rfl
theorem oE{c:Int}(n:Nat)(h:c<0):(-(c+1)).toNat %n=cq c n:=by unfold cq;rw[if_pos h]
theorem oF{c:Int}(n:Nat)(h:¬c<0):c.toNat %n=cq c n:=by unfold cq;rw[if_neg h]
theorem Be{P:Program}{h:Heap}{a:Addr}{V:List Lk}{n c k q:Nat}{x:Lk}(hx:V.getD k lS=x)(r:Row h (.slice (some a) n c) V.length 3 (tn V)){T:TypeId}(ht:cG P T=some (true,3))(hk:k<V.length)(hq:q=k*3):
    Loads P h T (a.add q) (.agg #[.int .i64 x.dark, .int .i64 x.full, .int .i64 x.work]):=by
  subst hx;exact Row.fm (d:=lS) tp r ht hk hq
theorem bB.DP{W:Nat→Prop}{h:Heap}{rb c:Nat}{M:Md}{cs:Array Value}{E:TypeId}{fr:Nat×Nat}(m:bB W h rb M)(k:h[c]? =some (.cells cs E fr))(hM:E≠86):rb≠c:=by
  obtain⟨_,_,_,_,_,_,md⟩:=m
  rintro rfl
  have:=md.hm;rw[k] at this;cases this;exact hM rfl
theorem bB.vg{W:Nat→Prop}{h h':Heap}{rb c:Nat}{M:Md}{cs:Array Value}{E:TypeId}{fr:Nat×Nat}(m:bB W h rb M)(g:Grew (some c) h h')(k:h[c]? =some (.cells cs E fr))(hE:kK E=false∧E≠97)(hM:E≠86):bB W h' rb M:=m.aO g k hE (m.DP k hM)
theorem bB.eX{W:Nat→Prop}{h h':Heap}{rb:Nat}{M:Md}{o:Option Nat}{v:Value}{E:TypeId}{n sz:Nat}{xs:List Value}(m:bB W h rb M)(g:Grew o h h')(w:Own h v E n sz xs)(ho:a6 v=o)(hE:kK E=false)(hT:E≠97)(hM:E≠86):bB W h' rb M:=by
  subst ho
  rcases w.2 with⟨rfl,_⟩|⟨k,off,cap,l,rfl,q,_⟩
  · exact m.ext g
  · have hne : rb ≠ k := by
      obtain⟨_,_,_,_,_,_,md⟩:=m
      rintro rfl
      have:=md.hm;rw[q] at this;cases this;exact hM rfl
    exact m.fr (F:=fun i=>i=k) ⟨g.1,fun i hi hn=>g.2 i hi (fun e=>hn (Option.some.inj e))⟩ (by rintro i rfl;exact⟨.inl (aZ.cells q hE),oo.cells q hT⟩) hne
end Go.aN
namespace Go.Proofs.YtegkejcglfgpmaaGreatDoor
open Go Go.aj Go.aN
section
variable {h h':Heap} {x:dL} {L:List dL}
theorem kP.OD{F:Nat→Prop}(a:kP h x)(g:Gr F h h')(hF:∀k,F k→aZ h k):kP h' x:=⟨a.1.fr g hF,a.2.1.fr g hF,a.2.2.1.fr g hF,a.2.2.2⟩
def cW(h:Heap)(L:List dL):Prop:=∀r∈L,kP h r
theorem cW.nil(h:Heap):cW h []:=fun _ e=>by cases e
theorem cW.fr{F:Nat→Prop}(a:cW h L)(g:Gr F h h')(hF:∀k,F k→aZ h k):cW h' L:=fun r hr=>(a r hr).OD g hF
theorem cW.ext(a:cW h L)(g:Ext h h'):cW h' L:=a.fr (F:=fun _=>False) ⟨g.1,fun k hk _=>g.2 k hk (by simp)⟩ fun _ e=>e.elim
theorem cW.aO{c:Nat}{cs:Array Value}{E:TypeId}{fr:Nat×Nat}(a:cW h L)(g:Grew (some c) h h')(m:h[c]? =some (.cells cs E fr))(hE:kK E=false):cW h' L:=a.fr g.pe (by rintro k rfl;exact aZ.cells m hE)
theorem cW.rg{W:Nat→Prop}{rb:Nat}{M:Md}(a:cW h L)(g:RG rb h h')(k:bB W h rb M):cW h' L:=by
  obtain⟨_,_,_,_,_,_,k⟩:=k
  exact a.fr g fun i e=>e▸aZ.cells k.hm (by decide)
theorem cW.eX{o:Option Nat}{v:Value}{E:TypeId}{n sz:Nat}{xs:List Value}(a:cW h L)(g:Grew o h h')(w:Own h v E n sz xs)(ho:a6 v=o)(hE:kK E=false):cW h' L:=by
  subst ho
  rcases w.2 with⟨rfl,_⟩|⟨k,off,cap,l,rfl,q,_⟩
  · exact a.ext g
  · exact a.fr (F:=fun i=>i=k) ⟨g.1,fun i hi hn=>g.2 i hi (fun e=>hn (Option.some.inj e))⟩ (by rintro i rfl;exact aZ.cells q hE)
theorem cW.snoc(a:cW h L)(k:kP h x):cW h (L++[x]):=fun r hr=>(List.mem_append.1 hr).elim (a r) fun e=>by rw[List.mem_singleton.1 e];exact k
end
/-! ### how much an answer holds -/
def B1(X:An):Prop:=X.b.length ≤512∧X.i.length ≤1048576∧X.p.length ≤1048576
theorem DQ(c:Int):B1 (b8 c):=⟨Nat.zero_le _,Nat.zero_le _,Nat.zero_le _⟩
def jM(L:List dL):Prop:=∀r∈L,B1 r.X
theorem jM.snoc{L:List dL}{x:dL}(a:jM L)(k:B1 x.X):jM (L++[x]):=fun r hr=>(List.mem_append.1 hr).elim (a r) fun e=>by rw[List.mem_singleton.1 e];exact k
theorem vh{W:Nat→Prop}{h:Heap}{rb:Nat}{M:Md}(m:bB W h rb M)(hE:M.E.length ≤1048576)(kd n:Int)(s:ByteArray)(l:List UInt8):B1 (step M kd n s l).2 :=by
  obtain⟨T,oa,oc,ea,ec,es,m⟩:=m
  have hi:(iJ M).length ≤M.E.length :=by
    have:=gY (T.map iq);rw[List.length_map,m.ln] at this;rw[m.FC];exact this
  have hd:(eE M).length ≤M.E.length :=by
    unfold eE;split
    · rename_i hh
      obtain⟨K,S,E',h',s',e⟩:=Classical.choose_spec hh
      have:=pD m.enum E'
      rw[List.length_map,m.ln] at this
      rw[e,this];unfold ids;rw[List.length_map,h'.length_eq];exact List.length_filter_le _ _
    · exact Nat.zero_le _
  have z:∀c,B1 (b8 c):=DQ
  have z0:B1 dh:=DQ 0
  unfold step
  split
  · exact z _
  split
  · exact z _
  split
  · show B1 (c7 M kd s)
    unfold c7
    split
    · exact z _
    split
    · exact z _
    rename_i o ho
    split
    · exact⟨Nat.zero_le _,Nat.zero_le _,Nat.zero_le _⟩
    split
    · refine ⟨Nat.zero_le _, Nat.zero_le _, ?_⟩
      exact Nat.le_trans (Nat.le_trans (mG (cE M.E) o.b.idx) (by unfold cE;rw[List.length_map];exact Nat.le_refl _)) hE
    split
    · exact z _
    split
    · obtain ⟨x, hx, e⟩ := m.al s o ho
      have k:=m.ob x hx
      rw[e,ho] at k
      refine⟨?_,Nat.zero_le _,Nat.zero_le _⟩
      show o.dt.length ≤512
      rw[Option.some.inj k.1];exact k.2.1
    · exact z0
  split
  · exact⟨Nat.zero_le _,Nat.le_trans hi hE,Nat.zero_le _⟩
  split
  · exact⟨Nat.zero_le _,Nat.le_trans hd hE,Nat.zero_le _⟩
  split
  · exact⟨Nat.zero_le _,Nat.zero_le _,Nat.zero_le _⟩
  split
  · exact z0
  split
  · exact z0
  · exact z _
noncomputable def kR(L:List e9)(V:List Lk):Nat→j9
  |0=>⟨M0,false,false⟩
  |k+1=>(ft (kR L V k) (L.getD k fC) (V.getD k lS)).1
noncomputable def oG(L:List e9)(V:List Lk)(k:Nat):An:=(ft (kR L V k) (L.getD k fC) (V.getD k lS)).2
def jP(o:e9)(S:j9)(x:Lk):Prop:=(au o.kd).1 =true∧((b5 o.kd o.n S.off S.aD).1 =true∨((b5 o.kd o.n S.off S.aD).2 =true∧cq x.dark 4<2))
instance (o:e9) (S:j9) (x:Lk):Decidable (jP o S x):=by unfold jP;infer_instance
theorem dJ(L:List dL):∀u∈bI L,u.oneCell' =true:=jh (fun r=>List.all_eq_true.1 (show(xM r).all _=true by rfl)) L
theorem dK{L:List e9}{V:List Lk}{k:Nat}{Out:List dL}{r:dL}(hol:Out.length =k)(hon:∀j,j<k→(Out.getD j e_).X =oG L V j)(e:r.X =oG L V k):∀j,j<k+1→((Out++[r]).getD j e_).X =oG L V j:=fun j hj=>by
  rcases Nat.lt_succ_iff_lt_or_eq.1 hj with h1|rfl
  · rw[←hon j h1,List.getD_eq_getElem?_getD,List.getD_eq_getElem?_getD,List.getElem?_append_left (by omega)]
  · rw[List.getD_eq_getElem?_getD,List.getElem?_append_right (by omega),hol,Nat.sub_self];exact e
theorem Bf(a b c:Bool)(d:Nat):a=false∨(a=true∧b=true)∨(a=true∧b=false∧c=false)∨(a=true∧b=false∧c=true∧d<2)∨(a=true∧b=false∧c=true∧¬d<2):=by
  cases a<;>cases b<;>cases c<;>simp<;>omega
theorem yt(b:Bool)(k:Int):(b=false∧k=12)∨(b=false∧k=13)∨(b=false∧(k≠12∧k≠13))∨(b=true∧k=12)∨(b=true∧k=13)∨(b=true∧(k≠12∧k≠13)):=by
  cases b<;>simp<;>omega
theorem yu(b c:Bool)(d:Nat):b=true∨(b=false∧c=false)∨(b=false∧c=true∧d=0)∨(b=false∧c=true∧d≠0):=by
  cases b<;>cases c<;>simp<;>omega
theorem yv(c:Bool)(f:Nat)(e:Int):c=false∨(c=true∧f≠0)∨(c=true∧f=0∧e=0)∨(c=true∧f=0∧e≠0):=by
  cases c<;>simp<;>omega
def rV(o:e9)(x:Lk)(X:An):Prop:=(au o.kd).2 =true∧cq x.full 5=0∧X.c =0
instance (o:e9) (x:Lk) (X:An):Decidable (rV o x X):=by unfold rV;infer_instance
section
variable {S:j9} {o:e9} {x:Lk} {N:Md} {X:An} {b:Bool}
theorem DR(d:jP o S x)(h1:(b5 o.kd o.n S.off S.aD).1 =true)(hb:(b5 o.kd o.n S.off S.aD).2 =b):ft S o x=(⟨S.M,true,b⟩,b8 2):=by unfold jP at d;unfold ft;rw[if_pos d,if_neg (by rw[h1];rintro⟨e,_⟩;cases e),hb]
theorem G8(d:jP o S x)(h1:(b5 o.kd o.n S.off S.aD).1 =false)(h2:(au o.kd).2 =true)(h3:cq x.dark 4=0)(hs:step S.M o.kd o.n o.s o.l =(N,X))(hb:(b5 o.kd o.n S.off S.aD).2 =b):ft S o x=(⟨N,true,b⟩,b8 2):=by unfold jP at d;unfold ft;rw[if_pos d,if_pos ⟨h1,h2,h3⟩,hb];unfold bO;rw[hs]
theorem yw(d:jP o S x)(h:¬((au o.kd).2 =true∧cq x.dark 4=0))(hb:(b5 o.kd o.n S.off S.aD).2 =b):ft S o x=(⟨S.M,true,b⟩,b8 2):=by unfold jP at d;unfold ft;rw[if_pos d,if_neg (fun e=>h e.2),hb]
theorem Bg(d:¬jP o S x)(h2:(au o.kd).2 =true)(h3:cq x.full 5=0)(hs:step S.M o.kd o.n o.s o.l =(N,X))(hc:X.c =0):ft S o x=(⟨S.M,(b5 o.kd o.n S.off S.aD).1,(b5 o.kd o.n S.off S.aD).2⟩,b8 3):=by unfold jP at d;unfold ft;rw[if_neg d,if_pos ⟨h2,h3,by unfold bO;rw[hs];exact hc⟩]
theorem tq(d:¬jP o S x)(h:¬((au o.kd).2 =true∧cq x.full 5=0∧X.c =0))(hs:step S.M o.kd o.n o.s o.l =(N,X)):ft S o x=(⟨N,(b5 o.kd o.n S.off S.aD).1,(b5 o.kd o.n S.off S.aD).2⟩,lZ o.kd X x):=by unfold jP at d;unfold ft;rw[if_neg d,if_neg (by unfold bO;rw[hs];exact h)];unfold bO;rw[hs]
end
/-! ### the judge beside it -/
noncomputable def DS(L:List e9)(V:List Lk):Nat→Jd
  |0=>⟨[M0],false,false,false,false⟩
  |k+1=>(oD (DS L V k) (L.getD k fC) (oG L V k)).1
theorem oH(L:List e9)(V:List Lk):∀k,Bc (kR L V k) (DS L V k) k
  |0=>G6
  |k+1=>(p_ (L.getD k fC) (V.getD k lS) (oH L V k)).2
theorem G9(L:List e9)(V:List Lk)(k:Nat):(oD (DS L V k) (L.getD k fC) (oG L V k)).2 =0:=(p_ (L.getD k fC) (V.getD k lS) (oH L V k)).1
theorem Bh{L:List e9}{V:List Lk}{k:Nat}(h:(L.getD k fC).kd =14):(oG L V k).k ≠1:=by
  have hc:au (L.getD k fC).kd =(false,false):=dX (by omega) (by omega)
  have hs:step (kR L V k).M (L.getD k fC).kd (L.getD k fC).n (L.getD k fC).s (L.getD k fC).l =((kR L V k).M,dh):=b1 (by omega)
  unfold oG
  rw[tq (fun e=>by have:=e.1;rw[hc] at this;cases this) (fun e=>by have:=e.1;rw[hc] at this;cases this) hs,yq _ _ (by omega) (by omega)]
  exact(by decide:(0:Int)≠1)
theorem yx(n:Nat):iC (fun _=>0) n=[]:=by
  induction n with
  |zero=>rfl
  |succ n ih=>rw[rK (r:=fun _=>0) rfl,ih]
theorem DT{h:Heap}{L:List e9}{V:List Lk}{Out:List dL}(hol:Out.length =L.length)(hon:∀j,j<L.length →(Out.getD j e_).X =oG L V j)(hAl:cW h Out)(ho:∀o∈L,me h o)(hn:L.length ≤1048576)(k:Nat)(hk:k<L.length):aW h (L.getD k fC) (Out.getD k e_) (DS L V k) (DS L V (k+1)) 0:=by
  have i:=oH L V k
  have e:=hon k hk
  have hm:Out.getD k e_∈Out:=by
    rw[List.getD_eq_getElem?_getD,List.getElem?_eq_getElem (by omega)];exact List.getElem_mem _
  have OE:me h (L.getD k fC):=sY ho hk
  have:=Bb (J:=DS L V k) (o:=L.getD k fC) (x:=Out.getD k e_) OE (hAl _ hm) i.qj (fun kA=>by rw[e];exact Bh kA) (fun g M hM=>by have:=(i.all g M hM).2.2;omega) (fun g=>by have:=i.len g;omega)
  rw[e,G9] at this
  exact this
end Go.Proofs.YtegkejcglfgpmaaGreatDoor
end
section
namespace Go.Proofs.YtegkejcglfgpmaaGreatDoor
open Go.ChangeShapes Go.WideShapes Go.ChangeAt Go.RowKit
section
variable {H:Type} {enc:TypeId×Value→H}
theorem vi{P:Program}{W:World}{b0:Nat}{rr:Reach}{tl t ti ts tb te tk:TypeId}{v:Value}{d:DataW H}{ps:List MemPlace}(hO:C8 P t ti ts tb te tk)(ht:P.underlying tl=some (.slice t))(hval:Value.okWide P W rr b0 tl v)(h:DataW.Trod enc P W 0 (fun _=>true) true tl v d ps):
    ∃(va:Option Addr) (vc:Nat) (L:List e9),v= .slice va L.length vc∧aj.Row W.heap (.slice va L.length vc) L.length 5 (iA L)∧(∀o∈L,me W.heap o∧o.l.length +1≤Rows.uptoBulk d)∧L.length +1≤Rows.uptoBulk d:=by
  obtain⟨a0,l0,c0,rfl⟩:=okWide_slice ht hval
  obtain⟨fuel,h⟩:=h
  obtain⟨va,vc,L,e0,hr,hb,ds,hdl,hdb,hel⟩:=lH fC om ht hO.2.1 (by decide) (fun o dd=>me W.heap o∧o.l.length +1≤Rows.uptoBulk dd) (fun n cs' y hy=>by
    obtain⟨o,h1,h2,h3,_,_,h4⟩:=wT hO hy;exact⟨o,h1,⟨⟨h2.1,h4⟩,h2.2⟩,h3⟩) h
  have e:Value.slice a0 l0 c0= .slice va L.length vc:=by simpa[Value.cells] using e0
  cases e
  refine⟨_,_,L,rfl,hr,fun o hm=> ?_,hb⟩
  obtain⟨i,hi,rfl⟩:=List.getElem_of_mem hm
  obtain⟨dd,hd,h1,h2⟩:=hel i hi
  rw[show L.getD i fC=L[i] by simp[List.getD,hi]] at h1 h2
  refine⟨h1, ?_⟩
  have h3:=uB hd
  have h4:Rows.uptoBulkAll ds≤Rows.uptoBulk d:=hdb
  omega
def DU(P:Program)(t ti:TypeId):Prop:=fieldsOf P t=some [(ti,0),(ti,1),(ti,2)]∧P.cellsOf t=3∧P.underlying ti=some (.int .i64)∧P.cellsOf ti=1
theorem yy{P:Program}{W:World}{t ti:TypeId}{fuel:Nat}{cs:List Value}{x:DataW H×List MemPlace}(hO:DU P t ti)(h:DataW.trod enc P W 0 (fun _=>true) true fuel t cs=some x):∃y:aN.Lk,cs=aN.KK y∧aN.lV y:=by
  obtain⟨hf,hct,hi,hci⟩:=hO
  obtain⟨xs,n0,hl,hd,hel⟩:=kl hf h
  obtain⟨y0,_,h0⟩:=hel 0 _ rfl
  obtain⟨y1,_,h1⟩:=hel 1 _ rfl
  obtain⟨y2,_,h2⟩:=hel 2 _ rfl
  obtain⟨a,e0,_,ha⟩:=DataW.trod_int hi h0
  obtain⟨b,e1,_,hb⟩:=DataW.trod_int hi h1
  obtain⟨c,e2,_,hc⟩:=DataW.trod_int hi h2
  refine⟨⟨a,b,c⟩, ?_,⟨(gC ha).1,(gC ha).2,(gC hb).1,(gC hb).2,(gC hc).1,(gC hc).2⟩⟩
  rw[hct] at hl
  rw[hci] at e0 e1 e2
  dsimp only at e0 e1 e2
  have c0:=cut cs 0 1
  have c1:=cut cs 1 1
  have c2:=cut cs 2 1
  rw[List.drop_of_length_le (l:=cs) (i:=2+1) (by omega),List.append_nil,e2] at c2
  rw[e1,c2] at c1
  rw[e0,c1,List.drop_zero] at c0
  rw[c0];rfl
theorem yz{P:Program}{W:World}{b0:Nat}{rr:Reach}{tl t ti:TypeId}{v:Value}{d:DataW H}{ps:List MemPlace}(hO:DU P t ti)(ht:P.underlying tl=some (.slice t))(hval:Value.okWide P W rr b0 tl v)(h:DataW.Trod enc P W 0 (fun _=>true) true tl v d ps):
    ∃(va:Option Addr) (vc:Nat) (L:List aN.Lk),v= .slice va L.length vc∧aj.Row W.heap (.slice va L.length vc) L.length 3 (aN.tn L)∧∀y∈L,aN.lV y:=by
  obtain⟨a0,l0,c0,rfl⟩:=okWide_slice ht hval
  obtain⟨fuel,h⟩:=h
  obtain⟨va,vc,L,e0,hr,_,ds,_,_,hel⟩:=lH aN.lS aN.tp ht hO.2.1 (by decide) (fun y _=>aN.lV y) (fun n cs' y hy=>yy hO hy) h
  have e:Value.slice a0 l0 c0= .slice va L.length vc:=by simpa[Value.cells] using e0
  cases e
  refine⟨_,_,L,rfl,hr,fun o hm=> ?_⟩
  obtain⟨i,hi,rfl⟩:=List.getElem_of_mem hm
  obtain⟨dd,_,h1⟩:=hel i hi
  rw[show L.getD i aN.lS =L[i] by simp[List.getD,hi]] at h1
  exact h1
end
end Go.Proofs.YtegkejcglfgpmaaGreatDoor
end
section
namespace Go.Proofs.YtegkejcglfgpmaaGreatDoor
open Go Go.aj Go.aN
theorem Bi(h:Heap)(c:Int)(h1: -9223372036854775808≤c)(h2:c≤9223372036854775807):Sat Tryz.prog 12 #[.int .i64 c,.int .i64 4] h fun v h'=>v= .int .i64 ((cq c 4:Nat):Int)∧h'=h:=by
 refine ag Tryz.func12 13 fun a b=>qP [] b fun a b=>cS<|qP [(6,.bool (decide (c<(0:Int))))] b fun a b=>cJ 6 b (fun d=> ?_) fun d=> ?_
 ·have hk:=oE 4 d
  refine rS b<|t1 1 (.int .i64 (c+1)) (.int .i64 (IntKind.i64.wrap (c+1))) (congrArg (Value.int .i64) (k7 (by omega) (by omega)))<|t1 2 (.int .i64 (-(c+1))) (.int .i64 (IntKind.i64.wrap (0 - (c+1)))) (congrArg (Value.int .i64) ((k7 (by omega) (by omega)).trans (by omega)))<|sE [(0,.int .i64 (-(c+1)))] fun a b=>tK<|qS b<|t1 2 (.int .i64 (((cq c 4):Nat):Int)) (.int .i64 (Int.tmod ((-(c+1))) 4)) (congrArg (Value.int .i64) ((congrArg (fun x=>Int.tmod x 4) (show((-(c+1)):Int)=((((-(c+1)):Int).toNat :Nat):Int) by omega)).trans ((iX _ 4).trans (by rw[hk])))) ?_
  exact sT [(4,nV (cq c 4))] fun a b=>cR<|rT 4 (nV (cq c 4)) b<|⟨rfl,rfl⟩
 ·have hk:=oF 4 d
  refine cN<|tK<|qS b<|t1 2 (.int .i64 (((cq c 4):Nat):Int)) (.int .i64 (Int.tmod (c) 4)) (congrArg (Value.int .i64) ((congrArg (fun x=>Int.tmod x 4) (show(c:Int)=(((c:Int).toNat :Nat):Int) by omega)).trans ((iX _ 4).trans (by rw[hk]))))<|sT [(4,nV (cq c 4))] fun a b=>cR<|rT 4 (nV (cq c 4)) b ?_
  exact⟨rfl,rfl⟩
theorem kS(h:Heap)(c:Int)(h1: -9223372036854775808≤c)(h2:c≤9223372036854775807):Sat Tryz.prog 12 #[.int .i64 c,.int .i64 5] h fun v h'=>v= .int .i64 ((cq c 5:Nat):Int)∧h'=h:=by
 refine ag Tryz.func12 13 fun a b=>qP [] b fun a b=>cS<|qP [(6,.bool (decide (c<(0:Int))))] b fun a b=>cJ 6 b (fun d=> ?_) fun d=> ?_
 ·have hk:=oE 5 d
  refine rS b<|t1 1 (.int .i64 (c+1)) (.int .i64 (IntKind.i64.wrap (c+1))) (congrArg (Value.int .i64) (k7 (by omega) (by omega)))<|t1 2 (.int .i64 (-(c+1))) (.int .i64 (IntKind.i64.wrap (0 - (c+1)))) (congrArg (Value.int .i64) ((k7 (by omega) (by omega)).trans (by omega)))<|sE [(0,.int .i64 (-(c+1)))] fun a b=>tK<|qS b<|t1 2 (.int .i64 (((cq c 5):Nat):Int)) (.int .i64 (Int.tmod ((-(c+1))) 5)) (congrArg (Value.int .i64) ((congrArg (fun x=>Int.tmod x 5) (show((-(c+1)):Int)=((((-(c+1)):Int).toNat :Nat):Int) by omega)).trans ((iX _ 5).trans (by rw[hk])))) ?_
  exact sT [(4,nV (cq c 5))] fun a b=>cR<|rT 4 (nV (cq c 5)) b<|⟨rfl,rfl⟩
 ·have hk:=oF 5 d
  refine cN<|tK<|qS b<|t1 2 (.int .i64 (((cq c 5):Nat):Int)) (.int .i64 (Int.tmod (c) 5)) (congrArg (Value.int .i64) ((congrArg (fun x=>Int.tmod x 5) (show(c:Int)=(((c:Int).toNat :Nat):Int) by omega)).trans ((iX _ 5).trans (by rw[hk]))))<|sT [(4,nV (cq c 5))] fun a b=>cR<|rT 4 (nV (cq c 5)) b ?_
  exact⟨rfl,rfl⟩
theorem Bj(h:Heap)(c:Int)(h1: -9223372036854775808≤c)(h2:c≤9223372036854775807):Sat Tryz.prog 12 #[.int .i64 c,.int .i64 7] h fun v h'=>v= .int .i64 ((cq c 7:Nat):Int)∧h'=h:=by
 refine ag Tryz.func12 13 fun a b=>qP [] b fun a b=>cS<|qP [(6,.bool (decide (c<(0:Int))))] b fun a b=>cJ 6 b (fun d=> ?_) fun d=> ?_
 ·have hk:=oE 7 d
  refine rS b<|t1 1 (.int .i64 (c+1)) (.int .i64 (IntKind.i64.wrap (c+1))) (congrArg (Value.int .i64) (k7 (by omega) (by omega)))<|t1 2 (.int .i64 (-(c+1))) (.int .i64 (IntKind.i64.wrap (0 - (c+1)))) (congrArg (Value.int .i64) ((k7 (by omega) (by omega)).trans (by omega)))<|sE [(0,.int .i64 (-(c+1)))] fun a b=>tK<|qS b<|t1 2 (.int .i64 (((cq c 7):Nat):Int)) (.int .i64 (Int.tmod ((-(c+1))) 7)) (congrArg (Value.int .i64) ((congrArg (fun x=>Int.tmod x 7) (show((-(c+1)):Int)=((((-(c+1)):Int).toNat :Nat):Int) by omega)).trans ((iX _ 7).trans (by rw[hk])))) ?_
  exact sT [(4,nV (cq c 7))] fun a b=>cR<|rT 4 (nV (cq c 7)) b<|⟨rfl,rfl⟩
 ·have hk:=oF 7 d
  refine cN<|tK<|qS b<|t1 2 (.int .i64 (((cq c 7):Nat):Int)) (.int .i64 (Int.tmod (c) 7)) (congrArg (Value.int .i64) ((congrArg (fun x=>Int.tmod x 7) (show(c:Int)=(((c:Int).toNat :Nat):Int) by omega)).trans ((iX _ 7).trans (by rw[hk]))))<|sT [(4,nV (cq c 7))] fun a b=>cR<|rT 4 (nV (cq c 7)) b ?_
  exact⟨rfl,rfl⟩
noncomputable def b11:Code:=Tryz.f11.body.getD .skip
set_option maxHeartbeats 2000000 in
set_option maxRecDepth 10000 in
theorem rW(h:Heap)(L:List e9)(la:Option Addr)(lc:Nat)(hll:Row h (.slice la L.length lc) L.length 5 (iA L))(ho:∀o∈L,uA h o∧o.l.length ≤1048576)(hlb:L.length ≤1048576)(V:List Lk)(va:Option Addr)(vc:Nat)(hvv:Row h (.slice va V.length vc) V.length 3 (tn V))(hv:∀x∈V,lV x)(kt:bl h):Sat Tryz.prog 11 #[.slice la L.length lc,.slice va V.length vc] h fun v h'=>∃Out ad cap,v= .slice ad L.length cap∧Out.length =L.length ∧(∀j,j<L.length →(Out.getD j e_).X =oG L V j)∧Own h' (.slice ad L.length cap) 47 L.length 75 (bI Out)∧cW h' Out∧jM Out∧(∀k,ad.map (·.block)=some k→h.size ≤k)∧Ext h h':=by
 have G:=Ext.refl h
 have nQ:=kt.lt
 have q:Sep h.size h.size []:=Sep.nil _ _
 refine ag Tryz.func11 169 fun a hF=>qP [] hF fun a hF=>qS hF<|tG 0 (DA _ (by have:=G.size;omega)) ?_
 rintro _ h1 ⟨rb,rfl,J,hr1,g⟩
 replace G:=G.ext g
 replace kt:=kt.ext g
 replace q:=q.up g.size
 clear g
 refine sT [(5,pV rb)] fun a hF=>qP [(6,.bool false)] hF fun a hF=>qP [(7,.bool false)] hF fun a hF=>qS hF<|tN 0 (.slice (some ⟨h1.size,0,none⟩) 0 0) #[] 47 fun h2 g3 m4=> ?_
 replace q:=q.nw G.size m4
 have d:Own h2 (.slice (some ⟨h1.size,0,none⟩) 0 0) 47 ([]:List dL).length 75 (bI []):=Own.empty 75 m4
 replace q:Sep h.size h2.size [(some ⟨h1.size,0,none⟩:Option Addr).map (·.block)]:=q
 replace G:=G.ext g3
 replace kt:=kt.ext g3
 replace J:=J.ext g3
 clear m4
 refine sT [(8,.slice (some ⟨h1.size,0,none⟩) 0 0)] fun a hF=>cS<|qP [(9,.int .i64 0)] hF fun a hF=>cB 0 ?_
 have u:cW h2 []:=cW.nil _
 refine cL (fun m a h'=>∃k:Nat,∃S:j9,∃Out:List dL,∃ad:Option Addr,∃cap:Nat,m=L.length - k∧(Ext h h')∧(bl h')∧(k≤L.length)∧(kR L V k=S)∧(Out.length =k)∧(∀j,j<k→(Out.getD j e_).X =oG L V j)∧(S.M.E.length ≤k)∧(bB (fun _=>False) h' rb S.M)∧(jM Out)∧(cW h' Out)∧(Own h' (.slice ad k cap) 47 k 75 (bI Out))∧(Sep h.size h'.size [ad.map (·.block)])∧(Fr a 169 [(0,.slice la L.length lc),(1,.slice va V.length vc),(5,.pointer (some ⟨rb,0,none⟩)),(6,.bool S.off),(7,.bool S.aD),(8,.slice ad k cap),(9,.int .i64 ((k:Nat):Int))])) (L.length - 0) ⟨0,⟨M0,false,false⟩,[],(some ⟨h1.size,0,none⟩),0,rfl,G,kt,(Nat.zero_le _),rfl,rfl,(fun j hj=>absurd hj (Nat.not_lt_zero j)),(Nat.le_refl _),J,(fun r hr=>by cases hr),u,d,q,hF.to⟩ ?_
 clear hF a
 clear G
 clear kt
 clear J
 clear u
 clear d
 clear q
 rintro m a h7 ⟨k,S,Out,ad,cap,rfl,G,kt,hk,hS,hol,hon,hEk,J,hbd,u,d,q,hF⟩
 refine cS<|qP [(21,.bool (decide (((k:Nat):Int)<((L.length :Nat):Int))))] hF fun a hF=>cJ 21 hF (fun hc8=> ?_) fun hc8=> ?_
 ·have hkn:k<L.length :=by omega
  have hFn:=hF
  obtain⟨al,rfl,AR⟩:=hll.bg (by omega)
  have hF:=hFn;clear hFn
  obtain⟨x,hx⟩:∃x,L.getD k fC=x:=⟨_,rfl⟩
  obtain⟨hox,hxl⟩:uA h x∧x.l.length ≤1048576:=hx▸sY ho hkn
  obtain⟨y,hy⟩:∃y,V.getD k lS=y:=⟨_,rfl⟩
  obtain⟨N,X,hs⟩:∃N X,step S.M x.kd x.n x.s x.l =(N,X):=⟨_,_,rfl⟩
  have hEd:N.E.length ≤S.M.E.length +1:=by have:=n9 S.M x.kd x.n x.s x.l;rw[hs] at this;exact this
  have HK:B1 X:=by have:=vh J (by omega) x.kd x.n x.s x.l;rw[hs] at this;exact this
  have hrk:=J.kb
  refine cN<|tK<|cS<|cB 1<|qS hF<|tI 2 al L.length 5 k (k*5)<|tC 3 (.agg #[.int .i64 x.kd,.string x.s,.slice x.oa x.l.length x.oc,.int .i64 x.n,.slice x.ka x.kn x.kc]) (Calm.load (T:=35) (p:=(Addr.add al (k*5))) (by kernel_rfl) (AV hx (hll.ext G) (by kernel_rfl) hkn (by first|rfl|omega))) ?_
  refine tN 4 (pV h7.size) #[.int .i64 0,.string ByteArray.empty,.slice none 0 0,.int .i64 0,.slice none 0 0] 35 fun h9 g10 t=> ?_
  replace q:=q.nw G.size t
  refine bA 5 [.int .i64 x.kd,.string x.s,.slice x.oa x.l.length x.oc,.int .i64 x.n,.slice x.ka x.kn x.kc] t fun kA g15 zq=> ?_
  replace J:=J.ext g10
  replace J:=J.vg g15 t ⟨by decide,by decide⟩ (by decide)
  replace u:=u.ext g10
  replace u:=u.aO g15 t (by decide)
  replace t:=zq
  refine sT [(10,pV h7.size)] fun a hF=>qS hF<|tN 1 (pV kA.size) #[.int .i64 0,.int .i64 0,.int .i64 0] 80 fun h16 g17 m18=> ?_
  replace G:=(G.ext g10).grew g15 (q.l 0)
  replace q:=(q.up g15.size).nw G.size m18
  refine bA 2 [.int .i64 3,.int .i64 1,.int .i64 0] m18 fun h21 g22 zq=> ?_
  replace J:=J.ext g17
  replace J:=J.vg g22 m18 ⟨by decide,by decide⟩ (by decide)
  replace u:=u.ext g17
  replace u:=u.aO g22 m18 (by decide)
  replace m18:=zq
  refine sT [(11,pV kA.size)] fun a hF=>cS ?_
  replace kt:=(((kt.ext g10).grew g15 (q.zero 1 rfl nQ)).ext g17).grew g22 (q.zero 0 rfl nQ)
  replace d:=(((d.ext g10).k g15 (q.ap 2 1)).ext g17).k g22 (q.ap 2 0)
  replace G:=(G.ext g17).grew g22 (q.l 0)
  replace t:=(t.x g17).y g22 (q.bp 1 0)
  replace q:=q.up g22.size
  refine C.mono (K:=fun e a h'=>e= .normal ∧(Ext h h')∧(bl h')∧(lV y)∧(bB (fun _=>False) h' rb S.M)∧(cW h' Out)∧(Own h' (.slice ad k cap) 47 k 75 (bI Out))∧(Sep h.size h'.size [some (kA.size),some (h7.size),ad.map (·.block)])∧(h'[h7.size]? =some (.cells #[.int .i64 x.kd,.string x.s,.slice x.oa x.l.length x.oc,.int .i64 x.n,.slice x.ka x.kn x.kc] 35))∧(h'[kA.size]? =some (.cells #[.int .i64 y.dark,.int .i64 y.full,.int .i64 y.work] 80))∧Fr a 169 [(0,.slice (some al) L.length lc),(1,.slice va V.length vc),(5,.pointer (some ⟨rb,0,none⟩)),(6,.bool S.off),(7,.bool S.aD),(8,.slice ad k cap),(9,.int .i64 ((k:Nat):Int)),(10,.pointer (some ⟨h7.size,0,none⟩)),(11,.pointer (some ⟨kA.size,0,none⟩))]) ?_ ?_
  ·refine qP [(32,.bool (decide (((k:Nat):Int)<((V.length :Nat):Int))))] hF fun a hF=>cJ 32 hF (fun CY=> ?_) fun CY=> ?_
   ·have hFn:=hF
    obtain⟨av,rfl,HL⟩:=hvv.bg (by omega)
    have hF:=hFn;clear hFn
    have hkv:k<V.length :=by omega
    have hya:lV y:=hy▸Bd hv hkv
    refine rS hF<|tI 2 av V.length 3 k (k*3)<|tC 3 (.agg #[.int .i64 y.dark,.int .i64 y.full,.int .i64 y.work]) (Calm.load (T:=80) (p:=(Addr.add av (k*3))) (by kernel_rfl) (Be hy (hvv.ext G) (by kernel_rfl) hkv (by first|rfl|omega)))<|bA 4 [.int .i64 y.dark,.int .i64 y.full,.int .i64 y.work] m18 fun Bv mX zq=> ?_
    replace J:=J.vg mX m18 ⟨by decide,by decide⟩ (by decide)
    replace u:=u.aO mX m18 (by decide)
    replace m18:=zq
    refine sE [] fun a hF=> ?_
    replace G:=G.grew mX (q.l 0)
    replace kt:=kt.grew mX (q.zero 0 rfl nQ)
    replace d:=d.k mX (q.ap 2 0)
    replace t:=t.y mX (q.bp 1 0)
    replace q:=q.up mX.size
    exact⟨rfl,G,kt,hya,J,u,d,q,t,m18,hF.to⟩
   ·have hy0:y=lS:=hy▸DO (by omega);have hya:lV y:=hy0▸G7
    replace m18:h21[kA.size]? =some (.cells #[.int .i64 y.dark,.int .i64 y.full,.int .i64 y.work] 80):=by rw[hy0];exact m18
    exact cN<|⟨rfl,G,kt,hya,J,u,d,q,t,m18,hF.to⟩
  ·clear G kt J u d t m18
   rintro e a kg ⟨rfl,G,kt,hya,J,u,d,q,t,m18,hF⟩
   refine tK<|cS<|C.mono (K:=fun e a hJ=>e= .normal ∧kg=hJ∧∃(un:Unit),True∧Fr a 169 [(0,.slice (some al) L.length lc),(1,.slice va V.length vc),(5,.pointer (some ⟨rb,0,none⟩)),(6,.bool S.off),(7,.bool S.aD),(8,.slice ad k cap),(9,.int .i64 ((k:Nat):Int)),(10,.pointer (some ⟨h7.size,0,none⟩)),(11,.pointer (some ⟨kA.size,0,none⟩)),(12,.bool ((au x.kd).1))]) ?_ ?_
   ·rcases(by omega:1≤x.kd ∧x.kd ≤9∨x.kd =11∨x.kd =15∨x.kd =16∨x.kd <1∨10≤x.kd ∧x.kd ≠11∧x.kd ≠15∧x.kd ≠16) with Z|Z|Z|Z|Z|Z
    ·have hkc:(au x.kd).1 =true:=by exact(if hq:x.kd =1∨x.kd =4∨x.kd =5∨x.kd =6 then (by rw[cu hq]) else (by rw[bT hq (by omega)]))
     refine rS hF<|tO 1 0 t<|tT 2 ((1:Int)≤x.kd)<|tO 5 0 t<|tT 6 (x.kd ≤(9:Int))<|t1 23 (.bool ((au x.kd).1)) (.bool true) (congrArg Value.bool hkc.symm)<|sE [(12,.bool ((au x.kd).1))] fun a hF=> ?_
     exact⟨rfl,rfl,⟨⟩,trivial,hF.to⟩
    ·have hkc:(au x.kd).1 =true:=by exact(if hq:x.kd =1∨x.kd =4∨x.kd =5∨x.kd =6 then (by rw[cu hq]) else (by rw[bT hq (by omega)]))
     refine rS hF<|tO 1 0 t<|tT 2 ((1:Int)≤x.kd)<|tO 5 0 t<|tX 6 (x.kd ≤(9:Int))<|tO 10 0 t<|eT 11 x.kd 11 ?_
     exact t1 23 (.bool ((au x.kd).1)) (.bool true) (congrArg Value.bool hkc.symm)<|sE [(12,.bool ((au x.kd).1))] fun a hF=>⟨rfl,rfl,⟨⟩,trivial,hF.to⟩
    ·have hkc:(au x.kd).1 =true:=by exact(if hq:x.kd =1∨x.kd =4∨x.kd =5∨x.kd =6 then (by rw[cu hq]) else (by rw[bT hq (by omega)]))
     refine rS hF<|tO 1 0 t<|tT 2 ((1:Int)≤x.kd)<|tO 5 0 t<|tX 6 (x.kd ≤(9:Int))<|tO 10 0 t<|eF 11 x.kd 11 ?_
     exact tO 15 0 t<|eT 16 x.kd 15<|t1 23 (.bool ((au x.kd).1)) (.bool true) (congrArg Value.bool hkc.symm)<|sE [(12,.bool ((au x.kd).1))] fun a hF=>⟨rfl,rfl,⟨⟩,trivial,hF.to⟩
    ·have hkc:(au x.kd).1 =true:=by exact(if hq:x.kd =1∨x.kd =4∨x.kd =5∨x.kd =6 then (by rw[cu hq]) else (by rw[bT hq (by omega)]))
     refine rS hF<|tO 1 0 t<|tT 2 ((1:Int)≤x.kd)<|tO 5 0 t<|tX 6 (x.kd ≤(9:Int))<|tO 10 0 t<|eF 11 x.kd 11 ?_
     exact tO 15 0 t<|eF 16 x.kd 15<|tO 20 0 t<|eT 21 x.kd 16<|t1 23 (.bool ((au x.kd).1)) (.bool true) (congrArg Value.bool hkc.symm)<|sE [(12,.bool ((au x.kd).1))] fun a hF=>⟨rfl,rfl,⟨⟩,trivial,hF.to⟩
    ·have hkc:(au x.kd).1 =false:=by rw[dX (by omega) (by omega)]
     refine rS hF<|tO 1 0 t<|tX 2 ((1:Int)≤x.kd)<|tO 10 0 t<|eF 11 x.kd 11<|tO 15 0 t<|eF 16 x.kd 15 ?_
     exact tO 20 0 t<|eF 21 x.kd 16<|t1 23 (.bool ((au x.kd).1)) (.bool false) (congrArg Value.bool hkc.symm)<|sE [(12,.bool ((au x.kd).1))] fun a hF=>⟨rfl,rfl,⟨⟩,trivial,hF.to⟩
    ·have hkc:(au x.kd).1 =false:=by rw[dX (by omega) (by omega)]
     refine rS hF<|tO 1 0 t<|tT 2 ((1:Int)≤x.kd)<|tO 5 0 t<|tX 6 (x.kd ≤(9:Int))<|tO 10 0 t<|eF 11 x.kd 11 ?_
     exact tO 15 0 t<|eF 16 x.kd 15<|tO 20 0 t<|eF 21 x.kd 16<|t1 23 (.bool ((au x.kd).1)) (.bool false) (congrArg Value.bool hkc.symm)<|sE [(12,.bool ((au x.kd).1))] fun a hF=>⟨rfl,rfl,⟨⟩,trivial,hF.to⟩
   ·rintro e a _ ⟨rfl,rfl,⟨⟩,hjn,hF⟩
    refine tK<|cS<|C.mono (K:=fun e a hJ=>e= .normal ∧kg=hJ∧∃(un:Unit),True∧Fr a 169 [(0,.slice (some al) L.length lc),(1,.slice va V.length vc),(5,.pointer (some ⟨rb,0,none⟩)),(6,.bool S.off),(7,.bool S.aD),(8,.slice ad k cap),(9,.int .i64 ((k:Nat):Int)),(10,.pointer (some ⟨h7.size,0,none⟩)),(11,.pointer (some ⟨kA.size,0,none⟩)),(12,.bool ((au x.kd).1)),(13,.bool ((au x.kd).2))]) ?_ ?_
    ·rcases(by omega:x.kd =1∨x.kd =4∨x.kd =5∨x.kd =6∨¬(x.kd =1∨x.kd =4∨x.kd =5∨x.kd =6)) with Z|Z|Z|Z|Z
     ·have hkc:(au x.kd).2 =true:=by rw[cu (by omega)]
      exact rS hF<|tO 1 0 t<|eT 2 x.kd 1<|t1 18 (.bool ((au x.kd).2)) (.bool true) (congrArg Value.bool hkc.symm)<|sE [(13,.bool ((au x.kd).2))] fun a hF=>⟨rfl,rfl,⟨⟩,trivial,hF.to⟩
     ·have hkc:(au x.kd).2 =true:=by rw[cu (by omega)]
      refine rS hF<|tO 1 0 t<|eF 2 x.kd 1<|tO 5 0 t<|eT 6 x.kd 4<|t1 18 (.bool ((au x.kd).2)) (.bool true) (congrArg Value.bool hkc.symm)<|sE [(13,.bool ((au x.kd).2))] fun a hF=> ?_
      exact⟨rfl,rfl,⟨⟩,trivial,hF.to⟩
     ·have hkc:(au x.kd).2 =true:=by rw[cu (by omega)]
      refine rS hF<|tO 1 0 t<|eF 2 x.kd 1<|tO 5 0 t<|eF 6 x.kd 4<|tO 10 0 t<|eT 11 x.kd 5 ?_
      exact t1 18 (.bool ((au x.kd).2)) (.bool true) (congrArg Value.bool hkc.symm)<|sE [(13,.bool ((au x.kd).2))] fun a hF=>⟨rfl,rfl,⟨⟩,trivial,hF.to⟩
     ·have hkc:(au x.kd).2 =true:=by rw[cu (by omega)]
      refine rS hF<|tO 1 0 t<|eF 2 x.kd 1<|tO 5 0 t<|eF 6 x.kd 4<|tO 10 0 t<|eF 11 x.kd 5 ?_
      exact tO 15 0 t<|eT 16 x.kd 6<|t1 18 (.bool ((au x.kd).2)) (.bool true) (congrArg Value.bool hkc.symm)<|sE [(13,.bool ((au x.kd).2))] fun a hF=>⟨rfl,rfl,⟨⟩,trivial,hF.to⟩
     ·have hkc:(au x.kd).2 =false:=by exact(if hq:x.kd =2∨x.kd =3∨x.kd =7∨x.kd =8∨x.kd =9∨x.kd =11∨x.kd =15∨x.kd =16 then (by rw[bT Z hq]) else (by rw[dX Z hq]))
      refine rS hF<|tO 1 0 t<|eF 2 x.kd 1<|tO 5 0 t<|eF 6 x.kd 4<|tO 10 0 t<|eF 11 x.kd 5 ?_
      exact tO 15 0 t<|eF 16 x.kd 6<|t1 18 (.bool ((au x.kd).2)) (.bool false) (congrArg Value.bool hkc.symm)<|sE [(13,.bool ((au x.kd).2))] fun a hF=>⟨rfl,rfl,⟨⟩,trivial,hF.to⟩
    ·rintro e a _ ⟨rfl,rfl,⟨⟩,hjn,hF⟩
     refine tK<|qS hF<|tO 1 0 m18<|tC 2 (nV (cq y.dark 4)) (Does.call (f:=12) (args:= #[.int .i64 y.dark,.int .i64 4]) (by kernel_rfl) (Bi _ y.dark hya.d1 hya.d2))<|sT [(14,nV (cq y.dark 4))] fun a hF=>cS<|C.mono (K:=fun e a hJ=>e= .normal ∧kg=hJ∧∃(un:Unit),True∧Fr a 169 [(0,.slice (some al) L.length lc),(1,.slice va V.length vc),(5,.pointer (some ⟨rb,0,none⟩)),(6,.bool ((b5 x.kd x.n S.off S.aD).1)),(7,.bool ((b5 x.kd x.n S.off S.aD).2)),(8,.slice ad k cap),(9,.int .i64 ((k:Nat):Int)),(10,.pointer (some ⟨h7.size,0,none⟩)),(11,.pointer (some ⟨kA.size,0,none⟩)),(12,.bool ((au x.kd).1)),(13,.bool ((au x.kd).2)),(14,.int .i64 (((cq y.dark 4):Nat):Int))]) ?_ ?_
     ·rcases yt S.off x.kd with hob|hob|hob|hob|hob|hob
      ·obtain⟨hof,Z⟩:=hob
       rw[hof] at hF
       have hpf:(b5 x.kd x.n S.off S.aD)=(false,decide (0≤x.n)):=by unfold b5;rw[hof];rw[if_pos ⟨Z,rfl⟩]
       refine cB 2<|qS hF<|tO 1 0 t<|eT 2 x.kd 12<|sT [(81,.bool true)] fun a hF=>cT 81 hF<|rS hF ?_
       refine tO 1 3 t<|sE [(7,.bool (decide ((0:Int)≤x.n)))] fun a hF=>bK<|⟨rfl,rfl,⟨⟩,trivial,?_⟩;rw[hpf];exact hF.to
      ·obtain⟨hof,Z⟩:=hob
       rw[hof] at hF
       have hpf:(b5 x.kd x.n S.off S.aD)=(false,false):=by unfold b5;rw[hof];rw[if_neg (by rintro⟨e,_⟩;omega),if_pos Z]
       refine cB 2<|qS hF<|tO 1 0 t<|eF 2 x.kd 12<|sT [(81,.bool false)] fun a hF=>cF 81 hF<|qS hF ?_
       refine tO 1 0 t<|eT 2 x.kd 13<|sT [(92,.bool true)] fun a hF=>cT 92 hF<|qP [(6,.bool false)] hF fun a hF=>rP [(7,.bool false)] hF fun a hF=>bK ?_
       refine⟨rfl,rfl,⟨⟩,trivial,?_⟩;rw[hpf];exact hF.to
      ·obtain⟨hof,Z⟩:=hob
       rw[hof] at hF
       have hpf:(b5 x.kd x.n S.off S.aD)=(false,S.aD):=by unfold b5;rw[hof];rw[if_neg (by rintro⟨e,e2⟩;first|omega|cases e2),if_neg (by omega)]
       refine cB 2<|qS hF<|tO 1 0 t<|eF 2 x.kd 12<|sT [(81,.bool false)] fun a hF=>cF 81 hF<|qS hF ?_
       refine tO 1 0 t<|eF 2 x.kd 13<|sT [(92,.bool false)] fun a hF=>cF 92 hF<|cN<|bK<|⟨rfl,rfl,⟨⟩,trivial,?_⟩;rw[hpf];exact hF.to
      ·obtain⟨hof,Z⟩:=hob
       rw[hof] at hF
       have hpf:(b5 x.kd x.n S.off S.aD)=(true,S.aD):=by unfold b5;rw[hof];rw[if_neg (by rintro⟨e,e2⟩;first|omega|cases e2),if_neg (by omega)]
       refine cB 2<|qS hF<|tO 1 0 t<|eT 2 x.kd 12<|sT [(81,.bool false)] fun a hF=>cF 81 hF<|qS hF ?_
       refine tO 1 0 t<|eF 2 x.kd 13<|sT [(92,.bool false)] fun a hF=>cF 92 hF<|cN<|bK<|⟨rfl,rfl,⟨⟩,trivial,?_⟩;rw[hpf];exact hF.to
      ·obtain⟨hof,Z⟩:=hob
       rw[hof] at hF
       have hpf:(b5 x.kd x.n S.off S.aD)=(false,false):=by unfold b5;rw[hof];rw[if_neg (by rintro⟨e,_⟩;omega),if_pos Z]
       refine cB 2<|qS hF<|tO 1 0 t<|eF 2 x.kd 12<|sT [(81,.bool false)] fun a hF=>cF 81 hF<|qS hF ?_
       refine tO 1 0 t<|eT 2 x.kd 13<|sT [(92,.bool true)] fun a hF=>cT 92 hF<|qP [(6,.bool false)] hF fun a hF=>rP [(7,.bool false)] hF fun a hF=>bK ?_
       refine⟨rfl,rfl,⟨⟩,trivial,?_⟩;rw[hpf];exact hF.to
      ·obtain⟨hof,Z⟩:=hob
       rw[hof] at hF
       have hpf:(b5 x.kd x.n S.off S.aD)=(true,S.aD):=by unfold b5;rw[hof];rw[if_neg (by rintro⟨e,e2⟩;first|omega|cases e2),if_neg (by omega)]
       refine cB 2<|qS hF<|tO 1 0 t<|eF 2 x.kd 12<|sT [(81,.bool false)] fun a hF=>cF 81 hF<|qS hF ?_
       refine tO 1 0 t<|eF 2 x.kd 13<|sT [(92,.bool false)] fun a hF=>cF 92 hF<|cN<|bK<|⟨rfl,rfl,⟨⟩,trivial,?_⟩;rw[hpf];exact hF.to
     ·rintro e a _ ⟨rfl,rfl,⟨⟩,hjn,hF⟩
      refine tK<|cS<|cS<|C.mono (K:=fun e a hJ=>e= .normal ∧kg=hJ∧∃(un:Unit),True∧Fr a 169 [(0,.slice (some al) L.length lc),(1,.slice va V.length vc),(5,.pointer (some ⟨rb,0,none⟩)),(6,.bool ((b5 x.kd x.n S.off S.aD).1)),(7,.bool ((b5 x.kd x.n S.off S.aD).2)),(8,.slice ad k cap),(9,.int .i64 ((k:Nat):Int)),(10,.pointer (some ⟨h7.size,0,none⟩)),(11,.pointer (some ⟨kA.size,0,none⟩)),(13,.bool ((au x.kd).2)),(14,.int .i64 (((cq y.dark 4):Nat):Int)),(106,.bool (decide (jP x S y)))]) ?_ ?_
      ·rcases Bf (au x.kd).1 (b5 x.kd x.n S.off S.aD).1 (b5 x.kd x.n S.off S.aD).2 (cq y.dark 4) with h1|⟨h1,h2⟩|⟨h1,h2,h3⟩|⟨h1,h2,h3,h4⟩|⟨h1,h2,h3,h4⟩
       ·have Bk:¬jP x S y:=fun e=>by have e1:=h1.symm.trans e.1;cases e1
        exact rS hF<|t1 1 (.bool false) (.bool ((au x.kd).1)) (congrArg Value.bool h1)<|t1 10 (.bool (decide (jP x S y))) (.bool false) (congrArg Value.bool (decide_eq_false Bk).symm)<|sE [(106,.bool (decide (jP x S y)))] fun a hF=>⟨rfl,rfl,⟨⟩,trivial,hF.to⟩
       ·have Bk:jP x S y:=⟨h1,.inl h2⟩
        exact rS hF<|t1 1 (.bool true) (.bool ((au x.kd).1)) (congrArg Value.bool h1)<|t1 3 (.bool true) (.bool ((b5 x.kd x.n S.off S.aD).1)) (congrArg Value.bool h2)<|t1 10 (.bool (decide (jP x S y))) (.bool true) (congrArg Value.bool (decide_eq_true Bk).symm)<|sE [(106,.bool (decide (jP x S y)))] fun a hF=>⟨rfl,rfl,⟨⟩,trivial,hF.to⟩
       ·have Bk:¬jP x S y:=fun e=>e.2.elim (fun e=>by have e1:=h2.symm.trans e;cases e1) fun e=>by have e1:=h3.symm.trans e.1;cases e1
        exact rS hF<|t1 1 (.bool true) (.bool ((au x.kd).1)) (congrArg Value.bool h1)<|t1 3 (.bool false) (.bool ((b5 x.kd x.n S.off S.aD).1)) (congrArg Value.bool h2)<|t1 5 (.bool false) (.bool ((b5 x.kd x.n S.off S.aD).2)) (congrArg Value.bool h3)<|t1 10 (.bool (decide (jP x S y))) (.bool false) (congrArg Value.bool (decide_eq_false Bk).symm)<|sE [(106,.bool (decide (jP x S y)))] fun a hF=>⟨rfl,rfl,⟨⟩,trivial,hF.to⟩
       ·have Bk:jP x S y:=⟨h1,.inr ⟨h3,h4⟩⟩
        refine rS hF<|t1 1 (.bool true) (.bool ((au x.kd).1)) (congrArg Value.bool h1)<|t1 3 (.bool false) (.bool ((b5 x.kd x.n S.off S.aD).1)) (congrArg Value.bool h2)<|t1 5 (.bool true) (.bool ((b5 x.kd x.n S.off S.aD).2)) (congrArg Value.bool h3)<|tT 7 ((((cq y.dark 4):Nat):Int)<(2:Int))<|t1 10 (.bool (decide (jP x S y))) (.bool true) (congrArg Value.bool (decide_eq_true Bk).symm)<|sE [(106,.bool (decide (jP x S y)))] fun a hF=> ?_
        exact⟨rfl,rfl,⟨⟩,trivial,hF.to⟩
       ·have Bk:¬jP x S y:=fun e=>e.2.elim (fun e=>by have e1:=h2.symm.trans e;cases e1) fun e=>h4 e.2
        refine rS hF<|t1 1 (.bool true) (.bool ((au x.kd).1)) (congrArg Value.bool h1)<|t1 3 (.bool false) (.bool ((b5 x.kd x.n S.off S.aD).1)) (congrArg Value.bool h2)<|t1 5 (.bool true) (.bool ((b5 x.kd x.n S.off S.aD).2)) (congrArg Value.bool h3)<|tX 7 ((((cq y.dark 4):Nat):Int)<(2:Int))<|t1 10 (.bool (decide (jP x S y))) (.bool false) (congrArg Value.bool (decide_eq_false Bk).symm)<|sE [(106,.bool (decide (jP x S y)))] fun a hF=> ?_
        exact⟨rfl,rfl,⟨⟩,trivial,hF.to⟩
      ·rintro e a _ ⟨rfl,rfl,⟨⟩,hjn,hF⟩
       refine tK<|cJ 106 hF (fun hc27=> ?_) fun hc27=> ?_
       ·refine cS<|cS ?_
        rcases yu (b5 x.kd x.n S.off S.aD).1 (au x.kd).2 (cq y.dark 4) with h1|⟨h1,h2⟩|⟨h1,h2,h3⟩|⟨h1,h2,h3⟩
        ·have R:ft S x y=(⟨S.M,true,(b5 x.kd x.n S.off S.aD).2⟩,b8 2):=DR hc27 h1 rfl
         refine rS hF<|t1 0 (.bool true) (.bool ((b5 x.kd x.n S.off S.aD).1)) (congrArg Value.bool h1)<|sE [(115,.bool false)] fun a hF=>tK<|cF 115 hF<|cN<|tK ?_
         refine qP [(6,.bool true)] hF fun a hF=>qS hF<|tN 2 (.slice (some ⟨kg.size,0,none⟩) 1 1) ((bI [aX 2]).toArray) 47 fun h28 qi KL=> ?_
         replace q:=q.nw G.size KL
         replace G:=G.ext qi
         replace kt:=kt.ext qi
         replace d:=d.ext qi
         replace J:=J.ext qi
         replace u:=u.ext qi
         have H:cW h28 (Out++[aX 2]):=u.snoc (fL _ 2)
         refine tP 3 (k+1) 192 (bI (Out++[aX 2])) d (Row.blk (n:=1) (sz:=75) (l:=bI [aX 2]) KL rfl) (dJ _) (fun DV B2 h37 I A5 yk=> ?_) (ys:=(bI ([aX 2]))) (hZ:=by first|rfl|exact List.flatMap_append.symm |simp[bI])
         replace J:=J.eX A5 d (af ..) (by decide) (by decide) (by decide)
         replace H:=H.eX A5 d (af ..) (by decide)
         have GX:=q
         replace q:=q.sa A5 3 yk I G.size;clear yk
         replace d:=I;clear I
         have hS2:kR L V (k+1)=(⟨S.M,true,(b5 x.kd x.n S.off S.aD).2⟩:j9):=by show(ft (kR L V k) (L.getD k fC) (V.getD k lS)).1 =_;rw[hS,hx,hy,R]
         have U:jM (Out++[aX 2]):=hbd.snoc (DQ _)
         have W:S.M.E.length ≤k+1:=by omega
         have Y:=dK (r:=aX 2) hol hon (by unfold oG;rw[hS,hx,hy,R])
         refine sT [(8,.slice DV (k+1) B2)] fun a hF=>cX 1 (xT (xB ?_))
         refine tK<|rS hF<|tA 1 k 1<|sE [(9,nV (k+1))] fun a hF=> ?_
         clear t
         clear m18
         clear KL
         replace G:=G.grew A5 (GX.l 3)
         replace kt:=kt.grew A5 (GX.zero 3 rfl nQ)
         replace q:=q.sub (l':=[DV.map (·.block)]) (.cons _ (.cons _ (.cons _ (.cons_cons _ (.slnil)))))
         show ∃m',m'<_∧_
         refine⟨_,?_,(k+1),(⟨S.M,true,(b5 x.kd x.n S.off S.aD).2⟩:j9),(Out++[aX 2]),DV,B2,rfl,G,kt,(by omega),hS2,(by rw[List.length_append,hol];rfl),Y,W,J,U,H,d,q,hF.to⟩
         omega
        ·have R:ft S x y=(⟨S.M,true,(b5 x.kd x.n S.off S.aD).2⟩,b8 2):=yw hc27 (fun e=>by have e1:=h2.symm.trans e.1;cases e1) rfl
         refine rS hF<|t1 0 (.bool false) (.bool ((b5 x.kd x.n S.off S.aD).1)) (congrArg Value.bool h1)<|t1 3 (.bool false) (.bool ((au x.kd).2)) (congrArg Value.bool h2)<|sE [(115,.bool false)] fun a hF=>tK<|cF 115 hF<|cN ?_
         refine tK<|qP [(6,.bool true)] hF fun a hF=>qS hF<|tN 2 (.slice (some ⟨kg.size,0,none⟩) 1 1) ((bI [aX 2]).toArray) 47 fun uN xf Eg=> ?_
         replace q:=q.nw G.size Eg
         replace G:=G.ext xf
         replace kt:=kt.ext xf
         replace d:=d.ext xf
         replace J:=J.ext xf
         replace u:=u.ext xf
         have H:cW uN (Out++[aX 2]):=u.snoc (fL _ 2)
         refine tP 3 (k+1) 192 (bI (Out++[aX 2])) d (Row.blk (n:=1) (sz:=75) (l:=bI [aX 2]) Eg rfl) (dJ _) (fun AX x9 h48 I B0 G_=> ?_) (ys:=(bI ([aX 2]))) (hZ:=by first|rfl|exact List.flatMap_append.symm |simp[bI])
         replace J:=J.eX B0 d (af ..) (by decide) (by decide) (by decide)
         replace H:=H.eX B0 d (af ..) (by decide)
         have s49:=q
         replace q:=q.sa B0 3 G_ I G.size;clear G_
         replace d:=I;clear I
         have hS2:kR L V (k+1)=(⟨S.M,true,(b5 x.kd x.n S.off S.aD).2⟩:j9):=by show(ft (kR L V k) (L.getD k fC) (V.getD k lS)).1 =_;rw[hS,hx,hy,R]
         have U:jM (Out++[aX 2]):=hbd.snoc (DQ _)
         have W:S.M.E.length ≤k+1:=by omega
         have Y:=dK (r:=aX 2) hol hon (by unfold oG;rw[hS,hx,hy,R])
         refine sT [(8,.slice AX (k+1) x9)] fun a hF=>cX 1 (xT (xB ?_))
         refine tK<|rS hF<|tA 1 k 1<|sE [(9,nV (k+1))] fun a hF=> ?_
         clear t
         clear m18
         clear Eg
         replace G:=G.grew B0 (s49.l 3)
         replace kt:=kt.grew B0 (s49.zero 3 rfl nQ)
         replace q:=q.sub (l':=[AX.map (·.block)]) (.cons _ (.cons _ (.cons _ (.cons_cons _ (.slnil)))))
         show ∃m',m'<_∧_
         refine⟨_,?_,(k+1),(⟨S.M,true,(b5 x.kd x.n S.off S.aD).2⟩:j9),(Out++[aX 2]),AX,x9,rfl,G,kt,(by omega),hS2,(by rw[List.length_append,hol];rfl),Y,W,J,U,H,d,q,hF.to⟩
         omega
        ·have R:ft S x y=(⟨N,true,(b5 x.kd x.n S.off S.aD).2⟩,b8 2):=G8 hc27 h1 h2 h3 hs rfl
         refine rS hF<|t1 0 (.bool false) (.bool ((b5 x.kd x.n S.off S.aD).1)) (congrArg Value.bool h1)<|t1 3 (.bool true) (.bool ((au x.kd).2)) (congrArg Value.bool h2)<|eT 7 (((cq y.dark 4):Nat):Int) 0<|sE [(115,.bool true)] fun a hF=>tK<|cT 115 hF ?_
         refine rS hF<|tR 1 t ?_
         have OF:=J.kb
         refine tG 2 (oB _ rb S.M J x.kd x.n x.s x.l _ _ x.ka x.kn x.kc (hox.ext G).1 hox.2 (by omega) N X hs) ?_
         rintro _ Bw ⟨OG,OH,OI,OJ,OK,OL,rfl,_,_,_,_,m2,gm⟩
         replace u:=u.rg gm J;replace d:=d.rg gm J (by decide)
         replace G:=Gr.dj G gm (by rintro i rfl;omega);replace kt:=kt.gr gm (by intro e;omega)
         replace q:=q.up gm.1;clear J;have J:bB (fun _=>False) Bw rb N:=m2;clear m2;clear gm
         refine sE [] fun a hF=>tK<|qP [(6,.bool true)] hF fun a hF=>qS hF<|tN 2 (.slice (some ⟨Bw.size,0,none⟩) 1 1) ((bI [aX 2]).toArray) 47 fun Hw rp KM=> ?_
         replace q:=q.nw G.size KM
         replace G:=G.ext rp
         replace kt:=kt.ext rp
         replace d:=d.ext rp
         replace J:=J.ext rp
         replace u:=u.ext rp
         have H:cW Hw (Out++[aX 2]):=u.snoc (fL _ 2)
         refine tP 3 (k+1) 192 (bI (Out++[aX 2])) d (Row.blk (n:=1) (sz:=75) (l:=bI [aX 2]) KM rfl) (dJ _) (fun DW B3 h68 I zf G'=> ?_) (ys:=(bI ([aX 2]))) (hZ:=by first|rfl|exact List.flatMap_append.symm |simp[bI])
         replace J:=J.eX zf d (af ..) (by decide) (by decide) (by decide)
         replace H:=H.eX zf d (af ..) (by decide)
         have L9:=q
         replace q:=q.sa zf 3 G' I G.size;clear G'
         replace d:=I;clear I
         have hS2:kR L V (k+1)=(⟨N,true,(b5 x.kd x.n S.off S.aD).2⟩:j9):=by show(ft (kR L V k) (L.getD k fC) (V.getD k lS)).1 =_;rw[hS,hx,hy,R]
         have U:jM (Out++[aX 2]):=hbd.snoc (DQ _)
         have W:N.E.length ≤k+1:=by omega
         have Y:=dK (r:=aX 2) hol hon (by unfold oG;rw[hS,hx,hy,R])
         refine sT [(8,.slice DW (k+1) B3)] fun a hF=>cX 1 (xT (xB ?_))
         refine tK<|rS hF<|tA 1 k 1<|sE [(9,nV (k+1))] fun a hF=> ?_
         clear t
         clear m18
         clear KM
         replace G:=G.grew zf (L9.l 3)
         replace kt:=kt.grew zf (L9.zero 3 rfl nQ)
         replace q:=q.sub (l':=[DW.map (·.block)]) (.cons _ (.cons _ (.cons _ (.cons_cons _ (.slnil)))))
         show ∃m',m'<_∧_
         refine⟨_,?_,(k+1),(⟨N,true,(b5 x.kd x.n S.off S.aD).2⟩:j9),(Out++[aX 2]),DW,B3,rfl,G,kt,(by omega),hS2,(by rw[List.length_append,hol];rfl),Y,W,J,U,H,d,q,hF.to⟩
         omega
        ·have R:ft S x y=(⟨S.M,true,(b5 x.kd x.n S.off S.aD).2⟩,b8 2):=yw hc27 (fun e=>h3 e.2) rfl
         refine rS hF<|t1 0 (.bool false) (.bool ((b5 x.kd x.n S.off S.aD).1)) (congrArg Value.bool h1)<|t1 3 (.bool true) (.bool ((au x.kd).2)) (congrArg Value.bool h2)<|eF 7 (((cq y.dark 4):Nat):Int) 0<|sE [(115,.bool false)] fun a hF=>tK<|cF 115 hF ?_
         refine cN<|tK<|qP [(6,.bool true)] hF fun a hF=>qS hF<|tN 2 (.slice (some ⟨kg.size,0,none⟩) 1 1) ((bI [aX 2]).toArray) 47 fun KX tE KN=> ?_
         replace q:=q.nw G.size KN
         replace G:=G.ext tE
         replace kt:=kt.ext tE
         replace d:=d.ext tE
         replace J:=J.ext tE
         replace u:=u.ext tE
         have H:cW KX (Out++[aX 2]):=u.snoc (fL _ 2)
         refine tP 3 (k+1) 192 (bI (Out++[aX 2])) d (Row.blk (n:=1) (sz:=75) (l:=bI [aX 2]) KN rfl) (dJ _) (fun DX B4 NF I Ha Hb=> ?_) (ys:=(bI ([aX 2]))) (hZ:=by first|rfl|exact List.flatMap_append.symm |simp[bI])
         replace J:=J.eX Ha d (af ..) (by decide) (by decide) (by decide)
         replace H:=H.eX Ha d (af ..) (by decide)
         have L_:=q
         replace q:=q.sa Ha 3 Hb I G.size;clear Hb
         replace d:=I;clear I
         have hS2:kR L V (k+1)=(⟨S.M,true,(b5 x.kd x.n S.off S.aD).2⟩:j9):=by show(ft (kR L V k) (L.getD k fC) (V.getD k lS)).1 =_;rw[hS,hx,hy,R]
         have U:jM (Out++[aX 2]):=hbd.snoc (DQ _)
         have W:S.M.E.length ≤k+1:=by omega
         have Y:=dK (r:=aX 2) hol hon (by unfold oG;rw[hS,hx,hy,R])
         refine sT [(8,.slice DX (k+1) B4)] fun a hF=>cX 1 (xT (xB ?_))
         refine tK<|rS hF<|tA 1 k 1<|sE [(9,nV (k+1))] fun a hF=> ?_
         clear t
         clear m18
         clear KN
         replace G:=G.grew Ha (L_.l 3)
         replace kt:=kt.grew Ha (L_.zero 3 rfl nQ)
         replace q:=q.sub (l':=[DX.map (·.block)]) (.cons _ (.cons _ (.cons _ (.cons_cons _ (.slnil)))))
         show ∃m',m'<_∧_
         refine⟨_,?_,(k+1),(⟨S.M,true,(b5 x.kd x.n S.off S.aD).2⟩:j9),(Out++[aX 2]),DX,B4,rfl,G,kt,(by omega),hS2,(by rw[List.length_append,hol];rfl),Y,W,J,U,H,d,q,hF.to⟩
         omega
       ·refine cN<|tK<|cS<|cS<|C.mono (K:=fun e a h'=>e= .normal ∧(Ext h h')∧(bl h')∧(bB (fun _=>False) h' rb S.M)∧(cW h' Out)∧(Own h' (.slice ad k cap) 47 k 75 (bI Out))∧(Sep h.size h'.size [some (kA.size),some (h7.size),ad.map (·.block)])∧(h'[h7.size]? =some (.cells #[.int .i64 x.kd,.string x.s,.slice x.oa x.l.length x.oc,.int .i64 x.n,.slice x.ka x.kn x.kc] 35))∧(h'[kA.size]? =some (.cells #[.int .i64 y.dark,.int .i64 y.full,.int .i64 y.work] 80))∧Fr a 169 [(0,.slice (some al) L.length lc),(1,.slice va V.length vc),(5,.pointer (some ⟨rb,0,none⟩)),(6,.bool ((b5 x.kd x.n S.off S.aD).1)),(7,.bool ((b5 x.kd x.n S.off S.aD).2)),(8,.slice ad k cap),(9,.int .i64 ((k:Nat):Int)),(10,.pointer (some ⟨h7.size,0,none⟩)),(11,.pointer (some ⟨kA.size,0,none⟩)),(137,.bool (decide (rV x y X)))]) ?_ ?_
        ·rcases yv (au x.kd).2 (cq y.full 5) X.c with h2|⟨h2,h3⟩|⟨h2,h3,h4⟩|⟨h2,h3,h4⟩
         ·have hpx:¬rV x y X:=fun e=>by have e1:=h2.symm.trans e.1;cases e1
          exact cD [0,1,3,7,15,31,63,127,255,511,255,2047,4095,8191,16383] 25 mixed hF<|mP 1 [0] [.bool ((au x.kd).2)]<|m1 3 1 (.bool false) (.bool ((au x.kd).2)) (congrArg Value.bool h2)<|mP 16383 [2,3,4,5,6,7,8,9,10,11,12,13] [undef,undef,undef,undef,.bool false,.bool false,undef,undef,undef,undef,undef,undef]<|m1 32767 14 (.bool (decide (rV x y X))) (.bool false) (congrArg Value.bool (decide_eq_false hpx).symm)<|mE [(137,.bool (decide (rV x y X)))] fun a hF=>⟨rfl,G,kt,J,u,d,q,t,m18,hF.to⟩
         ·have hpx:¬rV x y X:=fun e=>h3 e.2.1
          refine cD [0,1,3,7,15,31,63,127,255,511,255,2047,4095,8191,16383] 25 mixed hF<|mP 1 [0] [.bool ((au x.kd).2)]<|m1 3 1 (.bool true) (.bool ((au x.kd).2)) (congrArg Value.bool h2)<|mP 7 [2] [.pointer (some ⟨kA.size,1,none⟩)]<|mO 15 8 3 1 (.int .i64 y.full) m18<|mL 31 24 4 (.int .i64 (((cq y.full 5):Nat):Int)) (Does.call (f:=12) (args:= #[.int .i64 y.full,.int .i64 5]) (by kernel_rfl) (kS _ y.full hya.f1 hya.f2))<|KV 63 5 (((cq y.full 5):Nat):Int) 0 ?_
          exact mP 16383 [6,7,8,9,10,11,12,13] [.bool false,.bool false,undef,undef,undef,undef,undef,undef]<|m1 32767 14 (.bool (decide (rV x y X))) (.bool false) (congrArg Value.bool (decide_eq_false hpx).symm)<|mE [(137,.bool (decide (rV x y X)))] fun a hF=>⟨rfl,G,kt,J,u,d,q,t,m18,hF.to⟩
         ·have hpx:rV x y X:=⟨h2,h3,h4⟩
          refine cD [0,1,3,7,15,31,63,127,255,511,255,2047,4095,8191,16383] 25 mixed hF<|mP 1 [0] [.bool ((au x.kd).2)]<|m1 3 1 (.bool true) (.bool ((au x.kd).2)) (congrArg Value.bool h2)<|mP 7 [2] [.pointer (some ⟨kA.size,1,none⟩)]<|mO 15 8 3 1 (.int .i64 y.full) m18<|mL 31 24 4 (.int .i64 (((cq y.full 5):Nat):Int)) (Does.call (f:=12) (args:= #[.int .i64 y.full,.int .i64 5]) (by kernel_rfl) (kS _ y.full hya.f1 hya.f2))<|HV 63 5 (((cq y.full 5):Nat):Int) 0 ?_
          refine mP 511 [6,7,8] [.bool true,.bool true,pV rb]<|mR 1535 1048 10 t ?_
          have OM:=J.kb
          refine fT 2047 1023 9 [10] (Does.call (f:=24) (args:= #[.pointer (some ⟨rb,0,none⟩)]) (by kernel_rfl) (p4 _ rb S.M J (by omega))) ?_
          rintro _ LZ ⟨cb,rfl,hY,hcb,g⟩
          replace G:=G.ext g
          replace kt:=kt.ext g
          replace d:=d.ext g
          replace J:=J.ext g
          replace u:=u.ext g
          replace t:=t.x g
          replace m18:=m18.x g
          replace q:=q.up g.size
          clear g
          refine⟨?_,?_⟩
          ·intro j hj
           simp only[List.mem_cons,List.not_mem_nil,or_false] at hj
           subst hj
           exact aG (Calm.load (T:=35) (p:=⟨h7.size,0,none⟩) (by kernel_rfl) (Loads.blk (vs:=[.int .i64 x.kd,.string x.s,.slice x.oa x.l.length x.oc,.int .i64 x.n,.slice x.ka x.kn x.kc]) (by kernel_rfl) t rfl))
          have ON:=hY.kb
          refine fZ 4095 4095 11 (oB _ cb S.M hY x.kd x.n x.s x.l _ _ x.ka x.kn x.kc (hox.ext G).1 hox.2 (by omega) N X hs) ?_
          rintro _ NN ⟨OO,OP,OQ,OR,OS,OT,rfl,_,_,_,_,m2,gm⟩
          replace u:=u.rg gm hY;replace d:=d.rg gm hY (by decide)
          replace t:=gm.blk t (fun e=>hY.DP t (by decide) e.symm)
          replace m18:=gm.blk m18 (fun e=>hY.DP m18 (by decide) e.symm)
          replace J:=J.other gm hY (by omega);clear hY m2
          replace G:=Gr.dj G gm (by rintro i rfl;omega);replace kt:=kt.gr gm (by intro e;omega)
          replace q:=q.up gm.1;clear gm
          exact mP 8191 [12] [.int .i64 X.c]<|HV 16383 13 X.c 0<|m1 32767 14 (.bool (decide (rV x y X))) (.bool true) (congrArg Value.bool (decide_eq_true hpx).symm)<|mE [(137,.bool (decide (rV x y X)))] fun a hF=>⟨rfl,G,kt,J,u,d,q,t,m18,hF.to⟩
         ·have hpx:¬rV x y X:=fun e=>h4 e.2.2
          refine cD [0,1,3,7,15,31,63,127,255,511,255,2047,4095,8191,16383] 25 mixed hF<|mP 1 [0] [.bool ((au x.kd).2)]<|m1 3 1 (.bool true) (.bool ((au x.kd).2)) (congrArg Value.bool h2)<|mP 7 [2] [.pointer (some ⟨kA.size,1,none⟩)]<|mO 15 8 3 1 (.int .i64 y.full) m18<|mL 31 24 4 (.int .i64 (((cq y.full 5):Nat):Int)) (Does.call (f:=12) (args:= #[.int .i64 y.full,.int .i64 5]) (by kernel_rfl) (kS _ y.full hya.f1 hya.f2))<|HV 63 5 (((cq y.full 5):Nat):Int) 0 ?_
          refine mP 511 [6,7,8] [.bool true,.bool true,pV rb]<|mR 1535 1048 10 t ?_
          have OM:=J.kb
          refine fT 2047 1023 9 [10] (Does.call (f:=24) (args:= #[.pointer (some ⟨rb,0,none⟩)]) (by kernel_rfl) (p4 _ rb S.M J (by omega))) ?_
          rintro _ h92 ⟨cb,rfl,hY,hcb,g⟩
          replace G:=G.ext g
          replace kt:=kt.ext g
          replace d:=d.ext g
          replace J:=J.ext g
          replace u:=u.ext g
          replace t:=t.x g
          replace m18:=m18.x g
          replace q:=q.up g.size
          clear g
          refine⟨?_,?_⟩
          ·intro j hj
           simp only[List.mem_cons,List.not_mem_nil,or_false] at hj
           subst hj
           exact aG (Calm.load (T:=35) (p:=⟨h7.size,0,none⟩) (by kernel_rfl) (Loads.blk (vs:=[.int .i64 x.kd,.string x.s,.slice x.oa x.l.length x.oc,.int .i64 x.n,.slice x.ka x.kn x.kc]) (by kernel_rfl) t rfl))
          have Ma:=hY.kb
          refine fZ 4095 4095 11 (oB _ cb S.M hY x.kd x.n x.s x.l _ _ x.ka x.kn x.kc (hox.ext G).1 hox.2 (by omega) N X hs) ?_
          rintro _ Kg ⟨OU,OV,OW,OX,pa97,pc98,rfl,_,_,_,_,m2,gm⟩
          replace u:=u.rg gm hY;replace d:=d.rg gm hY (by decide)
          replace t:=gm.blk t (fun e=>hY.DP t (by decide) e.symm)
          replace m18:=gm.blk m18 (fun e=>hY.DP m18 (by decide) e.symm)
          replace J:=J.other gm hY (by omega);clear hY m2
          replace G:=Gr.dj G gm (by rintro i rfl;omega);replace kt:=kt.gr gm (by intro e;omega)
          replace q:=q.up gm.1;clear gm
          exact mP 8191 [12] [.int .i64 X.c]<|KV 16383 13 X.c 0<|m1 32767 14 (.bool (decide (rV x y X))) (.bool false) (congrArg Value.bool (decide_eq_false hpx).symm)<|mE [(137,.bool (decide (rV x y X)))] fun a hF=>⟨rfl,G,kt,J,u,d,q,t,m18,hF.to⟩
        ·clear G kt J u d t m18
         rintro e a FX ⟨rfl,G,kt,J,u,d,q,t,m18,hF⟩
         refine tK<|cJ 137 hF (fun hc104=> ?_) fun hc104=> ?_
         ·have R:ft S x y=(⟨S.M,(b5 x.kd x.n S.off S.aD).1,(b5 x.kd x.n S.off S.aD).2⟩,b8 3):=Bg hc27 hc104.1 hc104.2.1 hs hc104.2.2
          refine qS hF<|tN 2 (.slice (some ⟨FX.size,0,none⟩) 1 1) ((bI [aX 3]).toArray) 47 fun wH yD DY=> ?_
          replace q:=q.nw G.size DY
          replace G:=G.ext yD
          replace kt:=kt.ext yD
          replace d:=d.ext yD
          replace J:=J.ext yD
          replace u:=u.ext yD
          have H:cW wH (Out++[aX 3]):=u.snoc (fL _ 3)
          refine tP 3 (k+1) 192 (bI (Out++[aX 3])) d (Row.blk (n:=1) (sz:=75) (l:=bI [aX 3]) DY rfl) (dJ _) (fun yE yF CX I pj B5=> ?_) (ys:=(bI ([aX 3]))) (hZ:=by first|rfl|exact List.flatMap_append.symm |simp[bI])
          replace J:=J.eX pj d (af ..) (by decide) (by decide) (by decide)
          replace H:=H.eX pj d (af ..) (by decide)
          have z':=q
          replace q:=q.sa pj 3 B5 I G.size;clear B5
          replace d:=I;clear I
          have hS2:kR L V (k+1)=(⟨S.M,(b5 x.kd x.n S.off S.aD).1,(b5 x.kd x.n S.off S.aD).2⟩:j9):=by show(ft (kR L V k) (L.getD k fC) (V.getD k lS)).1 =_;rw[hS,hx,hy,R]
          have U:jM (Out++[aX 3]):=hbd.snoc (DQ _)
          have W:S.M.E.length ≤k+1:=by omega
          have Y:=dK (r:=aX 3) hol hon (by unfold oG;rw[hS,hx,hy,R])
          refine sT [(8,.slice yE (k+1) yF)] fun a hF=>cX 1 (xT (xB ?_))
          refine tK<|rS hF<|tA 1 k 1<|sE [(9,nV (k+1))] fun a hF=> ?_
          clear t
          clear m18
          clear DY
          replace G:=G.grew pj (z'.l 3)
          replace kt:=kt.grew pj (z'.zero 3 rfl nQ)
          replace q:=q.sub (l':=[yE.map (·.block)]) (.cons _ (.cons _ (.cons _ (.cons_cons _ (.slnil)))))
          show ∃m',m'<_∧_
          refine⟨_,?_,(k+1),(⟨S.M,(b5 x.kd x.n S.off S.aD).1,(b5 x.kd x.n S.off S.aD).2⟩:j9),(Out++[aX 3]),yE,yF,rfl,G,kt,(by omega),hS2,(by rw[List.length_append,hol];rfl),Y,W,J,U,H,d,q,hF.to⟩
          omega
         ·have hpe:ft S x y=(⟨N,(b5 x.kd x.n S.off S.aD).1,(b5 x.kd x.n S.off S.aD).2⟩,lZ x.kd X y):=tq hc27 hc104 hs
          refine cN<|tK<|qS hF<|tR 1 t ?_
          have Mb:=J.kb
          refine tG 2 (oB _ rb S.M J x.kd x.n x.s x.l _ _ x.ka x.kn x.kc (hox.ext G).1 hox.2 (by omega) N X hs) ?_
          rintro _ DZ ⟨w,z,A,B,D,F,rfl,r_b,nA,nB,HM,m2,gm⟩
          replace u:=u.rg gm J;replace d:=d.rg gm J (by decide)
          replace t:=gm.blk t (fun e=>J.DP t (by decide) e.symm)
          replace m18:=gm.blk m18 (fun e=>J.DP m18 (by decide) e.symm)
          replace G:=Gr.dj G gm (by rintro i rfl;omega);replace kt:=kt.gr gm (by intro e;omega)
          replace q:=q.up gm.1;clear J;have J:bB (fun _=>False) DZ rb N:=m2;clear m2;clear gm
          refine tN 3 (pV DZ.size) ((b6 0).toArray) 47 fun KC Q O=> ?_
          replace q:=q.nw G.size O
          refine bA 4 (bN X.c (.slice w X.b.length z) X.sx X.se X.sh X.sg (.slice A X.i.length B) X.n X.y X.k (.slice D X.p.length F)) O fun Hc P zq=> ?_
          replace J:=J.ext Q
          replace J:=J.vg P O ⟨by decide,by decide⟩ (by decide)
          replace u:=u.ext Q
          replace u:=u.aO P O (by decide)
          replace r_b:=r_b.ext Q
          replace r_b:=r_b.aO P O (by decide)
          replace nA:=nA.ext Q
          replace nA:=nA.aO P O (by decide)
          replace nB:=nB.ext Q
          replace nB:=nB.aO P O (by decide)
          replace O:=zq
          refine sT [(15,pV DZ.size)] fun a hF=>cS<|qS hF ?_
          replace t:=(t.x Q).y P (q.bp 2 0)
          refine tO 1 0 t<|sT [(147,.bool (decide (x.kd =(11:Int))))] fun a hF=>cJ 147 hF (fun qb=> ?_) fun qb=> ?_
          ·have hpa:lZ x.kd X y={X with k:=((cq y.work 7:Nat):Int)}:=by unfold lZ;rw[if_pos qb]
           refine rS hF ?_
           replace m18:=(m18.x Q).y P (q.bp 1 0)
           refine tO 1 2 m18<|tC 2 (nV (cq y.work 7)) (Does.call (f:=12) (args:= #[.int .i64 y.work,.int .i64 7]) (by kernel_rfl) (Bj _ y.work hya.w1 hya.w2))<|tV 4 73 [nV (cq y.work 7)] (bN X.c (.slice w X.b.length z) X.sx X.se X.sh X.sg (.slice A X.i.length B) X.n X.y (((cq y.work 7):Nat):Int) (.slice D X.p.length F)) O fun GR j8 zq=> ?_
           replace J:=J.vg j8 O ⟨by decide,by decide⟩ (by decide)
           replace u:=u.aO j8 O (by decide)
           replace r_b:=r_b.aO j8 O (by decide)
           replace nA:=nA.aO j8 O (by decide)
           replace nB:=nB.aO j8 O (by decide)
           replace O:=zq
           refine sE [] fun a hF=>tK<|cS<|cS ?_
           ·skip
            refine rS hF ?_
            replace t:=t.y j8 (q.bp 2 0)
            refine tO 1 0 t<|eF 2 x.kd 15<|sE [(159,.bool false)] fun a hF=>tK<|cF 159 hF<|cN<|tK ?_
            refine rS hF<|tR 1 O ?_
            have R:=hpe;rw[hpa] at R
            refine tN 2 (.slice (some ⟨GR.size,0,none⟩) 1 1) ((bI [(⟨{X with k:=((cq y.work 7:Nat):Int)},w,z,A,B,D,F⟩:dL)]).toArray) 47 fun CF qd D0=> ?_
            replace G:=((G.ext Q).grew P (q.l 0)).grew j8 (q.l 0)
            replace q:=((q.up P.size).up j8.size).nw G.size D0
            replace kt:=(((kt.ext Q).grew P (q.zero 1 rfl nQ)).grew j8 (q.zero 1 rfl nQ)).ext qd
            replace d:=(((d.ext Q).k P (q.ap 4 1)).k j8 (q.ap 4 1)).ext qd
            replace G:=G.ext qd
            replace J:=J.ext qd
            replace u:=u.ext qd
            replace r_b:=r_b.ext qd
            replace nA:=nA.ext qd
            replace nB:=nB.ext qd
            have H:cW CF (Out++[(⟨{X with k:=((cq y.work 7:Nat):Int)},w,z,A,B,D,F⟩:dL)]):=u.snoc (⟨r_b,nA,nB,HM⟩)
            refine tP 3 (k+1) 192 (bI (Out++[(⟨{X with k:=((cq y.work 7:Nat):Int)},w,z,A,B,D,F⟩:dL)])) d (Row.blk (n:=1) (sz:=75) (l:=bI [(⟨{X with k:=((cq y.work 7:Nat):Int)},w,z,A,B,D,F⟩:dL)]) D0 rfl) (dJ _) (fun yG yH OY I pZ B6=> ?_) (ys:=(bI ([(⟨{X with k:=((cq y.work 7:Nat):Int)},w,z,A,B,D,F⟩:dL)]))) (hZ:=by first|rfl|exact List.flatMap_append.symm |simp[bI])
            replace J:=J.eX pZ d (af ..) (by decide) (by decide) (by decide)
            replace H:=H.eX pZ d (af ..) (by decide)
            have Hd:=q
            replace q:=q.sa pZ 4 B6 I G.size;clear B6
            replace d:=I;clear I
            have hS2:kR L V (k+1)=(⟨N,(b5 x.kd x.n S.off S.aD).1,(b5 x.kd x.n S.off S.aD).2⟩:j9):=by show(ft (kR L V k) (L.getD k fC) (V.getD k lS)).1 =_;rw[hS,hx,hy,R]
            have U:jM (Out++[(⟨{X with k:=((cq y.work 7:Nat):Int)},w,z,A,B,D,F⟩:dL)]):=hbd.snoc HK
            have W:N.E.length ≤k+1:=by omega
            have Y:=dK (r:=(⟨{X with k:=((cq y.work 7:Nat):Int)},w,z,A,B,D,F⟩:dL)) hol hon (by unfold oG;rw[hS,hx,hy,R])
            refine sE [(8,.slice yG (k+1) yH)] fun a hF=>bK<|tK<|rS hF<|tA 1 k 1<|sE [(9,nV (k+1))] fun a hF=> ?_
            clear t
            clear m18
            clear O
            clear D0
            replace G:=G.grew pZ (Hd.l 4)
            replace kt:=kt.grew pZ (Hd.zero 4 rfl nQ)
            replace q:=q.sub (l':=[yG.map (·.block)]) (.cons _ (.cons _ (.cons _ (.cons _ (.cons_cons _ (.slnil))))))
            show ∃m',m'<_∧_
            refine⟨_,?_,(k+1),(⟨N,(b5 x.kd x.n S.off S.aD).1,(b5 x.kd x.n S.off S.aD).2⟩:j9),(Out++[(⟨{X with k:=((cq y.work 7:Nat):Int)},w,z,A,B,D,F⟩:dL)]),yG,yH,rfl,G,kt,(by omega),hS2,(by rw[List.length_append,hol];rfl),Y,W,J,U,H,d,q,hF.to⟩
            omega
          ·refine cN<|tK<|cS<|cS ?_
           rcases(by omega:(x.kd =15∧X.c =0)∨(x.kd =15∧X.c ≠0)∨x.kd ≠15) with h15|h15|h15
           ·have hpa:lZ x.kd X y={X with k:=((cq y.work 5:Nat):Int)}:=by unfold lZ;rw[if_neg qb,if_pos h15]
            refine rS hF<|tO 1 0 t<|eT 2 x.kd 15<|tO 5 0 O<|eT 6 X.c 0<|sE [(159,.bool true)] fun a hF=>tK ?_
            refine cT 159 hF<|rS hF ?_
            replace m18:=(m18.x Q).y P (q.bp 1 0)
            refine tO 1 2 m18<|tC 2 (nV (cq y.work 5)) (Does.call (f:=12) (args:= #[.int .i64 y.work,.int .i64 5]) (by kernel_rfl) (kS _ y.work hya.w1 hya.w2))<|tV 4 73 [nV (cq y.work 5)] (bN X.c (.slice w X.b.length z) X.sx X.se X.sh X.sg (.slice A X.i.length B) X.n X.y (((cq y.work 5):Nat):Int) (.slice D X.p.length F)) O fun AW oI zq=> ?_
            replace J:=J.vg oI O ⟨by decide,by decide⟩ (by decide)
            replace u:=u.aO oI O (by decide)
            replace r_b:=r_b.aO oI O (by decide)
            replace nA:=nA.aO oI O (by decide)
            replace nB:=nB.aO oI O (by decide)
            replace O:=zq
            refine sE [] fun a hF=>tK<|rS hF<|tR 1 O ?_
            have R:=hpe;rw[hpa] at R
            refine tN 2 (.slice (some ⟨AW.size,0,none⟩) 1 1) ((bI [(⟨{X with k:=((cq y.work 5:Nat):Int)},w,z,A,B,D,F⟩:dL)]).toArray) 47 fun KO qe D1=> ?_
            replace G:=((G.ext Q).grew P (q.l 0)).grew oI (q.l 0)
            replace q:=((q.up P.size).up oI.size).nw G.size D1
            replace kt:=(((kt.ext Q).grew P (q.zero 1 rfl nQ)).grew oI (q.zero 1 rfl nQ)).ext qe
            replace d:=(((d.ext Q).k P (q.ap 4 1)).k oI (q.ap 4 1)).ext qe
            replace G:=G.ext qe
            replace J:=J.ext qe
            replace u:=u.ext qe
            replace r_b:=r_b.ext qe
            replace nA:=nA.ext qe
            replace nB:=nB.ext qe
            have H:cW KO (Out++[(⟨{X with k:=((cq y.work 5:Nat):Int)},w,z,A,B,D,F⟩:dL)]):=u.snoc (⟨r_b,nA,nB,HM⟩)
            refine tP 3 (k+1) 192 (bI (Out++[(⟨{X with k:=((cq y.work 5:Nat):Int)},w,z,A,B,D,F⟩:dL)])) d (Row.blk (n:=1) (sz:=75) (l:=bI [(⟨{X with k:=((cq y.work 5:Nat):Int)},w,z,A,B,D,F⟩:dL)]) D1 rfl) (dJ _) (fun yI yJ OZ I yK B7=> ?_) (ys:=(bI ([(⟨{X with k:=((cq y.work 5:Nat):Int)},w,z,A,B,D,F⟩:dL)]))) (hZ:=by first|rfl|exact List.flatMap_append.symm |simp[bI])
            replace J:=J.eX yK d (af ..) (by decide) (by decide) (by decide)
            replace H:=H.eX yK d (af ..) (by decide)
            have He:=q
            replace q:=q.sa yK 4 B7 I G.size;clear B7
            replace d:=I;clear I
            have hS2:kR L V (k+1)=(⟨N,(b5 x.kd x.n S.off S.aD).1,(b5 x.kd x.n S.off S.aD).2⟩:j9):=by show(ft (kR L V k) (L.getD k fC) (V.getD k lS)).1 =_;rw[hS,hx,hy,R]
            have U:jM (Out++[(⟨{X with k:=((cq y.work 5:Nat):Int)},w,z,A,B,D,F⟩:dL)]):=hbd.snoc HK
            have W:N.E.length ≤k+1:=by omega
            have Y:=dK (r:=(⟨{X with k:=((cq y.work 5:Nat):Int)},w,z,A,B,D,F⟩:dL)) hol hon (by unfold oG;rw[hS,hx,hy,R])
            refine sE [(8,.slice yI (k+1) yJ)] fun a hF=>bK<|tK<|rS hF<|tA 1 k 1<|sE [(9,nV (k+1))] fun a hF=> ?_
            clear t
            clear m18
            clear O
            clear D1
            replace G:=G.grew yK (He.l 4)
            replace kt:=kt.grew yK (He.zero 4 rfl nQ)
            replace q:=q.sub (l':=[yI.map (·.block)]) (.cons _ (.cons _ (.cons _ (.cons _ (.cons_cons _ (.slnil))))))
            show ∃m',m'<_∧_
            refine⟨_,?_,(k+1),(⟨N,(b5 x.kd x.n S.off S.aD).1,(b5 x.kd x.n S.off S.aD).2⟩:j9),(Out++[(⟨{X with k:=((cq y.work 5:Nat):Int)},w,z,A,B,D,F⟩:dL)]),yI,yJ,rfl,G,kt,(by omega),hS2,(by rw[List.length_append,hol];rfl),Y,W,J,U,H,d,q,hF.to⟩
            omega
           ·have hpa:lZ x.kd X y=X:=by unfold lZ;rw[if_neg qb,if_neg (fun e=>h15.2 e.2)]
            refine rS hF<|tO 1 0 t<|eT 2 x.kd 15<|tO 5 0 O<|eF 6 X.c 0<|sE [(159,.bool false)] fun a hF=>tK ?_
            refine cF 159 hF<|cN<|tK<|rS hF<|tR 1 O ?_
            have R:=hpe;rw[hpa] at R
            refine tN 2 (.slice (some ⟨Hc.size,0,none⟩) 1 1) ((bI [(⟨X,w,z,A,B,D,F⟩:dL)]).toArray) 47 fun Gv lN x3=> ?_
            replace G:=(G.ext Q).grew P (q.l 0)
            replace q:=(q.up P.size).nw G.size x3
            replace kt:=((kt.ext Q).grew P (q.zero 1 rfl nQ)).ext lN
            replace d:=((d.ext Q).k P (q.ap 4 1)).ext lN
            replace G:=G.ext lN
            replace J:=J.ext lN
            replace u:=u.ext lN
            replace r_b:=r_b.ext lN
            replace nA:=nA.ext lN
            replace nB:=nB.ext lN
            have H:cW Gv (Out++[(⟨X,w,z,A,B,D,F⟩:dL)]):=u.snoc (⟨r_b,nA,nB,HM⟩)
            refine tP 3 (k+1) 192 (bI (Out++[(⟨X,w,z,A,B,D,F⟩:dL)])) d (Row.blk (n:=1) (sz:=75) (l:=bI [(⟨X,w,z,A,B,D,F⟩:dL)]) x3 rfl) (dJ _) (fun yP yQ O0 I yS B8=> ?_) (ys:=(bI ([(⟨X,w,z,A,B,D,F⟩:dL)]))) (hZ:=by first|rfl|exact List.flatMap_append.symm |simp[bI])
            replace J:=J.eX yS d (af ..) (by decide) (by decide) (by decide)
            replace H:=H.eX yS d (af ..) (by decide)
            have Hf:=q
            replace q:=q.sa yS 4 B8 I G.size;clear B8
            replace d:=I;clear I
            have hS2:kR L V (k+1)=(⟨N,(b5 x.kd x.n S.off S.aD).1,(b5 x.kd x.n S.off S.aD).2⟩:j9):=by show(ft (kR L V k) (L.getD k fC) (V.getD k lS)).1 =_;rw[hS,hx,hy,R]
            have U:jM (Out++[(⟨X,w,z,A,B,D,F⟩:dL)]):=hbd.snoc HK
            have W:N.E.length ≤k+1:=by omega
            have Y:=dK (r:=(⟨X,w,z,A,B,D,F⟩:dL)) hol hon (by unfold oG;rw[hS,hx,hy,R])
            refine sE [(8,.slice yP (k+1) yQ)] fun a hF=>bK<|tK<|rS hF<|tA 1 k 1<|sE [(9,nV (k+1))] fun a hF=> ?_
            clear t
            clear m18
            clear O
            clear x3
            replace G:=G.grew yS (Hf.l 4)
            replace kt:=kt.grew yS (Hf.zero 4 rfl nQ)
            replace q:=q.sub (l':=[yP.map (·.block)]) (.cons _ (.cons _ (.cons _ (.cons _ (.cons_cons _ (.slnil))))))
            show ∃m',m'<_∧_
            refine⟨_,?_,(k+1),(⟨N,(b5 x.kd x.n S.off S.aD).1,(b5 x.kd x.n S.off S.aD).2⟩:j9),(Out++[(⟨X,w,z,A,B,D,F⟩:dL)]),yP,yQ,rfl,G,kt,(by omega),hS2,(by rw[List.length_append,hol];rfl),Y,W,J,U,H,d,q,hF.to⟩
            omega
           ·have hpa:lZ x.kd X y=X:=by unfold lZ;rw[if_neg qb,if_neg (fun e=>h15 e.1)]
            refine rS hF<|tO 1 0 t<|eF 2 x.kd 15<|sE [(159,.bool false)] fun a hF=>tK<|cF 159 hF<|cN ?_
            refine tK<|rS hF<|tR 1 O ?_
            have R:=hpe;rw[hpa] at R
            refine tN 2 (.slice (some ⟨Hc.size,0,none⟩) 1 1) ((bI [(⟨X,w,z,A,B,D,F⟩:dL)]).toArray) 47 fun KP qf D2=> ?_
            replace G:=(G.ext Q).grew P (q.l 0)
            replace q:=(q.up P.size).nw G.size D2
            replace kt:=((kt.ext Q).grew P (q.zero 1 rfl nQ)).ext qf
            replace d:=((d.ext Q).k P (q.ap 4 1)).ext qf
            replace G:=G.ext qf
            replace J:=J.ext qf
            replace u:=u.ext qf
            replace r_b:=r_b.ext qf
            replace nA:=nA.ext qf
            replace nB:=nB.ext qf
            have H:cW KP (Out++[(⟨X,w,z,A,B,D,F⟩:dL)]):=u.snoc (⟨r_b,nA,nB,HM⟩)
            refine tP 3 (k+1) 192 (bI (Out++[(⟨X,w,z,A,B,D,F⟩:dL)])) d (Row.blk (n:=1) (sz:=75) (l:=bI [(⟨X,w,z,A,B,D,F⟩:dL)]) D2 rfl) (dJ _) (fun yU yV O1 I yW B9=> ?_) (ys:=(bI ([(⟨X,w,z,A,B,D,F⟩:dL)]))) (hZ:=by first|rfl|exact List.flatMap_append.symm |simp[bI])
            replace J:=J.eX yW d (af ..) (by decide) (by decide) (by decide)
            replace H:=H.eX yW d (af ..) (by decide)
            have Hg:=q
            replace q:=q.sa yW 4 B9 I G.size;clear B9
            replace d:=I;clear I
            have hS2:kR L V (k+1)=(⟨N,(b5 x.kd x.n S.off S.aD).1,(b5 x.kd x.n S.off S.aD).2⟩:j9):=by show(ft (kR L V k) (L.getD k fC) (V.getD k lS)).1 =_;rw[hS,hx,hy,R]
            have U:jM (Out++[(⟨X,w,z,A,B,D,F⟩:dL)]):=hbd.snoc HK
            have W:N.E.length ≤k+1:=by omega
            have Y:=dK (r:=(⟨X,w,z,A,B,D,F⟩:dL)) hol hon (by unfold oG;rw[hS,hx,hy,R])
            refine sE [(8,.slice yU (k+1) yV)] fun a hF=>bK<|tK<|rS hF<|tA 1 k 1<|sE [(9,nV (k+1))] fun a hF=> ?_
            clear t
            clear m18
            clear O
            clear D2
            replace G:=G.grew yW (Hg.l 4)
            replace kt:=kt.grew yW (Hg.zero 4 rfl nQ)
            replace q:=q.sub (l':=[yU.map (·.block)]) (.cons _ (.cons _ (.cons _ (.cons _ (.cons_cons _ (.slnil))))))
            show ∃m',m'<_∧_
            refine⟨_,?_,(k+1),(⟨N,(b5 x.kd x.n S.off S.aD).1,(b5 x.kd x.n S.off S.aD).2⟩:j9),(Out++[(⟨X,w,z,A,B,D,F⟩:dL)]),yU,yV,rfl,G,kt,(by omega),hS2,(by rw[List.length_append,hol];rfl),Y,W,J,U,H,d,q,hF.to⟩
            omega
 ·refine cX 0 (xT (xT (xB ?_)))
  refine tK<|qP [(4,.slice ad k cap)] hF fun a hF=>cR<|rT 4 (.slice ad k cap) hF ?_
  have hke:k=L.length :=by omega
  subst hke
  exact⟨Out,ad,cap,rfl,hol,hon,d,u,hbd,q.low 0 rfl,G⟩
end Go.Proofs.YtegkejcglfgpmaaGreatDoor
end
