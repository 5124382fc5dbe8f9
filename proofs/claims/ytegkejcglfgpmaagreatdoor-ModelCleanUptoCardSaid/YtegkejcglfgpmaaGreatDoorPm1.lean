/- The walks and the plain laws, part 1: Lane, ShaMath, HashEq, ShaA, ShaB, ShaC, ShaD, ShaE, StL, Args, Bulk, End, Read, Shelf. Conditions: those that each theorem names. -/
import Derived.Test.YtegkejcglfgpmaaGreatDoorCards
import Derived.Test.YtegkejcglfgpmaaGreatDoorTie
import Derived.Orders
import Derived.Below
import Derived.KernelRfl
import Derived.Laws.AppendOwn
import Derived.LoopN
import Derived.Laws.Cells
import Derived.Test.YtegkejcglfgpmaaGreatDoorRows
import Derived.WalkKit
import Derived.ProofKit
import Derived.OpenShut
import Derived.Deep.DeepHandedRow
import Derived.Deep.Slices
import Derived.Lib.LaidTab
import Derived.Carry
import Derived.Shelf.SlSortCmp.NoneTotal
import Derived.Shelf.Small.Strs
import Derived.Test.YtegkejcglfgpmaaGreatDoorProg
import Derived.Laws.IdiomRangeMap
import Derived.Maps.RangeRun
import Derived.Lib.Bytealg
import Derived.Laws.BytesString
import Derived.Lib.AppendStr
import Derived.ChangeShapes
import Derived.Lib.ConvBytes
section
namespace Go.aj
open Go
abbrev Heap:=Array Obj
structure Same(w w':World):Prop where
  os:w'.os =w.os
  tape:w'.tape =w.tape
  output:w'.output =w.output
theorem Same.refl(w:World):Same w w:=⟨rfl,rfl,rfl⟩
theorem Same.trans{a b c:World}(h:Same a b)(k:Same b c):Same a c:=⟨k.os.trans h.os,k.tape.trans h.tape,k.output.trans h.output⟩
def Sat(P:Program)(f:FuncId)(args:Array Value)(h:Heap)(R:Value→Heap→Prop):Prop:=
  ∀w:World,w.heap =h→Calls P f args w fun e w'=>∃v,e= .returned v∧Same w w'∧R v w'.heap
theorem Sat.mono{P:Program}{f:FuncId}{args:Array Value}{h:Heap}{R R':Value→Heap→Prop}(s:Sat P f args h R)(hr:∀v h',R v h'→R' v h'):Sat P f args h R':=
  fun w hw=>(s w hw).mono fun _ _ ⟨v,e,sm,r⟩=>⟨v,e,sm,hr _ _ r⟩
def lk : List (Nat × Value) → Nat → Value → Value
  |[],_,d=>d
  | (k, v) :: r, i, d => match Nat.beq k i with
    |true=>v
    |false=>lk r i d
structure Fr(a:Act)(n:Nat)(L:List (Nat×Value)):Prop where
  defers:a.defers =[]
  size:a.tmps.size =n
  get:∀t,a.tmps.getD t undef=lk L t (a.tmps.getD t undef)
def ev(base:Nat→Value):Operand→Value
  | .tmp t=>base t
  | .const v=>v
  | .global g=> .pointer (some ⟨g,0,none⟩)
  | .func f=> .func (.func f) #[] #[]
def dst(ops:Array Oper)(i:Nat):Option Tmp:=(ops[i]?).bind (·.dst)
def cV (p : Nat → Bool) : Nat → Option Nat
  |0=>none
  | k + 1 => match p k with
    |true=>some k
    |false=>cV p k
theorem dx{p:Nat→Bool}:∀{k i:Nat},cV p k=some i→i<k∧p i=true∧∀j,i<j→j<k→p j=false
  |0,_,h=>by simp[cV] at h
  | k + 1, i, h => by
    unfold cV at h
    split at h
    · rename_i hp
      obtain rfl:k=i:=by simpa using h
      exact⟨by omega,hp,fun j h1 h2=>by omega⟩
    · rename_i hp
      obtain⟨h1,h2,h3⟩:=dx h
      refine⟨by omega,h2,fun j h4 h5=> ?_⟩
      by_cases e:j=k
      · subst e;exact hp
      · exact h3 j h4 (by omega)
theorem kT{p:Nat→Bool}:∀{k:Nat},cV p k=none→∀j,j<k→p j=false
  |0,_,j,hj=>by omega
  | k + 1, h, j, hj => by
    unfold cV at h
    split at h
    · simp at h
    · rename_i hp
      by_cases e:j=k
      · subst e;exact hp
      · exact kT h j (by omega)
theorem l3{p:Nat→Bool}{k i:Nat}(h1:i<k)(h2:p i=true)(h3:∀j,i<j→j<k→p j=false):cV p k=some i:=by
  cases h:cV p k with
  |none=>have:=kT h i h1;simp[h2] at this
  | some j =>
    obtain⟨a,b,c⟩:=dx h
    rcases Nat.lt_trichotomy i j with hl|he|hl
    · have:=h3 j hl a;simp[b] at this
    · rw[he]
    · have:=c i hl h1;simp[h2] at this
theorem fa{p:Nat→Bool}{k:Nat}(h:∀j,j<k→p j=false):cV p k=none:=by
  cases e:cV p k with
  |none=>rfl
  |some j=>obtain⟨a,b,_⟩:=dx e;have:=h j a;simp[b] at this
abbrev aR:=Nat→Value
def aU(vals:aR)(i:Nat)(v:Value):aR:=fun k=>match Nat.beq k i with|true=>v|false=>vals k
theorem gM(vals:aR)(i:Nat)(v:Value):aU vals i v i=v:=by simp[aU]
theorem iP{vals:aR}{i k:Nat}{v:Value}(h:k≠i):aU vals i v k=vals k:=by
  have:Nat.beq k i=false:=by
    cases e:Nat.beq k i with
    |false=>rfl
    |true=>exact absurd (Nat.eq_of_beq_eq_true e) h
  simp[aU,this]
def cx(ops:Array Oper)(base:Nat→Value)(vals:aR)(j t:Nat):Value:=
  match cV (fun i=>dst ops i==some t) j with
  |some i=>vals i
  |none=>base t
def di(ops:Array Oper)(base:Nat→Value)(vals:aR)(s:Nat→Bool)(t:Nat):Value:=
  match cV (fun i=>s i&&dst ops i==some t) ops.size with
  |some i=>vals i
  |none=>base t
def env(ops:Array Oper)(base:Nat→Value)(vals:aR)(j:Nat):Operand→Value:=ev (cx ops base vals j)
def b4 (ops : Array Oper) (e : Operand → Value) (o : Oper) : Bool :=
  match o.guard with
  |none=>true
  | some (g, want) => (match dst ops g with
    |some t=>(match e (.tmp t) with| .bool b=>some b|_=>none)
    |none=>none)==some want
def l4 (P : Program) (e : Operand → Value) (o : Oper) (h : Heap) (R : Value → Heap → Prop) : Prop :=
  ∀ w : World, w.heap = h → match (execOp e o).run P w with
    | .ok (.value v) w'=>Same w w'∧R v w'.heap
    | .ok .skip w'=>Same w w'∧R undef w'.heap
    | .ok (.enter f args) w'=>Same w w'∧Sat P f args w'.heap R
    |_=>False
def Bl(P:Program)(e:Operand→Value)(o:Oper)(h:Heap)(v:Value):Prop:=l4 P e o h fun v' h'=>v'=v∧h'=h
def Good (P : Program) (ops : Array Oper) (base : Nat → Value) (vals : aR) (h : Heap) (j : Nat) : Prop :=
  ∃ o, ops[j]? = some o ∧ ((b4 ops (env ops base vals j) o = true ∧ Bl P (env ops base vals j) o h (vals j)) ∨
    (b4 ops (env ops base vals j) o=false∧vals j=undef))
def fq(A:List Nat)(j:Nat):Nat:=A.getD j 0
def nD(A:List Nat)(j:Nat)(o:Oper):Bool:=
  let es:=o.after.toList.filter fun e=>Region.binds .any e
  es.all (fun e=>Nat.blt e.on j)&&
  (let u:=es.foldl (fun m e=>m|||2^e.on |||fq A e.on) 0
   fq A j==u)
def nE(ops:Array Oper)(A:List Nat)(j:Nat)(oj:Oper):Nat→List Oper→Bool
  |_,[]=>true
  |i,oi::r=>(Nat.ble j i||oi.apart ops oj||(fq A j).testBit i)&&nE ops A j oj (i+1) r
def rY(ops:Array Oper)(A:List Nat)(n:Nat):Nat→List Oper→Bool
  |_,[]=>true
  |j,o::r=>nD A j o&&nE ops A j o 0 ops.toList &&(match o.dst with|some d=>Nat.blt d n|none=>true)&&
      (match o.op with| .select .. =>false|_=>true)&&rY ops A n (j+1) r
def dY(ops:Array Oper)(A:List Nat)(n:Nat):Bool:=rY ops A n 0 ops.toList
structure Bm(ops:Array Oper)(A:List Nat)(n:Nat)(j:Nat)(o:Oper):Prop where
  edge:∀e∈o.after,Region.binds .any e=true→e.on <j
  up:∀i,(fq A j).testBit i=true→∃e∈o.after,Region.binds .any e=true∧(e.on =i∨(fq A e.on).testBit i=true)
  has:∀e∈o.after,Region.binds .any e=true→(fq A j).testBit e.on =true
  pair:∀i oi,ops[i]? =some oi→i<j→oi.apart ops o=true∨(fq A j).testBit i=true
  dst:∀d,o.dst =some d→d<n
  sel:∀cs b,o.op ≠ .select cs b
theorem iQ(A:List Nat)(i:Nat):∀(es:List Edge) (m:Nat),
    (es.foldl (fun m e=>m|||2^e.on |||fq A e.on) m).testBit i=true→m.testBit i=true∨∃e∈es,e.on =i∨(fq A e.on).testBit i=true
  |[],m,h=> .inl h
  | e :: es, m, h => by
    rcases iQ A i es _ h with h|⟨e',he,h⟩
    · simp only [Nat.testBit_or, Nat.testBit_two_pow, Bool.or_eq_true, decide_eq_true_eq] at h
      rcases h with(h|h)|h
      · exact .inl h
      · exact .inr ⟨e,List.mem_cons_self, .inl h⟩
      · exact .inr ⟨e,List.mem_cons_self, .inr h⟩
    · exact .inr ⟨e',List.mem_cons_of_mem _ he,h⟩
theorem fU(A:List Nat)(i:Nat):∀(es:List Edge) (m:Nat),m.testBit i=true→(es.foldl (fun m e=>m|||2^e.on |||fq A e.on) m).testBit i=true
  |[],_,h=>h
  |_::es,_,h=>fU A i es _ (by simp[Nat.testBit_or,h])
theorem iR(A:List Nat):∀(es:List Edge) (m:Nat) (e:Edge),e∈es→(es.foldl (fun m e=>m|||2^e.on |||fq A e.on) m).testBit e.on =true
  | e' :: es, m, e, h => by
    rcases List.mem_cons.1 h with h|h
    · subst h;exact fU A e.on es _ (by simp[Nat.testBit_or])
    · exact iR A es _ e h
theorem nG{A:List Nat}{j:Nat}{o:Oper}(h:nD A j o=true):
    (∀e∈o.after,Region.binds .any e=true→e.on <j)∧
    (∀i,(fq A j).testBit i=true→∃e∈o.after,Region.binds .any e=true∧(e.on =i∨(fq A e.on).testBit i=true))∧
    (∀e∈o.after,Region.binds .any e=true→(fq A j).testBit e.on =true):=by
  simp only[nD,Bool.and_eq_true,beq_iff_eq] at h
  obtain⟨h1,h2⟩:=h
  refine⟨?_, ?_,fun e he hb=>by rw[h2];exact iR A _ 0 e (List.mem_filter.2 ⟨by simpa using he,hb⟩)⟩
  · intro e he hb
    have:=List.all_eq_true.1 h1 e (List.mem_filter.2 ⟨by simpa using he,hb⟩)
    simpa using this
  · intro i hi
    have h3:=hi
    rw[h2] at h3
    rcases iQ A i _ _ h3 with h3|⟨e,he,h3⟩
    · simp at h3
    · obtain ⟨h4, h5⟩ := List.mem_filter.1 he
      exact⟨e,by simpa using h4,h5,h3⟩
theorem j_{ops:Array Oper}{A:List Nat}{j:Nat}{oj:Oper}:∀{l:List Oper} {k:Nat},(∀i,l[i]? =ops[k+i]?)→nE ops A j oj k l=true→
    ∀i oi,k≤i→ops[i]? =some oi→i<j→oi.apart ops oj=true∨(fq A j).testBit i=true
  | [], k, hl, _, i, oi, hk, hi, _ => by
    have:=hl (i - k);rw[show k+(i - k)=i by omega,hi] at this;simp at this
  | o :: l, k, hl, h, i, oi, hk, hi, hij => by
    simp only[nE,Bool.and_eq_true] at h
    by_cases e:i=k
    · subst e
      have h0:some o=ops[i]? :=by simpa using hl 0
      rw[hi] at h0
      obtain rfl:o=oi:=Option.some.inj h0
      have h1:=h.1
      simp only[Bool.or_eq_true,Nat.ble_eq] at h1
      rcases h1 with(h1|h1)|h1
      · omega
      · exact .inl h1
      · exact .inr h1
    · exact j_ (l:=l) (k:=k+1) (fun q=>by have:=hl (q+1);simpa[Nat.add_assoc,Nat.add_comm 1 q] using this) h.2 i oi (by omega) hi hij
theorem kU{ops:Array Oper}{A:List Nat}{n:Nat}:∀{l:List Oper} {k:Nat},(∀i,l[i]? =ops[k+i]?)→rY ops A n k l=true→
    ∀j o,k≤j→ops[j]? =some o→Bm ops A n j o
  | [], k, hl, _, i, oi, hk, hi => by
    have:=hl (i - k);rw[show k+(i - k)=i by omega,hi] at this;simp at this
  | o :: l, k, hl, h, j, oj, hk, hj => by
    simp only[rY,Bool.and_eq_true] at h
    obtain⟨⟨⟨⟨h1,h2⟩,h3⟩,h4⟩,h5⟩:=h
    by_cases e:j=k
    · subst e
      have h0:some o=ops[j]? :=by simpa using hl 0
      rw[hj] at h0
      obtain rfl:o=oj:=Option.some.inj h0
      obtain⟨e1,e2,e3⟩:=nG h1
      refine⟨e1,e2,e3,fun i oi hi hij=>j_ (l:=ops.toList) (k:=0) (fun q=>by simp) h2 i oi (by omega) hi hij,fun d hd=> ?_,fun cs b hs=> ?_⟩
      · rw[hd] at h3;simpa using h3
      · rw[hs] at h4;simp at h4
    · exact kU (l:=l) (k:=k+1) (fun q=>by have:=hl (q+1);simpa[Nat.add_assoc,Nat.add_comm 1 q] using this) h5 j oj (by omega) hj
theorem bZ{ops:Array Oper}{A:List Nat}{n:Nat}(h:dY ops A n=true){j:Nat}{o:Oper}(ho:ops[j]? =some o):Bm ops A n j o:=
  kU (l:=ops.toList) (k:=0) (fun i=>by simp) h j o (by omega) ho
end Go.aj
namespace Go.aj
open Go
theorem gN{p q:Nat→Bool}:∀{k:Nat},(∀i,i<k→p i=q i)→cV p k=cV q k
  |0,_=>rfl
  | k + 1, h => by
    unfold cV
    rw[h k (by omega),gN (k:=k) fun i hi=>h i (by omega)]
theorem mh{p:Nat→Bool}{j:Nat}:∀{k:Nat},j≤k→(∀i,j≤i→i<k→p i=false)→cV p k=cV p j
  | 0, hj, _ => by obtain rfl : j = 0 := by omega
                   rfl
  | k + 1, hj, h => by
    by_cases e:j=k+1
    · rw[e]
    · conv => lhs; unfold cV
      rw[h k (by omega) (by omega)]
      exact mh (k:=k) (by omega) fun i h1 h2=>h i h1 (by omega)
section
variable {P:Program} {ops:Array Oper} {A:List Nat} {n:Nat} {base:Nat→Value}
abbrev iS(listed:Array Bool)(i:Nat):Bool:=listed.getD i false
def du(ops:Array Oper)(L:Nat→Bool):Prop:=∀j o,ops[j]? =some o→L j=true→∀e∈o.after,Region.binds .any e=true→L e.on =true
theorem dN(hok:dY ops A n=true){L:Nat→Bool}(hc:du ops L):∀(m j:Nat) (o:Oper),j≤m→ops[j]? =some o→
    (∀e∈o.after,Region.binds .any e=true→L e.on =true)→∀i,(fq A j).testBit i=true→L i=true
  | m, j, o, hm, ho, hp, i, hi => by
    obtain⟨e,he,hb,h⟩:=(bZ hok ho).up i hi
    have hlt:=(bZ hok ho).edge e he hb
    rcases h with h|h
    · exact h▸hp e he hb
    · have hj := (Array.getElem?_eq_some_iff.1 ho).1
      obtain⟨oe,hoe⟩:∃oe,ops[e.on]? =some oe:=⟨_,Array.getElem?_eq_getElem (by omega)⟩
      match m,hm with
      |0,hm=>omega
      |m+1,hm=>exact dN hok hc m e.on oe (by omega) hoe (fun e' he' hb'=>hc e.on oe hoe (hp e he hb) e' he' hb') i h
theorem dg{x y:Oper}{d:Nat}(hx:x.dst =some d)(hy:d∈y.looksAt ops):x.apart ops y=false:=by
  cases h:x.apart ops y with
  |false=>rfl
  |true=>exact absurd hy ((Oper.apart_spec h).1 d hx)
theorem eV{x y:Oper}{d:Nat}(hx:y.dst =some d)(hy:d∈x.looksAt ops):x.apart ops y=false:=by
  cases h:x.apart ops y with
  |false=>rfl
  |true=>exact absurd hy ((Oper.apart_spec h).2.2 d hx)
theorem eK{x y:Oper}{d:Nat}(hx:x.dst =some d)(hy:y.dst =some d):x.apart ops y=false:=by
  cases h:x.apart ops y with
  |false=>rfl
  |true=>exact absurd hy ((Oper.apart_spec h).2.1 d hx)
theorem ql{i:Nat}{o:Oper}(ho:ops[i]? =some o):dst ops i=o.dst :=by simp[dst,ho]
theorem gO{i t:Nat}(h:(dst ops i==some t)=true):∃o,ops[i]? =some o∧o.dst =some t:=by
  simp only[beq_iff_eq] at h
  unfold dst at h
  cases ho:ops[i]? with
  |none=>simp[ho] at h
  |some o=>exact⟨o,rfl,by simpa[ho] using h⟩
theorem kV (hok : dY ops A n = true) {vals : aR} {L : Nat → Bool} (hc : du ops L) {j : Nat} {o : Oper} (ho : ops[j]? = some o) (hn : L j = false)
    (hp:∀e∈o.after,Region.binds .any e=true→L e.on =true) {t:Nat} (ht:t∈o.looksAt ops):di ops base vals L t=cx ops base vals j t:=by
  have hj:=(Array.getElem?_eq_some_iff.1 ho).1
  have hup:=dN hok hc j j o (Nat.le_refl _) ho hp
  have h1:∀i,j≤i→i<ops.size →(L i&&dst ops i==some t)=false:=by
    intro i hi hs
    cases hL:L i with
    |false=>rfl
    | true =>
      cases hd:(dst ops i==some t) with
      |false=>rfl
      | true =>
        exfalso
        obtain⟨oi,hoi,hd'⟩:=gO hd
        have hne:i≠j:=fun e=>by rw[e,hn] at hL;cases hL
        rcases(bZ hok hoi).pair j o ho (by omega) with h|h
        · rw[eV hd' ht] at h;cases h
        · have := dN hok hc i i oi (Nat.le_refl _) hoi (fun e he hb => hc i oi hoi hL e he hb) j h
          rw[hn] at this;cases this
  have h2:∀i,i<j→(L i&&dst ops i==some t)=(dst ops i==some t):=by
    intro i hi
    cases hd:(dst ops i==some t) with
    |false=>simp
    | true =>
      obtain⟨oi,hoi,hd'⟩:=gO hd
      rcases(bZ hok ho).pair i oi hoi hi with h|h
      · rw[dg hd' ht] at h;cases h
      · rw[hup i h];rfl
  unfold di cx
  rw[mh (p:=fun i=>L i&&dst ops i==some t) (Nat.le_of_lt hj) h1,gN h2]
structure kW(ops:Array Oper)(n:Nat)(base:Nat→Value)(P:Program)(w0:World)(D X Wd:Nat)(vals:aR)(h:Heap)(listed:Array Bool)(a:Act)(w:World):Prop where
  size:listed.size =ops.size
  sub:∀i,iS listed i=true→D.testBit i=true
  sup:∀i,i<ops.size →X.testBit i=true→iS listed i=true
  closed:du ops (iS listed)
  defers:a.defers =[]
  ir:a.tmps.size =n
  frame:∀t,a.tmps.getD t undef=di ops base vals (iS listed) t
  pend:∀j,j<ops.size →D.testBit j=true→iS listed j=false→(Wd.testBit j=true→Good P ops base vals h j)∧(Wd.testBit j=false→∀h',Good P ops base vals h' j)
  heap:w.heap =h
  same:Same w0 w
def B_(listed:Array Bool):Nat:=listed.countP (fun b=> !b)
def nH(P:Program)(ops:Array Oper)(A:List Nat)(n:Nat)(base:Nat→Value)(w0:World)(Q:Exit→Act→World→Prop)(D X Wd:Nat)(vals:aR)(h:Heap):Prop:=
  dY ops A n=true→du ops (fun i=>D.testBit i)→∀fuel listed a w,kW ops n base P w0 D X Wd vals h listed a w→B_ listed≤fuel→wpAny P .any ops Q fuel listed a w
theorem kX(hok:dY ops A n=true){vals:aR}{a:Act}{L:Nat→Bool}(hc:du ops L)(hf:∀t,a.tmps.getD t undef=di ops base vals L t){j:Nat}{o:Oper}(ho:ops[j]? =some o)(hn:L j=false)
    (hp:∀e∈o.after,Region.binds .any e=true→L e.on =true):
    execOp a.eval o=execOp (env ops base vals j) o∧Region.wanted o (yielded ops a.tmps)=b4 ops (env ops base vals j) o:=by
  constructor
  · refine execOp_congr o (bZ hok ho).sel fun x hx => ?_
    cases x with
    | tmp t =>
      show a.tmps.getD t undef=cx ops base vals j t
      rw[hf t]
      exact kV hok hc ho hn hp (List.mem_append_left _ (List.mem_filterMap.2 ⟨.tmp t,by simpa using hx,rfl⟩))
    |const v=>rfl
    |global g=>rfl
    |func f=>rfl
  · unfold Region.wanted b4
    cases hg:o.guard with
    |none=>rfl
    | some gw =>
      obtain⟨g,want⟩:=gw
      simp only
      congr 1
      unfold yielded
      cases hd:(ops[g]?).bind (·.dst) with
      |none=>simp[dst,hd]
      | some t =>
        have h1:=kV (base:=base) (vals:=vals) hok hc ho hn hp (t:=t) (List.mem_append_right _ (by simp[hg,hd]))
        have h2:env ops base vals j (.tmp t)=a.tmps.getD t undef:=by rw[hf t];exact h1.symm
        simp only[dst,hd,h2,Option.bind_some]
        cases ht:a.tmps[t]? with
        |none=>simp[ht,undef]
        |some v=>cases v<;>simp[ht]
theorem ez{listed:Array Bool}{i k:Nat}(hi:i<listed.size):iS (listed.setIfInBounds i true) k=(iS listed k||decide (k=i)):=by
  by_cases e:k=i
  · subst e;simp[iS,hi]
  · simp[iS,Array.getElem?_setIfInBounds_ne (Ne.symm e),e]
theorem rZ{listed:Array Bool}{i:Nat}(hi:i<listed.size)(hn:iS listed i=false):B_ (listed.setIfInBounds i true)+1=B_ listed:=by
  unfold B_
  have hv:listed[i]=false:=by simpa[iS,hi] using hn
  have hs:listed.setIfInBounds i true=listed.set i true hi:=by simp[Array.setIfInBounds,hi]
  have hpos:0<listed.countP (fun b=> !b):=Array.countP_pos_iff.2 ⟨listed[i],Array.getElem_mem hi,by simp[hv]⟩
  rw[hs,Array.countP_set hi]
  simp[hv]
  omega
theorem mi(hok:dY ops A n=true){vals:aR}{a:Act}{L L':Nat→Bool}(hc:du ops L)(hf:∀t,a.tmps.getD t undef=di ops base vals L t)(hts:a.tmps.size =n)
    {j:Nat} {o:Oper} (ho:ops[j]? =some o) (hn:L j=false) (hL:∀k,L' k=(L k||decide (k=j))) (t:Nat):
    (a.put o.dst (vals j)).tmps.getD t undef=di ops base vals L' t:=by
  have hj:=(Array.getElem?_eq_some_iff.1 ho).1
  have same:∀t,o.dst ≠some t→di ops base vals L' t=di ops base vals L t:=by
    intro t ht
    unfold di
    rw[gN (q:=fun i=>L i&&dst ops i==some t)]
    intro i hi
    rw[hL]
    by_cases e:i=j
    · subst e
      have:(dst ops i==some t)=false:=by rw[ql ho];simp[ht]
      simp[this]
    · simp[e]
  cases hd:o.dst with
  |none=>rw[same t (by simp[hd]), ←hf t];simp[Act.put]
  | some d =>
    have hdn:=(bZ hok ho).dst d hd
    by_cases e:t=d
    · subst e
      have hl : cV (fun i => L' i && dst ops i == some t) ops.size = some j := by
        refine l3 hj ?_ ?_
        · rw[hL,ql ho,hd];simp
        · intro i hi hs
          rw[hL]
          cases hLi:L i with
          | false => have : i ≠ j := by omega
                     simp[this]
          | true =>
            cases hdi:(dst ops i==some t) with
            |false=>simp
            | true =>
              exfalso
              obtain⟨oi,hoi,hd'⟩:=gO hdi
              rcases(bZ hok hoi).pair j o ho hi with h|h
              · rw[eK hd hd'] at h;cases h
              · have := dN hok hc i i oi (Nat.le_refl _) hoi (fun e he hb => hc i oi hoi hLi e he hb) j h
                rw[hn] at this;cases this
      unfold di
      rw[hl]
      simp[Act.put,hts,hdn]
    · rw [same t (by rw [hd]; simpa using fun h => e h.symm), ← hf t]
      simp[Act.put,Array.getElem?_setIfInBounds_ne (fun h=>e h.symm :d≠t)]
end
end Go.aj
namespace Go.aj
open Go
section
variable {P:Program} {ops:Array Oper} {A:List Nat} {n:Nat} {base:Nat→Value} {w0:World} {Q:Exit→Act→World→Prop} {D X Wd:Nat} {vals:aR} {h:Heap}
theorem ks(vals:aR)(i:Nat)(v:Value):cx ops base (aU vals i v) i=cx ops base vals i:=by
  funext t
  unfold cx
  cases e:cV (fun k=>dst ops k==some t) i with
  |none=>rfl
  |some k=>have:=(dx e).1;simp only;exact iP (by omega)
theorem iu(vals:aR)(i:Nat)(v:Value):env ops base (aU vals i v) i=env ops base vals i:=by
  unfold env;rw[ks]
theorem jQ(hok:dY ops A n=true){i j:Nat}{v:Value}{o:Oper}(ho:ops[j]? =some o)(hna:(fq A j).testBit i=false){t:Nat}(ht:t∈o.looksAt ops):
    cx ops base (aU vals i v) j t=cx ops base vals j t:=by
  unfold cx
  cases e:cV (fun k=>dst ops k==some t) j with
  |none=>rfl
  | some k =>
    simp only
    obtain⟨h1,h2,_⟩:=dx e
    refine iP fun hk=> ?_
    subst hk
    obtain⟨ok,hok',hd⟩:=gO h2
    rcases(bZ hok ho).pair k ok hok' h1 with h|h
    · rw[dg hd ht] at h;cases h
    · rw[hna] at h;cases h
theorem qm{e e':Operand→Value}{o:Oper}{R:Value→Heap→Prop}(he:execOp e o=execOp e' o)(hh:l4 P e o h R):l4 P e' o h R:=by
  unfold l4 at*;rwa [he] at hh
theorem tr(hok:dY ops A n=true){e e':Operand→Value}{j:Nat}{o:Oper}(ho:ops[j]? =some o)(hc:∀v,e (.const v)=e' (.const v))(hg:∀v,e (.global v)=e' (.global v))(hf:∀v,e (.func v)=e' (.func v))
    (ht:∀t,t∈o.looksAt ops→e (.tmp t)=e' (.tmp t)):execOp e o=execOp e' o∧b4 ops e o=b4 ops e' o:=by
  constructor
  · refine execOp_congr o (bZ hok ho).sel fun x hx => ?_
    cases x with
    |tmp t=>exact ht t (List.mem_append_left _ (List.mem_filterMap.2 ⟨.tmp t,by simpa using hx,rfl⟩))
    |const v=>exact hc v
    |global g=>exact hg g
    |func f=>exact hf f
  · unfold b4
    cases hg:o.guard with
    |none=>rfl
    | some gw =>
      obtain⟨g,want⟩:=gw
      simp only
      cases hd:dst ops g with
      |none=>rfl
      |some t=>simp only;rw[ht t (List.mem_append_right _ (by unfold dst at hd;simp[hg,hd]))]
theorem gP(hok:dY ops A n=true){i j:Nat}{v:Value}(hne:j≠i)(hna:(fq A j).testBit i=false)(hg:Good P ops base vals h j):Good P ops base (aU vals i v) h j:=by
  obtain⟨o,ho,hg⟩:=hg
  obtain⟨e1,e2⟩:=tr (e:=env ops base vals j) (e':=env ops base (aU vals i v) j) hok ho (fun _=>rfl) (fun _=>rfl) (fun _=>rfl)
    (fun t ht=>(jQ (base:=base) (vals:=vals) (v:=v) hok ho hna ht).symm)
  refine⟨o,ho, ?_⟩
  rw[iP hne, ←e2]
  exact hg.imp (fun⟨a,b⟩=>⟨a,qm e1 b⟩) id
theorem kY{L:Nat→Bool}{i:Nat}{v:Value}(hn:L i=false)(t:Nat):di ops base (aU vals i v) L t=di ops base vals L t:=by
  unfold di
  cases e:cV (fun k=>L k&&dst ops k==some t) ops.size with
  |none=>rfl
  | some k =>
    simp only
    have:=(dx e).2.1
    refine iP fun hk=> ?_
    subst hk
    simp[hn] at this
theorem kZ{i:Nat}{o:Oper}{a:Act}{w:World}{R:Value→Heap→Prop}{K:Act→World→Prop}{e:Operand→Value}(ho:ops[i]? =some o)(he:execOp a.eval o=execOp e o)
    (hw:Region.wanted o (yielded ops a.tmps)=true) (hh:w.heap =h) (hf:l4 P e o h R) (hK:∀v w',Same w w'→R v w'.heap →K (a.put o.dst v) w'):wpOp P ops Q i K a w:=by
  unfold wpOp
  simp only[ho,hw,if_true]
  refine .inl ?_
  have:=hf w hh
  unfold Oper.wp
  rw[he]
  generalize (execOp e o).run P w=r at this⊢
  cases r with
  |halt x w'=>exact this.elim
  | ok x w' =>
    cases x<;>simp only at this<;>simp only[Oper.upon]<;>first|exact this.elim |skip
    · exact hK _ _ this.1 this.2
    · exact hK _ _ this.1 this.2
    · refine (this.2 w' rfl).mono fun e w'' ⟨v, he, hs, hr⟩ => ?_
      subst he
      exact hK _ _ (this.1.trans hs) hr
theorem mj{i:Nat}{o:Oper}{a:Act}{w:World}{K:Act→World→Prop}(ho:ops[i]? =some o)
    (hw:Region.wanted o (yielded ops a.tmps)=false) (hK:K (a.put o.dst undef) w):wpOp P ops Q i K a w:=by
  unfold wpOp
  simp only[ho,hw]
  exact hK
theorem k0{listed:Array Bool}{i:Nat}{o:Oper}(hc:du ops (iS listed))(hi:i<listed.size)(ho:ops[i]? =some o)(hp:∀e∈o.after,Region.binds .any e=true→iS listed e.on =true):
    du ops (iS (listed.setIfInBounds i true)):=by
  intro j oj hj hl e he hb
  rw[ez hi] at hl⊢
  simp only[Bool.or_eq_true,decide_eq_true_eq] at hl⊢
  rcases hl with hl|hl
  · exact .inl (hc j oj hj hl e he hb)
  · subst hl
    rw[ho] at hj
    obtain rfl:o=oj:=Option.some.inj hj
    exact .inl (hp e he hb)
theorem iT(hok:dY ops A n=true){listed:Array Bool}{a:Act}{w:World}(st:kW ops n base P w0 D X Wd vals h listed a w){i:Nat}(hi:i∈Region.ready .any ops listed)
    (hD:D.testBit i=true) {K:Act→World→Prop} (hK:∀a' w',kW ops n base P w0 D X Wd vals h (listed.setIfInBounds i true) a' w'→K a' w'):wpOp P ops Q i K a w:=by
  obtain⟨hun,o,ho,hp⟩:=mem_ready.1 hi
  have hlt:=(Array.getElem?_eq_some_iff.1 ho).1
  have hil:i<listed.size :=by rw[st.size];exact hlt
  have hnl:iS listed i=false:=by simpa[iS,hil] using hun
  obtain⟨he,hw⟩:=kX hok st.closed st.frame ho hnl hp
  have hg:Good P ops base vals h i:=by
    obtain⟨h1,h2⟩:=st.pend i hlt hD hnl
    cases hW:Wd.testBit i with
    |true=>exact h1 hW
    |false=>exact h2 hW h
  obtain⟨o',ho',hg⟩:=hg
  obtain rfl:o'=o:=Option.some.inj (ho'.symm.trans ho)
  have next:∀w',Same w w'→w'.heap =h→kW ops n base P w0 D X Wd vals h (listed.setIfInBounds i true) (a.put o'.dst (vals i)) w':=fun w' hs hh=>
    { size := by simp [st.size]
      sub:=fun k hk=>by
        rw[ez hil] at hk
        simp only[Bool.or_eq_true,decide_eq_true_eq] at hk
        rcases hk with hk|hk
        · exact st.sub k hk
        · exact hk▸hD
      sup:=fun k hk hx=>by rw[ez hil,st.sup k hk hx];rfl
      closed:=k0 st.closed hil ho hp
      defers:=by cases hd:o'.dst <;>simp[Act.put,st.defers]
      ir:=by cases hd:o'.dst <;>simp[Act.put,st.ir]
      frame:=mi hok st.closed st.frame st.ir ho hnl fun k=>ez hil
      pend:=fun j hj tt hl=>st.pend j hj tt (by rw[ez hil] at hl;simp only[Bool.or_eq_false_iff] at hl;exact hl.1)
      heap:=hh
      same:=st.same.trans hs}
  rcases hg with⟨hw',hc⟩|⟨hw',hv⟩
  · refine kZ ho he (hw.trans hw') st.heap hc fun v w' hs hr => ?_
    rw[hr.1]
    exact hK _ _ (next w' hs hr.2)
  · refine mj ho (hw.trans hw') ?_
    rw[←hv]
    exact hK _ _ (next w (Same.refl w) st.heap)
theorem iv (hok : dY ops A n = true) {listed : Array Bool} (hs : listed.size = ops.size) (hr : Region.ready .any ops listed = []) : ∀ (i : Nat), i < ops.size → iS listed i = true := by
  intro i
  induction i using Nat.strongRecOn with
  | _ i ih =>
    intro hi
    cases hl:iS listed i with
    |true=>rfl
    | false =>
      exfalso
      have ho:ops[i]? =some ops[i]:=Array.getElem?_eq_getElem hi
      have:i∈Region.ready .any ops listed:=mem_ready.2 ⟨by simp only[iS] at hl;simpa[hs,hi] using hl,_,ho,fun e he hb=>by
        have h1:=(bZ hok ho).edge e he hb
        exact ih e.on h1 (by omega)⟩
      rw[hr] at this
      cases this
theorem oJ{listed:Array Bool}(h:B_ listed≤0)(i:Nat)(hi:i<listed.size):iS listed i=true:=by
  unfold B_ at h
  have h0:listed.countP (fun b=> !b)=0:=by omega
  have:=Array.countP_eq_zero.1 h0 listed[i] (Array.getElem_mem hi)
  simpa[iS,hi] using this
theorem eL{listed:Array Bool}{i:Nat}(hs:listed.size =ops.size)(hi:i∈Region.ready .any ops listed):i<ops.size ∧iS listed i=false:=by
  obtain⟨hun,o,ho,_⟩:=mem_ready.1 hi
  have hlt:=(Array.getElem?_eq_some_iff.1 ho).1
  exact⟨hlt,by simpa[iS,hs,hlt] using hun⟩
theorem nH.done(hD:∀i,i<ops.size →D.testBit i=true)
    (hQ:∀a w,a.defers =[]→a.tmps.size =n→(∀t,a.tmps.getD t undef=di ops base vals (fun _=>true) t)→Same w0 w→w.heap =h→Q .normal a w):
    nH P ops A n base w0 Q D X Wd vals h:=by
  intro hok _ fuel
  have fin:∀listed a w,kW ops n base P w0 D X Wd vals h listed a w→(∀i,i<ops.size →iS listed i=true)→Q .normal a w:=by
    intro listed a w st hall
    refine hQ a w st.defers st.ir (fun t=> ?_) st.same st.heap
    rw[st.frame t]
    unfold di
    rw[gN (q:=fun i=>true&&dst ops i==some t)]
    intro i hi
    rw[hall i hi]
  induction fuel with
  | zero =>
    intro listed a w st hu
    have hall:=fun i (hi:i<ops.size)=>oJ hu i (by rw[st.size];exact hi)
    refine⟨List.eq_nil_iff_forall_not_mem.2 fun i hi=> ?_,fin listed a w st hall⟩
    obtain⟨h1,h2⟩:=eL st.size hi
    rw[hall i h1] at h2;cases h2
  | succ fuel ih =>
    intro listed a w st hu
    refine⟨fun hr=>fin listed a w st (iv hok st.size hr),fun i hi=> ?_⟩
    obtain⟨h1,h2⟩:=eL st.size hi
    refine iT hok st hi (hD i h1) fun a' w' st'=>ih _ a' w' st' ?_
    have:=rZ (i:=i) (by rw[st.size];exact h1) h2
    omega
def bk(ops:Array Oper)(A:List Nat)(D i:Nat):Bool:=Nat.blt i ops.size && !(D.testBit i)&&((fq A i|||D)==D)
theorem eY(hok:dY ops A n=true){i:Nat}(hc:bk ops A D i=true):∃o,ops[i]? =some o∧D.testBit i=false∧∀e∈o.after,Region.binds .any e=true→D.testBit e.on =true:=by
  simp only[bk,Bool.and_eq_true,beq_iff_eq,Bool.not_eq_true'] at hc
  obtain⟨⟨h1,h2⟩,h3⟩:=hc
  have hi:i<ops.size :=by simpa using h1
  refine⟨_,Array.getElem?_eq_getElem hi,h2,fun e he hb=> ?_⟩
  have:=(bZ hok (Array.getElem?_eq_getElem hi)).has e he hb
  rw[←h3,Nat.testBit_or,this];rfl
theorem iD(hok:dY ops A n=true){i:Nat}(hcl:du ops (fun k=>D.testBit k))(hc:bk ops A D i=true):du ops (fun k=>(D|||2^i).testBit k):=by
  obtain⟨o,ho,_,hp⟩:=eY hok hc
  intro j oj hj hl e he hb
  simp only[Nat.testBit_or,Bool.or_eq_true,Nat.testBit_two_pow,decide_eq_true_eq] at hl⊢
  rcases hl with hl|hl
  · exact .inl (hcl j oj hj hl e he hb)
  · subst hl
    obtain rfl:o=oj:=Option.some.inj (ho.symm.trans hj)
    exact .inl (hp e he hb)
theorem r9(hok:dY ops A n=true){i j:Nat}(hcl:du ops (fun k=>D.testBit k))(hj:j<ops.size)(tt:D.testBit j=true)(hDi:D.testBit i=false):(fq A j).testBit i=false:=by
  cases h:(fq A j).testBit i with
  |false=>rfl
  | true =>
    have ho:ops[j]? =some ops[j]:=Array.getElem?_eq_getElem hj
    have:=dN hok hcl j j ops[j] (Nat.le_refl _) ho (fun e he hb=>hcl j _ ho tt e he hb) i h
    simp[hDi] at this
theorem r_(hok:dY ops A n=true)(hcl:du ops (fun k=>D.testBit k)){i:Nat}{v:Value}{ku:Nat}(hc:bk ops A D i=true)
    (hWd:∀k,k≠i→ku.testBit k=Wd.testBit k) (hg:(ku.testBit i=true→Good P ops base (aU vals i v) h i)∧(ku.testBit i=false→∀h',Good P ops base (aU vals i v) h' i))
    {listed:Array Bool} {a:Act} {w:World} (st:kW ops n base P w0 D X Wd vals h listed a w):kW ops n base P w0 (D|||2^i) X ku (aU vals i v) h listed a w:=by
  obtain⟨o,ho,hDi,hp⟩:=eY hok hc
  have hnl:iS listed i=false:=by
    cases hl:iS listed i with
    |false=>rfl
    |true=>rw[st.sub i hl] at hDi;cases hDi
  exact
    { size := st.size
      sub:=fun k hk=>by rw[Nat.testBit_or,st.sub k hk];rfl
      sup:=st.sup
      closed:=st.closed
      defers:=st.defers
      ir:=st.ir
      frame:=fun t=>by rw[kY hnl];exact st.frame t
      pend:=fun j hj tt hl=>by
        by_cases e:j=i
        · subst e;exact hg
        · have tu : D.testBit j = true := by
            simp only[Nat.testBit_or,Bool.or_eq_true,Nat.testBit_two_pow,decide_eq_true_eq] at tt
            rcases tt with h|h
            · exact h
            · exact absurd h.symm e
          obtain⟨h1,h2⟩:=st.pend j hj tu hl
          have hna:=r9 (i:=i) hok hcl hj tu hDi
          rw[hWd j e]
          exact⟨fun hw=>gP hok e hna (h1 hw),fun hw h'=>gP hok e hna (h2 hw h')⟩
      heap:=st.heap
      same:=st.same }
theorem nH.reg{i:Nat}{v:Value}(hc:bk ops A D i=true)(hW:Wd.testBit i=false)(hg:∀h',Good P ops base (aU vals i v) h' i)
    (hs:nH P ops A n base w0 Q (D|||2^i) X Wd (aU vals i v) h):nH P ops A n base w0 Q D X Wd vals h:=by
  intro hok hcl fuel listed a w st hu
  exact hs hok (iD hok hcl hc) fuel listed a w (r_ hok hcl hc (fun _ _=>rfl) ⟨fun h=>(by rw[hW] at h;cases h),fun _=>hg⟩ st) hu
theorem nH.HN{i:Nat}{v:Value}(hc:bk ops A D i=true)(hg:Good P ops base (aU vals i v) h i)
    (hs:nH P ops A n base w0 Q (D|||2^i) X (Wd|||2^i) (aU vals i v) h):nH P ops A n base w0 Q D X Wd vals h:=by
  intro hok hcl fuel listed a w st hu
  refine hs hok (iD hok hcl hc) fuel listed a w (r_ hok hcl hc (fun k hk=> ?_) ⟨fun _=>hg,fun h=> ?_⟩ st) hu
  · simp[Nat.testBit_or,Ne.symm hk]
  · simp[Nat.testBit_or] at h
def nexts(ops:Array Oper)(A:List Nat)(D:Nat):List Nat:=(List.range ops.size).filter fun i=>bk ops A D i
theorem nH.eff (hex : ∃ i, i ∈ nexts ops A D) (hs : ∀ i, i ∈ nexts ops A D → ∃ o R, ops[i]? = some o ∧ b4 ops (env ops base vals i) o = true ∧ l4 P (env ops base vals i) o h R ∧
      ∀ v h', R v h' → (∀ j, j < ops.size → (Wd &&& ((X ||| fq A i) ^^^ (Wd ||| X ||| fq A i))).testBit j = true → D.testBit j = true → Good P ops base vals h' j) ∧
        nH P ops A n base w0 Q (D|||2^i) (X|||fq A i|||2^i) Wd (aU vals i v) h'):nH P ops A n base w0 Q D X Wd vals h:=by
  intro hok hcl fuel
  induction fuel with
  | zero =>
    intro listed a w st hu
    exfalso
    obtain⟨i,hi⟩:=hex
    obtain⟨o,ho,hDi,_⟩:=eY hok (List.mem_filter.1 hi).2
    have:=oJ hu i (by rw[st.size];exact(Array.getElem?_eq_some_iff.1 ho).1)
    rw[st.sub i this] at hDi;cases hDi
  | succ fuel ih =>
    intro listed a w st hu
    refine⟨fun hr=> ?_,fun i hi=> ?_⟩
    · exfalso
      obtain⟨i,hi⟩:=hex
      obtain⟨o,ho,hDi,_⟩:=eY hok (List.mem_filter.1 hi).2
      have:=iv hok st.size hr i (Array.getElem?_eq_some_iff.1 ho).1
      rw[st.sub i this] at hDi;cases hDi
    · obtain ⟨h1, h2⟩ := eL st.size hi
      have hil:i<listed.size :=by rw[st.size];exact h1
      have hun:=rZ hil h2
      cases hDi:D.testBit i with
      |true=>exact iT hok st hi hDi fun a' w' st'=>ih _ a' w' st' (by omega)
      | false =>
        obtain⟨_,o,ho,hp⟩:=mem_ready.1 hi
        have Ca:=dN hok st.closed i i o (Nat.le_refl _) ho hp
        have hcan:bk ops A D i=true:=by
          have hb:Nat.blt i ops.size =true:=by simpa using h1
          simp only[bk,hb,hDi,Bool.not_false,Bool.true_and,beq_iff_eq]
          apply Nat.eq_of_testBit_eq
          intro k
          rw[Nat.testBit_or]
          cases hk:(fq A i).testBit k with
          |false=>simp
          |true=>rw[st.sub k (Ca k hk)];rfl
        obtain⟨o',R,ho',hw,hf,hR⟩:=hs i (List.mem_filter.2 ⟨List.mem_range.2 h1,hcan⟩)
        obtain rfl:o'=o:=Option.some.inj (ho'.symm.trans ho)
        obtain⟨he,hwe⟩:=kX hok st.closed st.frame ho h2 hp
        refine kZ ho he (hwe.trans hw) st.heap hf fun v w' hsm hr=> ?_
        obtain⟨Eh,HO⟩:=hR v w'.heap hr
        refine HO hok (iD hok hcl hcan) fuel _ _ w' ?_ (by omega)
        exact
          { size := by simp [st.size]
            sub:=fun k hk=>by
              rw[ez hil] at hk
              simp only[Bool.or_eq_true,decide_eq_true_eq] at hk
              rw[Nat.testBit_or,Nat.testBit_two_pow]
              rcases hk with hk|hk
              · rw[st.sub k hk];rfl
              · simp[hk]
            sup:=fun k hk hx=>by
              rw[ez hil]
              simp only[Nat.testBit_or,Nat.testBit_two_pow,Bool.or_eq_true,decide_eq_true_eq] at hx⊢
              rcases hx with(hx|hx)|hx
              · exact .inl (st.sup k hk hx)
              · exact .inl (Ca k hx)
              · exact .inr hx.symm
            closed:=k0 st.closed hil ho hp
            defers:=by cases hd:o'.dst <;>simp[Act.put,st.defers]
            ir:=by cases hd:o'.dst <;>simp[Act.put,st.ir]
            frame:=fun t=>by
              have hv:v=aU vals i v i:=(gM vals i v).symm
              conv=>lhs;rw[hv]
              exact mi hok st.closed (fun t=>by rw[kY h2];exact st.frame t) st.ir ho h2 (fun k=>ez hil) t
            pend:=fun j hj tt hl=>by
              rw[ez hil] at hl
              simp only[Bool.or_eq_false_iff,decide_eq_false_iff_not] at hl
              have tu:D.testBit j=true:=by
                simp only[Nat.testBit_or,Bool.or_eq_true,Nat.testBit_two_pow,decide_eq_true_eq] at tt
                rcases tt with h|h
                · exact h
                · exact absurd h.symm hl.2
              have hna:=r9 (i:=i) hok hcl hj tu hDi
              obtain⟨q1,q2⟩:=st.pend j hj tu hl.1
              refine⟨fun hW=>gP hok hl.2 hna (Eh j hj ?_ tu),fun hW h'=>gP hok hl.2 hna (q2 hW h')⟩
              have hX:X.testBit j=false:=by
                cases hx:X.testBit j with
                |false=>rfl
                |true=>rw[st.sup j hj hx] at hl;cases hl.1
              have hA:(fq A i).testBit j=false:=by
                cases hx:(fq A i).testBit j with
                |false=>rfl
                |true=>rw[Ca j hx] at hl;cases hl.1
              simp[Nat.testBit_and,Nat.testBit_or,Nat.testBit_xor,hW,hX,hA]
            heap:=rfl
            same:=st.same.trans hsm}
end
end Go.aj
namespace Go.aj
open Go
def iU(P:Program){α:Type}:Sem α→Option α
  | .pure a=>some a
  | .program k=>iU P (k P)
  | .mark _ k=>iU P k
  |_=>none
theorem fg{P:Program}{α:Type}:∀{s:Sem α} {a:α},iU P s=some a→∀w,s.run P w= .ok a w
  | .pure a,b,h,w=>by simp only[iU,Option.some.injEq] at h;subst h;rfl
  | .program k,b,h,w=>fg (s:=k P) h w
  | .mark _ k,b,h,w=>fg (s:=k) h w
def reads (P : Program) {α : Type} : Sem α → List Value → Option (α × List Addr)
  | .pure a,[]=>some (a,[])
  | .program k,l=>reads P (k P) l
  | .mark _ k,l=>reads P k l
  | .load _ ad k, v :: l => match reads P (k v) l with
    |some (a,r)=>some (a,ad::r)
    |none=>none
  |_,_=>none
def hcell(h:Heap)(a:Addr):Option Value:=
  match h[a.block]? with
  |some (.cells c _ _)=>if a.spot.isSome then none else c[a.off]?
  |_=>none
theorem dZ{w:World}{h:Heap}(e:w.heap =h)(a:Addr):w.cell? a=hcell h a:=by subst e;rfl
def Cells(h:Heap):List Addr→List Value→Prop
  |[],[]=>True
  |a::r,v::l=>hcell h a=some v∧Cells h r l
  |_,_=>False
section
variable {P:Program} {ops:Array Oper} {A:List Nat} {n:Nat} {base:Nat→Value} {D X Wd:Nat} {vals:aR} {h:Heap} {K:Exit→Act→Heap→Prop}
def nextVal:Option Next→Option Value
  |some (.value v)=>some v
  |some .skip =>some undef
  |_=>none
def aP (P : Program) (ops : Array Oper) (base : Nat → Value) (vals : aR) (i : Nat) : Option Value :=
  match ops[i]? with
  | some o => match b4 ops (env ops base vals i) o with
    |false=>some undef
    |true=>nextVal (iU P (execOp (env ops base vals i) o))
  |none=>none
theorem fV{e:Operand→Value}{o:Oper}{v:Value}(hv:nextVal (iU P (execOp e o))=some v)(h:Heap):Bl P e o h v:=by
  intro w hw
  cases hc:iU P (execOp e o) with
  |none=>simp[hc,nextVal] at hv
  | some x =>
    rw[fg hc w]
    rw[hc] at hv
    cases x<;>simp only[nextVal,Option.some.injEq] at hv<;>first| (cases hv;done)|skip
    · exact⟨Same.refl w,hv,hw⟩
    · exact⟨Same.refl w,hv,hw⟩
theorem fN{i:Nat}{v:Value}(hv:aP P ops base vals i=some v)(h':Heap):Good P ops base (aU vals i v) h' i:=by
  unfold aP at hv
  cases ho:ops[i]? with
  |none=>simp[ho] at hv
  | some o =>
    refine⟨o,ho, ?_⟩
    rw[iu,gM]
    simp only[ho] at hv
    cases hw:b4 ops (env ops base vals i) o with
    |false=>simp only[hw,Option.some.injEq] at hv;exact .inr ⟨rfl,hv.symm⟩
    |true=>simp only[hw] at hv;exact .inl ⟨rfl,fV hv h'⟩
structure Does(P:Program)(ops:Array Oper)(base:Nat→Value)(vals:aR)(i:Nat)(h:Heap)(R:Value→Heap→Prop):Prop where
  does:∃o,ops[i]? =some o∧b4 ops (env ops base vals i) o=true∧l4 P (env ops base vals i) o h R
abbrev Calm(P:Program)(ops:Array Oper)(base:Nat→Value)(vals:aR)(i:Nat)(h:Heap)(v:Value):Prop:=Does P ops base vals i h fun v' h'=>v'=v∧h'=h
theorem Calm.good{i:Nat}{v:Value}(hc:Calm P ops base vals i h v):Good P ops base (aU vals i v) h i:=by
  obtain⟨o,ho,hw,hf⟩:=hc.does
  refine⟨o,ho, .inl ?_⟩
  rw[iu,gM]
  exact⟨hw,hf⟩
def aH(P:Program)(ops:Array Oper)(A:List Nat)(n:Nat)(base:Nat→Value)(K:Exit→Act→Heap→Prop)(D X Wd:Nat)(vals:aR)(h:Heap):Prop:=
  ∀w0,nH P ops A n base w0 (fun e a w=>Same w0 w∧K e a w.heap) D X Wd vals h
def vq:aR→List Nat→List Value→aR
  |vals,i::is,v::vs=>vq (aU vals i v) is vs
  |vals,_,_=>vals
def d_ (P : Program) (ops : Array Oper) (A : List Nat) (base : Nat → Value) : List Nat → List Value → Nat → aR → Nat → Option (List (Option Value) × Nat)
  |[],[],D,_,_=>some ([],D)
  | i :: is, v :: vs, D, vals, Wd => match bk ops A D i && !(Wd.testBit i) with
    | true => match d_ P ops A base is vs (D ||| 2 ^ i) (aU vals i v) Wd with
      |some (r,D')=>some (aP P ops base vals i::r,D')
      |none=>none
    |false=>none
  |_,_,_,_,_=>none
theorem aH.Ei{is:List Nat}{vs:List Value}{D':Nat}(hp:d_ P ops A base is vs D vals Wd=some (vs.map some,D'))
    (hs:aH P ops A n base K D' X Wd (vq vals is vs) h):aH P ops A n base K D X Wd vals h:=by
  induction is generalizing vs D vals with
  | nil =>
    cases vs with
    |nil=>simp only[d_,List.map_nil,Option.some.injEq,Prod.mk.injEq,true_and] at hp;subst hp;exact hs
    |cons v vs=>simp[d_] at hp
  | cons i is ih =>
    cases vs with
    |nil=>simp[d_] at hp
    | cons v vs =>
      simp only[d_] at hp
      cases hc:(bk ops A D i&& !(Wd.testBit i)) with
      |false=>simp[hc] at hp
      | true =>
        simp only[hc] at hp
        cases hr:d_ P ops A base is vs (D|||2^i) (aU vals i v) Wd with
        |none=>simp[hr] at hp
        | some x =>
          obtain⟨r,D''⟩:=x
          simp only[hr,Option.some.injEq,Prod.mk.injEq,List.map_cons,List.cons.injEq] at hp
          obtain⟨⟨h1,h2⟩,h3⟩:=hp
          subst h2;subst h3
          simp only[Bool.and_eq_true,Bool.not_eq_true'] at hc
          intro w0
          exact nH.reg hc.1 hc.2 (fun h'=>fN h1 h') (ih hr hs w0)
theorem aH.dy{i:Nat}{v v':Value}{D':Nat}(hc:(bk ops A D i&& !(Wd.testBit i))=true)(hD:D|||2^i=D')(hv:aP P ops base vals i=some v')(e:v'=v)
    (hs:aH P ops A n base K D' X Wd (aU vals i v) h):aH P ops A n base K D X Wd vals h:=by
  subst e;subst hD
  simp only[Bool.and_eq_true,Bool.not_eq_true'] at hc
  intro w0
  exact nH.reg hc.1 hc.2 (fun h'=>fN hv h') (hs w0)
theorem aH.free{i:Nat}{v:Value}{D':Nat}(hc:(bk ops A D i&& !(Wd.testBit i))=true)(hD:D|||2^i=D')(hv:∀h',Calm P ops base vals i h' v)
    (hs:aH P ops A n base K D' X Wd (aU vals i v) h):aH P ops A n base K D X Wd vals h:=by
  subst hD
  simp only[Bool.and_eq_true,Bool.not_eq_true'] at hc
  intro w0
  exact nH.reg hc.1 hc.2 (fun h'=>(hv h').good) (hs w0)
theorem aH.look{i:Nat}{v:Value}{D' ku:Nat}(hc:bk ops A D i=true)(hD:D|||2^i=D')(hW:Wd|||2^i=ku)(hv:Calm P ops base vals i h v)
    (hs:aH P ops A n base K D' X ku (aU vals i v) h):aH P ops A n base K D X Wd vals h:=by
  subst hD;subst hW
  intro w0
  exact nH.HN hc hv.good (hs w0)
def fW(ops:Array Oper)(A:List Nat)(D X Wd i:Nat):List Nat:=(List.range ops.size).filter fun j=>(Wd&&&((X|||fq A i)^^^(Wd|||X|||fq A i))).testBit j&&D.testBit j
theorem aH.eff{i:Nat}{R:Value→Heap→Prop}{D' X':Nat}(hn:nexts ops A D=[i])(hD:D|||2^i=D')(hX:X|||fq A i|||2^i=X')(pend:List Nat)(hp:fW ops A D X Wd i=pend)(hd:Does P ops base vals i h R)
    (hs:∀v h',R v h'→(∀j∈pend,Good P ops base vals h' j)∧aH P ops A n base K D' X' Wd (aU vals i v) h'):aH P ops A n base K D X Wd vals h:=by
  subst hD;subst hX;subst hp
  intro w0
  refine nH.eff ⟨i,by rw[hn];simp⟩ fun k hk=> ?_
  rw[hn] at hk
  obtain rfl:k=i:=by simpa using hk
  obtain⟨o,ho,hw,hf⟩:=hd.does
  refine⟨o,R,ho,hw,hf,fun v h' hr=> ?_⟩
  obtain⟨h1,h2⟩:=hs v h' hr
  exact⟨fun j hj hb tt=>h1 j (List.mem_filter.2 ⟨List.mem_range.2 hj,by rw[hb,tt];rfl⟩),h2 w0⟩
theorem aH.vr{i:Nat}{R:Value→Heap→Prop}{D' X':Nat}(hn:nexts ops A D=[i])(hD:D|||2^i=D')(hX:X|||fq A i|||2^i=X')(hp:fW ops A D X Wd i=[])(hd:Does P ops base vals i h R)
    (hs:∀v h',R v h'→aH P ops A n base K D' X' Wd (aU vals i v) h'):aH P ops A n base K D X Wd vals h:=
  aH.eff hn hD hX [] hp hd fun v h' hr=>⟨fun j hj=>by simp at hj,hs v h' hr⟩
theorem aH.oK{is:List Nat}(hn:nexts ops A D=is)(hne:is≠[])
    (hs:∀i∈is,∃R,Does P ops base vals i h R∧∀v h',R v h'→(∀j∈fW ops A D X Wd i,Good P ops base vals h' j)∧aH P ops A n base K (D|||2^i) (X|||fq A i|||2^i) Wd (aU vals i v) h'):aH P ops A n base K D X Wd vals h:=by
  subst hn
  intro w0
  refine nH.eff (List.exists_mem_of_ne_nil _ hne) fun i hi=> ?_
  obtain⟨R,hd,hr⟩:=hs i hi
  obtain⟨o,ho,hw,hf⟩:=hd.does
  refine⟨o,R,ho,hw,hf,fun v h' hr'=> ?_⟩
  obtain⟨h1,h2⟩:=hr v h' hr'
  exact⟨fun j hj hb tt=>h1 j (List.mem_filter.2 ⟨List.mem_range.2 hj,by rw[hb,tt];rfl⟩),h2 w0⟩
theorem qn{f g:Nat→Value}(hf:∀t,f t=g t):∀(ts:List Nat) (t:Nat),f t=lk (ts.map fun t=>(t,g t)) t (f t)
  |[],_=>rfl
  | k :: ts, t => by
    simp only[List.map_cons,lk]
    cases e:Nat.beq k t with
    |false=>exact qn hf ts t
    |true=>simp only;rw[hf t,Nat.eq_of_beq_eq_true e]
end
end Go.aj
namespace Go.aj
open Go
section
variable {P:Program} {ops:Array Oper} {n:Nat} {base:Nat→Value} {vals:aR} {h:Heap} {K:Exit→Act→Heap→Prop}
/-! ### regions in the text's order -/
def k5(ops:Array Oper)(n:Nat):Bool:=ops.toList.all fun o=>match o.dst with|some d=>Nat.blt d n|none=>true
def vt(P:Program)(ops:Array Oper)(n:Nat)(base:Nat→Value)(w0:World)(Q:Exit→Act→World→Prop)(k:Nat)(vals:aR)(h:Heap):Prop:=
  k5 ops n=true→∀a w,a.defers =[]→a.tmps.size =n→(∀t,a.tmps.getD t undef=cx ops base vals k t)→Same w0 w→w.heap =h→wpOps P ops Q (List.range' k (ops.size - k)) a w
def aQ(P:Program)(ops:Array Oper)(n:Nat)(base:Nat→Value)(K:Exit→Act→Heap→Prop)(k:Nat)(vals:aR)(h:Heap):Prop:=
  ∀w0,vt P ops n base w0 (fun e a w=>Same w0 w∧K e a w.heap) k vals h
theorem qo{k:Nat}{o:Oper}(ho:ops[k]? =some o)(v:Value)(t:Nat):cx ops base (aU vals k v) (k+1) t=if o.dst =some t then v else cx ops base vals k t:=by
  unfold cx
  conv=>lhs;unfold cV
  rw[ql ho]
  by_cases e:o.dst =some t
  · simp[e,gM]
  · have : (o.dst == some t) = false := by simp [e]
    simp only[this,e,if_false]
    cases hl:cV (fun i=>dst ops i==some t) k with
    |none=>rfl
    |some i=>have:=(dx hl).1;exact iP (by omega)
theorem vu{a:Act}{k:Nat}(hf:∀t,a.tmps.getD t undef=cx ops base vals k t):a.eval =env ops base vals k:=by
  funext x
  cases x with
  |tmp t=>exact hf t
  |const v=>rfl
  |global g=>rfl
  |func f=>rfl
theorem k6{a:Act}{k:Nat}{o:Oper}(hf:∀t,a.tmps.getD t undef=cx ops base vals k t):Region.wanted o (yielded ops a.tmps)=b4 ops (env ops base vals k) o:=by
  unfold Region.wanted b4
  cases hg:o.guard with
  |none=>rfl
  | some gw =>
    obtain⟨g,want⟩:=gw
    simp only
    congr 1
    unfold yielded
    cases hd:(ops[g]?).bind (·.dst) with
    |none=>simp[dst,hd]
    | some t =>
      have h2:env ops base vals k (.tmp t)=a.tmps.getD t undef:=(hf t).symm
      simp only[dst,hd,h2,Option.bind_some]
      cases ht:a.tmps[t]? with
      |none=>simp[ht,undef]
      |some v=>cases v<;>simp[ht]
theorem oL{a:Act}{k:Nat}{o:Oper}(hok:k5 ops n=true)(ho:ops[k]? =some o)(hts:a.tmps.size =n)(hf:∀t,a.tmps.getD t undef=cx ops base vals k t)(v:Value)(t:Nat):
    (a.put o.dst v).tmps.getD t undef=cx ops base (aU vals k v) (k+1) t:=by
  rw[qo ho]
  cases hd:o.dst with
  |none=>simp[Act.put, ←hf t]
  | some d =>
    have hdn:d<n:=by
      have:=List.all_eq_true.1 hok o (by simpa using Array.mem_of_getElem? ho)
      simpa[hd] using this
    by_cases e:d=t
    · subst e;simp[Act.put,hts,hdn]
    · have : ¬ (some d = some t) := by simpa using e
      rw[if_neg this, ←hf t]
      simp[Act.put,Array.getElem?_setIfInBounds_ne e]
theorem ml{w0:World}{Q:Exit→Act→World→Prop}{k:Nat}{o:Oper}(ho:ops[k]? =some o)(hw:b4 ops (env ops base vals k) o=true){R:Value→Heap→Prop}(hf:l4 P (env ops base vals k) o h R)
    (hs:∀v h',R v h'→vt P ops n base w0 Q (k+1) (aU vals k v) h'):vt P ops n base w0 Q k vals h:=by
  intro hok a w hd hts hfr hsm hh
  have hlt:=(Array.getElem?_eq_some_iff.1 ho).1
  rw[show ops.size - k=(ops.size - (k+1))+1 by omega,List.range'_succ,wpOps_cons]
  exact kZ ho (by rw[vu hfr]) (by rw[k6 hfr];exact hw) hh hf fun v w' HP hr=>hs v _ hr hok _ w' (by cases o.dst <;>simp[Act.put,hd]) (by cases o.dst <;>simp[Act.put,hts]) (oL hok ho hts hfr v) (hsm.trans HP) rfl
theorem tv{w0:World}{Q:Exit→Act→World→Prop}{k:Nat}{o:Oper}(ho:ops[k]? =some o)(hw:b4 ops (env ops base vals k) o=false)
    (hs:vt P ops n base w0 Q (k+1) (aU vals k undef) h):vt P ops n base w0 Q k vals h:=by
  intro hok a w hd hts hfr hsm hh
  have hlt:=(Array.getElem?_eq_some_iff.1 ho).1
  rw[show ops.size - k=(ops.size - (k+1))+1 by omega,List.range'_succ,wpOps_cons]
  exact mj ho (by rw[k6 hfr];exact hw)<|hs hok _ w (by cases o.dst <;>simp[Act.put,hd]) (by cases o.dst <;>simp[Act.put,hts]) (oL hok ho hts hfr undef) hsm hh
theorem aQ.dy{k k':Nat}{v v':Value}(hv:aP P ops base vals k=some v')(e:v'=v)(hk:k+1=k')(hs:aQ P ops n base K k' (aU vals k v) h):aQ P ops n base K k vals h:=by
  subst e;subst hk
  intro w0
  unfold aP at hv
  cases ho:ops[k]? with
  |none=>simp[ho] at hv
  | some o =>
    simp only[ho] at hv
    cases hw:b4 ops (env ops base vals k) o with
    | false =>
      simp only[hw,Option.some.injEq] at hv
      subst hv
      exact tv ho hw (hs w0)
    | true =>
      simp only[hw] at hv
      refine ml ho hw (fV hv h) fun v h' ⟨h1,h2⟩=> ?_
      subst h1;subst h2
      exact hs w0
def zg(P:Program)(ops:Array Oper)(base:Nat→Value):Nat→List Value→aR→List (Option Value)
  |_,[],_=>[]
  |k,v::vs,vals=>aP P ops base vals k::zg P ops base (k+1) vs (aU vals k v)
def HQ:aR→Nat→List Value→aR
  |vals,_,[]=>vals
  |vals,k,v::vs=>HQ (aU vals k v) (k+1) vs
theorem aQ.eff{k k':Nat}{R:Value→Heap→Prop}(hd:Does P ops base vals k h R)(hk:k+1=k')(hs:∀v h',R v h'→aQ P ops n base K k' (aU vals k v) h'):aQ P ops n base K k vals h:=by
  subst hk
  intro w0
  obtain⟨o,ho,hw,hf⟩:=hd.does
  exact ml ho hw hf fun v h' hr=>hs v h' hr w0
theorem aQ.calm{k k':Nat}{v:Value}(hd:Calm P ops base vals k h v)(hk:k+1=k')(hs:aQ P ops n base K k' (aU vals k v) h):aQ P ops n base K k vals h:=
  aQ.eff hd hk fun v' h' ⟨h1,h2⟩=>by subst h1;subst h2;exact hs
/-! ### code -/
theorem cQ(m j:Nat):(Array.replicate m false).getD j false=false:=by
  rcases Nat.lt_or_ge j m with h|h
  · simp[h]
  · simp[h]
def C(P:Program)(c:Code)(K:Exit→Act→Heap→Prop)(a:Act)(h:Heap):Prop:=
  ∀w:World,w.heap =h→c.wp P (fun e a' w'=>Same w w'∧K e a' w'.heap) a w
def sub:Code→List Nat→Code
  |c,[]=>c
  | .seq x _,0::p=>sub x p
  | .seq _ y,_::p=>sub y p
  | .cond _ x _,0::p=>sub x p
  | .cond _ _ y,_::p=>sub y p
  | .block _ x,_::p=>sub x p
  | .loop x,_::p=>sub x p
  | .scope x,_::p=>sub x p
  |c,_=>c
def cy(c:Code)(p:List Nat):Array Oper:=match sub c p with| .region _ ops _=>ops|_=> #[]
def fO(N:Act→Heap→Prop)(K:Exit→Act→Heap→Prop):Exit→Act→Heap→Prop
  | .normal,a,h=>N a h
  |e,a,h=>K e a h
def iE(id:Nat)(K:Exit→Act→Heap→Prop):Exit→Act→Heap→Prop
  | .exit i,a,h=>match Nat.beq i id with|true=>K .normal a h|false=>K (.exit i) a h
  |e,a,h=>K e a h
theorem C.mono{c:Code}{a:Act}{K K':Exit→Act→Heap→Prop}(hc:C P c K a h)(hk:∀e a h,K e a h→K' e a h):C P c K' a h:=
  fun w hw=>wp_mono (hc w hw) fun _ _ _ ⟨s,k⟩=>⟨s,hk _ _ _ k⟩
section
variable {B:Code} {p:List Nat} {a:Act}
theorem C.seq(p0 p1:List Nat)(hc:sub B p= .seq (sub B p0) (sub B p1))(hh:C P (sub B p0) (fO (fun a h=>C P (sub B p1) K a h) K) a h):C P (sub B p) K a h:=by
  rw[hc]
  intro w hw
  refine wp_seq (wp_mono (hh w hw) fun e a' w' ⟨s,k⟩=> ?_)
  cases e with
  | normal =>
    exact wp_mono (k w' rfl) fun e a w ⟨s',k'⟩=>⟨s.trans s',k'⟩
  |exit i=>exact⟨s,k⟩
  |goto l=>exact⟨s,k⟩
  |ret=>exact⟨s,k⟩
  |panic c=>exact⟨s,k⟩
  |outgrown=>exact⟨s,k⟩
theorem C.skip(hc:sub B p= .skip)(hh:K .normal a h):C P (sub B p) K a h:=by
  rw[hc];intro w hw;exact wp_skip ⟨Same.refl w,hw▸hh⟩
theorem C.ret(hc:sub B p= .ret)(hh:K .ret a h):C P (sub B p) K a h:=by
  rw[hc];intro w hw;exact wp_ret ⟨Same.refl w,hw▸hh⟩
theorem C.exit(id:Nat)(hc:sub B p= .exit id)(hh:K (.exit id) a h):C P (sub B p) K a h:=by
  rw[hc];intro w hw;exact wp_exit ⟨Same.refl w,hw▸hh⟩
theorem C.block(id:Nat)(p0:List Nat)(hc:sub B p= .block id (sub B p0))(hh:C P (sub B p0) (iE id K) a h):C P (sub B p) K a h:=by
  rw[hc]
  intro w hw
  refine wp_block (wp_mono (hh w hw) fun e a' w' ⟨s,k⟩=> ?_)
  cases e with
  | exit i =>
    simp only[iE] at k
    simp only[Exit.inBlock]
    cases e:Nat.beq i id with
    |true=>simp only[e] at k;rw[if_pos (Nat.eq_of_beq_eq_true e)];exact⟨s,k⟩
    |false=>simp only[e] at k;rw[if_neg (Nat.ne_of_beq_eq_false e)];exact⟨s,k⟩
  |normal=>exact⟨s,k⟩
  |goto l=>exact⟨s,k⟩
  |ret=>exact⟨s,k⟩
  |panic c=>exact⟨s,k⟩
  |outgrown=>exact⟨s,k⟩
theorem Fr.eval{L:List (Nat×Value)}(hf:Fr a n L){t:Nat}{v:Value}(hv:∀d,lk L t d=v):a.tmps.getD t undef=v:=by rw[hf.get t];exact hv _
theorem C.Bn{L:List (Nat×Value)}(t:Nat)(p0 p1:List Nat)(hc:sub B p= .cond (.tmp t) (sub B p0) (sub B p1))(hf:Fr a n L)(hv:∀d,lk L t d= .bool true)(hh:C P (sub B p0) K a h):C P (sub B p) K a h:=by
  rw[hc];intro w hw;exact wp_cond_true (show a.eval (.tmp t)=_ from hf.eval hv) (hh w hw)
theorem C.Bo{L:List (Nat×Value)}(t:Nat)(p0 p1:List Nat)(hc:sub B p= .cond (.tmp t) (sub B p0) (sub B p1))(hf:Fr a n L)(hv:∀d,lk L t d= .bool false)(hh:C P (sub B p1) K a h):C P (sub B p) K a h:=by
  rw[hc];intro w hw;exact wp_cond_false (show a.eval (.tmp t)=_ from hf.eval hv) (hh w hw)
theorem C.vv{L:List (Nat×Value)}(t:Nat)(b:Bool)(p0 p1:List Nat)(hc:sub B p= .cond (.tmp t) (sub B p0) (sub B p1))(hf:Fr a n L)(hv:∀d,lk L t d= .bool b)
    (ht:b=true→C P (sub B p0) K a h) (he:b=false→C P (sub B p1) K a h):C P (sub B p) K a h:=by
  cases b with
  |true=>exact C.Bn t p0 p1 hc hf hv (ht rfl)
  |false=>exact C.Bo t p0 p1 hc hf hv (he rfl)
open Classical in
theorem C.loop(I:Nat→Act→Heap→Prop)(m0:Nat)(p0:List Nat)(hc:sub B p= .loop (sub B p0))(h0:I m0 a h)
    (round:∀m a h,I m a h→C P (sub B p0) (fO (fun a h=>∃m',m'<m∧I m' a h) K) a h):C P (sub B p) K a h:=by
  rw[hc]
  intro w hw
  have ex:∀(a:Act) (w:World),(∃m,I m a w.heap)→∃m,I m a w.heap ∧∀k,I k a w.heap →m≤k:=by
    intro a w ⟨m,hm⟩
    induction m using Nat.strongRecOn with
    | _ m ih =>
      by_cases hk:∃k,k<m∧I k a w.heap
      · obtain⟨k,hlt,hI⟩:=hk;exact ih k hlt hI
      · exact⟨m,hm,fun k hI=>Nat.le_of_not_lt fun hl=>hk ⟨k,hl,hI⟩⟩
  refine wp_loop (fun a' w'=>Same w w'∧∃m,I m a' w'.heap) (fun a' w'=>if hx:∃m,I m a' w'.heap then (ex a' w' hx).choose else 0) ⟨Same.refl w,m0,hw▸h0⟩ ?_
  intro a' w' ⟨hs,hx⟩
  have hm:=(ex a' w' hx).choose_spec
  have hmu:(if hx:∃m,I m a' w'.heap then (ex a' w' hx).choose else 0)=(ex a' w' hx).choose :=dif_pos hx
  rw[hmu]
  refine wp_mono (round _ a' w'.heap hm.1 w' rfl) fun e a2 w2 ⟨s,k⟩=> ?_
  cases e with
  | normal =>
    obtain⟨m',hlt,hI⟩:=k
    have hx2:∃m,I m a2 w2.heap :=⟨m',hI⟩
    refine⟨⟨hs.trans s,hx2⟩, ?_⟩
    rw[dif_pos hx2]
    exact Nat.lt_of_le_of_lt ((ex a2 w2 hx2).choose_spec.2 m' hI) hlt
  |exit i=>exact⟨hs.trans s,k⟩
  |goto l=>exact⟨hs.trans s,k⟩
  |ret=>exact⟨hs.trans s,k⟩
  |panic c=>exact⟨hs.trans s,k⟩
  |outgrown=>exact⟨hs.trans s,k⟩
theorem C.plain{L:List (Nat×Value)}(id:Nat)(hc:sub B p= .region id (cy B p) false)(hf:Fr a n L)(hok:k5 (cy B p) n=true)
    (hh:aQ P (cy B p) n (fun t=>lk L t (a.tmps.getD t undef)) K 0 (fun _=>undef) h):C P (sub B p) K a h:=by
  rw[hc]
  intro w hw
  refine wp_region ?_
  have:=hh w hok a w hf.defers hf.size (fun t=>by rw[hf.get t];rfl) (Same.refl w) hw
  simpa[List.range_eq_range'] using this
theorem C.draw{A:List Nat}{L:List (Nat×Value)}(id:Nat)(hc:sub B p= .region id (cy B p) true)(hm:P.follows .mixedOrders =true)(hf:Fr a n L)(hok:dY (cy B p) A n=true)
    (hh:aH P (cy B p) A n (fun t=>lk L t (a.tmps.getD t undef)) K 0 0 0 (fun _=>undef) h):C P (sub B p) K a h:=by
  rw[hc]
  intro w hw
  refine wp_region_any hm<|hh w hok (fun j o _ hj=>by simp at hj) _ _ a _ ?_ (by unfold B_;exact Nat.le_trans Array.countP_le_size (by simp))
  exact
    { size := by simp
      sub:=fun i hi=>by simp only[iS,cQ] at hi;cases hi
      sup:=fun i _ hi=>by simp at hi
      closed:=fun j o _ hj=>by simp only[iS,cQ] at hj;cases hj
      defers:=hf.defers
      ir:=hf.size
      frame:=fun t=>by
        rw[hf.get t]
        unfold di
        rw[fa]
        intro j _
        simp only[iS,cQ,Bool.false_and]
      pend:=fun j _ hj=>by simp at hj
      heap:=hw
      same:=⟨rfl,rfl,rfl⟩}
end
end
end Go.aj
namespace Go.aj
open Go
/-! ### heaps -/
/-- all that was there is there, but for one block -/
structure Grew(o:Option Nat)(h h':Heap):Prop where
  size:h.size ≤h'.size
  get:∀k,k<h.size →some k≠o→h'[k]? =h[k]?
abbrev Ext(h h':Heap):Prop:=Grew none h h'
theorem Grew.refl(o:Option Nat)(h:Heap):Grew o h h:=⟨Nat.le_refl _,fun _ _ _=>rfl⟩
theorem Grew.trans{o:Option Nat}{a b c:Heap}(h:Grew o a b)(k:Grew o b c):Grew o a c:=
  ⟨Nat.le_trans h.size k.size,fun i hi ho=>(k.get i (Nat.lt_of_lt_of_le hi h.size) ho).trans (h.get i hi ho)⟩
theorem Ext.refl(h:Heap):Ext h h:=Grew.refl none h
theorem Ext.but{h h':Heap}(e:Ext h h')(o:Option Nat):Grew o h h':=⟨e.size,fun k hk _=>e.get k hk (by simp)⟩
theorem Ext.push(h:Heap)(o:Obj):Ext h (h.push o):=⟨by simp,fun k hk _=>by rw[Array.getElem?_push,if_neg (by omega)]⟩
theorem Ext.grew{h0 h h':Heap}{o:Option Nat}(e:Ext h0 h)(g:Grew o h h')(ho:∀k,o=some k→h0.size ≤k):Ext h0 h':=
  ⟨Nat.le_trans e.size g.size,fun k hk _=>(g.get k (Nat.lt_of_lt_of_le hk e.size) (fun he=>by have:=ho k he.symm;omega)).trans (e.get k hk (by simp))⟩
theorem Ext.ext{a b c:Heap}(h:Ext a b)(k:Ext b c):Ext a c:=Grew.trans h k
theorem ak{h:Heap}{b:Nat}{o:Obj}(e:h[b]? =some o):b<h.size :=(Array.getElem?_eq_some_iff.1 e).1
theorem Grew.blk{o:Option Nat}{h h':Heap}{b:Nat}{x:Obj}(g:Grew o h h')(e:h[b]? =some x)(hne:some b≠o):h'[b]? =some x:=by rw[g.get b (ak e) hne];exact e
theorem Ext.blk{h h':Heap}{b:Nat}{x:Obj}(g:Ext h h')(e:h[b]? =some x):h'[b]? =some x:=Grew.blk g e (by simp)
theorem vw(h:Heap)(o:Obj):(h.push o)[h.size]? =some o:=by simp
theorem fX{h:Heap}{p:Addr}{v:Value}(e:hcell h p=some v):p.block <h.size :=by
  unfold hcell at e
  cases hb:h[p.block]? with
  |none=>simp[hb] at e
  |some o=>exact ak hb
theorem dz{h h':Heap}{p:Addr}(e:h'[p.block]? =h[p.block]?):hcell h' p=hcell h p:=by unfold hcell;rw[e]
theorem Grew.cell{o:Option Nat}{h h':Heap}{p:Addr}{v:Value}(g:Grew o h h')(e:hcell h p=some v)(hne:some p.block ≠o):hcell h' p=some v:=by
  rw[dz (g.get _ (fX e) hne)];exact e
theorem Ext.cell{h h':Heap}{p:Addr}{v:Value}(g:Ext h h')(e:hcell h p=some v):hcell h' p=some v:=Grew.cell g e (by simp)
theorem an{h:Heap}{b off:Nat}{cs:Array Value}{E:TypeId}{fr:Nat×Nat}(e:h[b]? =some (.cells cs E fr)):hcell h ⟨b,off,none⟩=cs[off]? :=by
  simp[hcell,e]
theorem add_lit(b off j:Nat):(⟨b,off,none⟩:Addr).add j=⟨b,off+j,none⟩:=by unfold Addr.add;split<;>simp_all
theorem add_add(a:Addr)(i j:Nat):(a.add i).add j=a.add (i+j):=by
  unfold Addr.add
  by_cases h1:i=0<;>by_cases h2:j=0<;>simp[h1,h2,Nat.add_assoc]
theorem add_block(a:Addr)(i:Nat):(a.add i).block =a.block :=by unfold Addr.add;split<;>rfl
/-! ### what a slice reads as: n elements of sz cells -/
def Row(h:Heap)(v:Value)(n sz:Nat)(xs:List Value):Prop:=
  xs.length =n*sz∧((v= .slice none 0 0∧n=0)∨∃a cap,v= .slice (some a) n cap∧n≤cap∧∀j u,xs[j]? =some u→hcell h (a.add j)=some u)
theorem Row.ext{h h':Heap}{v:Value}{n sz:Nat}{xs:List Value}(r:Row h v n sz xs)(g:Ext h h'):Row h' v n sz xs:=
  ⟨r.1,r.2.imp id fun⟨a,cap,e,hc,hx⟩=>⟨a,cap,e,hc,fun j u hu=>g.cell (hx j u hu)⟩⟩
theorem Row.nil(h:Heap)(sz:Nat):Row h (.slice none 0 0) 0 sz []:=⟨by simp, .inl ⟨rfl,rfl⟩⟩
theorem Row.at{h:Heap}{v:Value}{n sz:Nat}{xs:List Value}(r:Row h v n sz xs)(hn:0<n):∃a cap,v= .slice (some a) n cap∧n≤cap∧∀j u,xs[j]? =some u→hcell h (a.add j)=some u:=
  r.2.resolve_left fun⟨_,e⟩=>by omega
def Own(h:Heap)(v:Value)(E:TypeId)(n sz:Nat)(xs:List Value):Prop:=
  xs.length =n*sz∧((v= .slice none 0 0∧n=0)∨∃g off cap l,v= .slice (some ⟨g,off,none⟩) n cap∧h[g]? =some (.cells l E (0,0))∧n≤cap∧cap≤maxLen∧off+cap*sz≤l.size ∧(l.toList.drop off).take (n*sz)=xs)
def a6:Value→Option Nat
  | .slice (some a) _ _=>some a.block
  |_=>none
theorem Own.nil(h:Heap)(E:TypeId)(sz:Nat):Own h (.slice none 0 0) E 0 sz []:=⟨by simp, .inl ⟨rfl,rfl⟩⟩
theorem Own.row{h:Heap}{v:Value}{E:TypeId}{n sz:Nat}{xs:List Value}(o:Own h v E n sz xs):Row h v n sz xs:=by
  refine⟨o.1,o.2.imp id ?_⟩
  rintro⟨g,off,cap,l,e,hg,hc,_,hl,hx⟩
  refine⟨_,cap,e,hc,fun j u hu=> ?_⟩
  rw[add_lit,an hg]
  rw[←hx,List.getElem?_take] at hu
  split at hu
  · rw [List.getElem?_drop] at hu
    simpa using hu
  · cases hu
theorem Own.lt{h:Heap}{v:Value}{E:TypeId}{n sz:Nat}{xs:List Value}(o:Own h v E n sz xs){k:Nat}(hk:a6 v=some k):k<h.size :=by
  rcases o.2 with⟨e,_⟩|⟨g,off,cap,l,e,hg,_⟩
  · subst e;simp[a6] at hk
  · subst e;simp only[a6,Option.some.injEq] at hk;subst hk;exact ak hg
theorem Own.kept{o:Option Nat}{h h':Heap}{v:Value}{E:TypeId}{n sz:Nat}{xs:List Value}(w:Own h v E n sz xs)(g:Grew o h h')(hne:a6 v=none∨a6 v≠o):Own h' v E n sz xs:=by
  refine⟨w.1,w.2.imp id ?_⟩
  rintro⟨b,off,cap,l,e,hg,r⟩
  refine⟨b,off,cap,l,e,g.blk hg ?_,r⟩
  subst e
  simpa[a6] using hne
theorem Own.ext{h h':Heap}{v:Value}{E:TypeId}{n sz:Nat}{xs:List Value}(w:Own h v E n sz xs)(g:Ext h h'):Own h' v E n sz xs:=
  w.kept g (by cases a6 v<;>simp)
section
variable {P:Program} {ops:Array Oper} {base:Nat→Value} {vals:aR} {h:Heap} {i:Nat} {K:Exit→Act→Heap→Prop}
/-! ### a function's beginning and end -/
def qp(P:Program)(fn:Func)(R:Value→Heap→Prop):Exit→Act→Heap→Prop
  | .normal,a,h| .ret,a,h=>a.defers =[]∧∃v,(∀w:World,w.heap =h→(results fn a.tmps).run P w= .ok v w)∧R v h
  |_,_,_=>False
def tw:Nat→List Value→List (Nat×Value)
  |_,[]=>[]
  |k,v::vs=>(k,v)::tw (k+1) vs
theorem zh(vs:List Value)(k t:Nat)(d:Value)(hk:k≤t):lk (tw k vs) t d=(vs[t - k]?).getD d:=by
  induction vs generalizing k with
  |nil=>simp[tw,lk]
  | cons v vs ih =>
    simp only[tw,lk]
    cases e:Nat.beq k t with
    |true=>have:=Nat.eq_of_beq_eq_true e;subst this;simp
    | false =>
      have hne:=Nat.ne_of_beq_eq_false e
      simp only
      rw[ih (k+1) (by omega)]
      obtain⟨m,hm⟩:∃m,t - k=m+1:=⟨t - k - 1,by omega⟩
      rw[hm,show t - (k+1)=m by omega]
      simp
theorem Cb{fn:Func}{B:Code}{f:FuncId}{args:List Value}{n:Nat}{L:List (Nat×Value)}{R:Value→Heap→Prop}(hf:P.funcs[f]? =some fn)(hb:fn.body =some B)(hn:args.length +(fn.ntmps - args.length)=n)
    (hL:tw 0 args=L) (hc:∀a,Fr a n L→C P (sub B []) (qp P fn R) a h):Sat P f args.toArray h R:=by
  intro w hw
  refine calls_of_wp hf hb ?_
  subst hL
  have hB:sub B []=B:=by cases B<;>rfl
  rw[hB] at hc
  refine wp_mono (hc {tmps:=args.toArray ++Array.replicate (fn.ntmps - args.toArray.size) undef,defers:=[]} ⟨rfl,by simp[←hn],fun t=> ?_⟩ w hw) ?_
  · rw [zh _ 0 t _ (Nat.zero_le t), Nat.sub_zero]
    by_cases ht:t<args.length
    · simp[Array.getElem?_append,ht]
    · simp[List.getElem?_eq_none (Nat.le_of_not_lt ht)]
  · rintro e a w' ⟨hs, hk⟩
    cases e with
    |normal=>obtain⟨hd,v,hr,hR⟩:=hk;exact⟨hd,v,hr w' rfl,v,rfl,hs,hR⟩
    |ret=>obtain⟨hd,v,hr,hR⟩:=hk;exact⟨hd,v,hr w' rfl,v,rfl,hs,hR⟩
    |exit i=>exact hk
    |goto l=>exact hk
    |panic c=>exact hk.elim
    |outgrown=>exact hk.elim
def Loads(P:Program)(h:Heap)(T:TypeId)(p:Addr)(v:Value):Prop:=∀w:World,w.heap =h→(loadVar T p).run P w= .ok v w
def vx(P:Program)(b:Nat→Value)(h:Heap):ResultVar→Value→Prop
  | .tmp t,v=>b t=v
  | .cell t T,v=>∃p,b t= .pointer (some p)∧Loads P h T p v
def nI(P:Program)(b:Nat→Value)(h:Heap):List ResultVar→List Value→Prop
  |[],[]=>True
  |r::rs,v::vs=>vx P b h r v∧nI P b h rs vs
  |_,_=>False
def qq:List Value→Value
  |[v]=>v
  |vs=> .tuple vs.toArray
def nJ(tmps:Array Value):ResultVar→Sem Value
  | .tmp t=>pure (tmps.getD t undef)
  | .cell a t=>do loadVar t (←asAddr (tmps.getD a undef))
theorem qt{tmps:Array Value}{w:World}(hw:w.heap =h){r:ResultVar}{v:Value}(hr:vx P (fun t=>tmps.getD t undef) h r v):(nJ tmps r).run P w= .ok v w:=by
  cases r with
  |tmp t=>simp only[vx] at hr;subst hr;rfl
  | cell t T =>
    obtain⟨p,hp,hl⟩:=hr
    have hp':tmps.getD t undef= .pointer (some p):=hp
    simp only[nJ,hp',asAddr,Sem.run_bind,Sem.run_pure,Result.andThen_ok,hl w hw]
theorem oM{tmps:Array Value}{w:World}(hw:w.heap =h):∀(rs:List ResultVar) (vs:List Value),nI P (fun t=>tmps.getD t undef) h rs vs→
    (rs.mapM (nJ tmps)).run P w= .ok vs w
  |[],[],_=>by simp
  | r :: rs, v :: vs, hr => by
    rw[List.mapM_cons]
    simp only[Sem.run_bind,qt hw hr.1,Result.andThen_ok,oM hw rs vs hr.2,Sem.run_pure]
  |[],_::_,hr=>hr.elim
  |_::_,[],hr=>hr.elim
theorem qu{fn:Func}{tmps:Array Value}{rs:List ResultVar}{vs:List Value}(hr:fn.results =rs.toArray)(ho:nI P (fun t=>tmps.getD t undef) h rs vs)(w:World)(hw:w.heap =h):
    (results fn tmps).run P w= .ok (qq vs) w:=by
  have e:results fn tmps=(do let vs←fn.results.mapM (nJ tmps);pure (if h:vs.size =1 then vs[0] else .tuple vs)):=by
    unfold results
    congr 2
  rw[e,hr,List.mapM_toArray]
  simp only[Sem.run_bind,Sem.run_map,oM hw rs vs ho,Result.andThen_ok,Sem.run_pure]
  congr 1
  match vs with
  |[]=>rfl
  |[v]=>rfl
  |v::u::vs=>simp[qq]
theorem aI{fn:Func}{n:Nat}{L:List (Nat×Value)}{a:Act}{R:Value→Heap→Prop}(rs:List ResultVar)(vs:List Value)(v:Value)(hr:fn.results =rs.toArray)(hf:Fr a n L)
    (ho:nI P (fun t=>lk L t (a.tmps.getD t undef)) h rs vs) (hv:qq vs=v) (hR:R v h):qp P fn R .ret a h:=by
  subst hv
  refine⟨hf.defers,_,fun w hw=>qu hr ?_ w hw,hR⟩
  have:(fun t=>lk L t (a.tmps.getD t undef))=fun t=>a.tmps.getD t undef:=funext fun t=>(hf.get t).symm
  rwa [this] at ho
end
end Go.aj
namespace Go.aj
open Go
section
variable {P:Program} {ops:Array Oper} {base:Nat→Value} {vals:aR} {h:Heap} {i:Nat} {K:Exit→Act→Heap→Prop}
theorem k7{x:Int}(h1: -9223372036854775808≤x)(h2:x≤9223372036854775807):IntKind.i64.wrap x=x:=by
  simp only[IntKind.wrap,IntKind.bits,IntKind.signed]
  simp
  omega
def iV (ops : Array Oper) (base : Nat → Value) (vals : aR) (i : Nat) : Option Oper :=
  match ops[i]? with
  | some o => match b4 ops (env ops base vals i) o with
    |true=>some o
    |false=>none
  |none=>none
theorem zi{R:Value→Heap→Prop}{o:Oper}(ho:iV ops base vals i=some o)(hf:l4 P (env ops base vals i) o h R):Does P ops base vals i h R:=by
  unfold iV at ho
  cases h1:ops[i]? with
  |none=>simp[h1] at ho
  | some o' =>
    simp only[h1] at ho
    cases h2:b4 ops (env ops base vals i) o' with
    |false=>simp[h2] at ho
    | true =>
      simp only[h2,Option.some.injEq] at ho
      subst ho
      exact⟨_,h1,h2,hf⟩
theorem aS{R:Value→Heap→Prop}{α:Type}{f:Oper→Option α}{x:α}(hx:(iV ops base vals i).bind f=some x)(hf:∀o,f o=some x→l4 P (env ops base vals i) o h R):Does P ops base vals i h R:=by
  cases h1:iV ops base vals i with
  |none=>simp[h1] at hx
  |some o=>exact zi h1 (hf o (by simpa[h1] using hx))
/-! a call -/
def Bp(P:Program)(e:Operand→Value)(o:Oper):Option (FuncId×Array Value):=
  match iU P (execOp e o) with
  |some (.enter f args)=>some (f,args)
  |_=>none
def qv(P:Program)(ops:Array Oper)(base:Nat→Value)(vals:aR)(i:Nat):Option (FuncId×Array Value):=(iV ops base vals i).bind (Bp P (env ops base vals i))
theorem Does.call{R:Value→Heap→Prop}{f:FuncId}{args:Array Value}(hx:qv P ops base vals i=some (f,args))(hs:Sat P f args h R):Does P ops base vals i h R:=by
  refine aS hx fun o ho w hw=> ?_
  unfold Bp at ho
  cases hc:iU P (execOp (env ops base vals i) o) with
  |none=>simp[hc] at ho
  | some x =>
    rw[hc] at ho
    cases x<;>simp only[Option.some.injEq,Prod.mk.injEq] at ho<;>first| (cases ho;done)|skip
    obtain⟨rfl,rfl⟩:=ho
    rw[fg hc w]
    exact⟨Same.refl w,hw▸hs⟩
/-! a load -/
def Bq (e : Operand → Value) (o : Oper) : Option (TypeId × Addr) :=
  match o.op with
  | .load t x => match e x with
    | .pointer (some p)=>some (t,p)
    |_=>none
  |_=>none
def ei(ops:Array Oper)(base:Nat→Value)(vals:aR)(i:Nat):Option (TypeId×Addr):=(iV ops base vals i).bind (Bq (env ops base vals i))
theorem Calm.load {T : TypeId} {p : Addr} {v : Value} (hx : ei ops base vals i = some (T, p)) (hl : Loads P h T p v) : Calm P ops base vals i h v := by
  refine aS hx fun o ho w hw=> ?_
  unfold Bq at ho
  cases hop:o.op with
  | load t x =>
    simp only[hop] at ho
    cases hv:env ops base vals i x with
    | pointer a =>
      cases a with
      |none=>simp[hv] at ho
      | some a =>
        simp only[hv,Option.some.injEq,Prod.mk.injEq] at ho
        obtain⟨rfl,rfl⟩:=ho
        have hr:(execOp (env ops base vals i) o).run P w= .ok (.value v) w:=by
          unfold execOp
          simp only[hop,Instr.loadAt,hv,Instr.sureAddr,Sem.run_bind,Sem.run_pure,Result.andThen_ok,hl w hw]
        rw[hr]
        exact⟨Same.refl w,rfl,hw⟩
    |_=>simp[hv] at ho
  |_=>simp[hop] at ho
def cG(P:Program)(T:TypeId):Option (Bool×Nat):=
  match P.underlying T,P.info? T with
  |some d,some i=>some ((match d with| .struct _| .array _ _=>true|_=>false),i.size)
  |_,_=>none
theorem Loads.one {T : TypeId} {p : Addr} {v : Value} {k : Nat} (ht : cG P T = some (false, k)) (hc : hcell h p = some v) : Loads P h T p v := by
  intro w hw
  unfold cG at ht
  cases hd:P.underlying T with
  |none=>simp[hd] at ht
  | some d =>
    cases hi:P.info? T with
    |none=>simp[hd,hi] at ht
    | some x =>
      simp only[hd,hi,Option.some.injEq,Prod.mk.injEq] at ht
      have hc':w.cell? p=some v:=by rw[dZ hw];exact hc
      have ha:(isAgg T).run P w= .ok false w:=by
        unfold isAgg
        simp only[Sem.run_bind,run_underlying hd,Result.andThen_ok]
        cases d<;>first|rfl| (simp at ht)
      simp only[loadVar,Sem.run_bind,ha,Result.andThen_ok]
      simp[load,Sem.run,hc']
theorem Loads.agg {T : TypeId} {p : Addr} {vs : List Value} (ht : cG P T = some (true, vs.length)) (hc : ∀ j u, vs[j]? = some u → hcell h (p.add j) = some u) : Loads P h T p (.agg vs.toArray) := by
  intro w hw
  unfold cG at ht
  cases hd:P.underlying T with
  |none=>simp[hd] at ht
  | some d =>
    cases hi:P.info? T with
    |none=>simp[hd,hi] at ht
    | some x =>
      simp only[hd,hi,Option.some.injEq,Prod.mk.injEq] at ht
      have ha:(isAgg T).run P w= .ok true w:=by
        unfold isAgg
        simp only[Sem.run_bind,run_underlying hd,Result.andThen_ok]
        cases d<;>first|rfl| (simp at ht)
      have hs:(sizeOf T).run P w= .ok vs.length w:=by
        simp[sizeOf,typeInfo,hi,ht.2]
      have hl:=run_loadCells_list (P:=P) w p vs (fun j u hu=>by rw[dZ hw];exact hc j u hu)
      simp[loadVar,ha,hs,hl]
/-! a store -/
def qw (P : Program) (e : Operand → Value) (o : Oper) : Option (Addr × List Value) :=
  match o.op with
  | .store t x y => match e x, P.info? t with
    | .pointer (some p), some i => match Nat.beq (e y).cells.size i.size with
      |true=>some (p,(e y).cells.toList)
      |false=>none
    |_,_=>none
  |_=>none
def eZ(P:Program)(ops:Array Oper)(base:Nat→Value)(vals:aR)(i:Nat):Option (Addr×List Value):=(iV ops base vals i).bind (qw P (env ops base vals i))
def splice(l:List Value)(off:Nat)(vs:List Value):List Value:=l.take off++vs++l.drop (off+vs.length)
def hput(h:Heap)(b:Nat)(o:Obj):Heap:=h.setIfInBounds b o
theorem fh{h:Heap}{b:Nat}{o x:Obj}(e:h[b]? =some x):(hput h b o)[b]? =some o:=by
  simp[hput,ak e]
theorem jR(h:Heap)(b:Nat)(o:Obj):Grew (some b) h (hput h b o):=
  ⟨by simp[hput],fun k _ hne=>by simp only[hput];rw[Array.getElem?_setIfInBounds_ne];simpa using Ne.symm (by simpa using hne)⟩
theorem ke{w:World}{b:Nat}{cs cs':Array Value}{E:TypeId}{fr:Nat×Nat}(e:w.heap[b]? =some (.cells cs E fr)):(w.setRow b cs').heap =hput w.heap b (.cells cs' E fr):=by
  apply Array.ext_getElem?
  intro k
  by_cases hk:k=b
  · subst hk
    rw[setRow_heap w k cs cs' E fr e,fh e]
  · rw [setRow_other w b k cs' hk]
    simp only[hput]
    rw[Array.getElem?_setIfInBounds_ne (Ne.symm hk)]
theorem Does.store{b off:Nat}{vs l:List Value}{E:TypeId}(hx:eZ P ops base vals i=some (⟨b,off,none⟩,vs))(hb:h[b]? =some (.cells l.toArray E (0,0)))
    (hfit:off+vs.length ≤l.length) (h1:∀v∈vs,v.oneCell' =true):
    Does P ops base vals i h fun v h'=>v=undef∧h'=hput h b (.cells (splice l off vs).toArray E (0,0)):=by
  refine aS hx fun o ho w hw=> ?_
  unfold qw at ho
  cases hop:o.op with
  | store t x y =>
    simp only[hop] at ho
    cases hv:env ops base vals i x with
    | pointer a =>
      cases a with
      |none=>simp[hv] at ho
      | some a =>
        cases hi:P.info? t with
        |none=>simp[hv,hi] at ho
        | some inf =>
          simp only[hv,hi] at ho
          cases hs:Nat.beq (env ops base vals i y).cells.size inf.size with
          |false=>simp[hs] at ho
          | true =>
            simp only[hs,Option.some.injEq,Prod.mk.injEq] at ho
            obtain⟨rfl,rfl⟩:=ho
            have hsz:=Nat.eq_of_beq_eq_true hs
            subst hw
            have hst:=run_storeCells_at P b off E (env ops base vals i y).cells.toList 0 l.toArray w hb (by simpa using hfit) h1
            simp only[Nat.add_zero] at hst
            have hr:(execOp (env ops base vals i) o).run P w= .ok .skip (w.setRow b (splice l off (env ops base vals i y).cells.toList).toArray):=by
              unfold execOp
              simp only[hop,Instr.storeAt,hv,Instr.sureAddr,storeVar,sizeOf,typeInfo,program,Sem.run_bind,Sem.run_pure,Result.andThen_ok,Sem.run,hi,hsz]
              simp[hst,splice]
            rw[hr]
            exact⟨⟨rfl,rfl,rfl⟩,rfl,ke hb⟩
    |_=>simp[hv] at ho
  |_=>simp[hop] at ho
/-! new blocks: one, of known contents -/
def newR (P : Program) {α : Type} (nb : Nat) : Sem α → Option (α × Obj)
  | .new o k => match iU P (k nb) with
    |some a=>some (a,o)
    |none=>none
  | .program k=>newR P nb (k P)
  | .mark _ k=>newR P nb k
  |_=>none
theorem k8{α:Type}{w:World}{nb:Nat}(hn:nb=w.heap.size):∀{s:Sem α} {a:α} {o:Obj},newR P nb s=some (a,o)→s.run P w= .ok a {w with heap:=w.heap.push o}
  | .new o k, a, o', hh => by
    simp only[newR] at hh
    cases hc:iU P (k nb) with
    |none=>simp[hc] at hh
    | some x =>
      simp only[hc,Option.some.injEq,Prod.mk.injEq] at hh
      obtain⟨rfl,rfl⟩:=hh
      simp only[Sem.run, ←hn]
      exact fg hc _
  | .program k,a,o',hh=>k8 hn (s:=k P) hh
  | .mark _ k,a,o',hh=>k8 hn (s:=k) hh
  | .pure _,_,_,hh=>by simp[newR] at hh
  | .load ..,_,_,hh=>by simp[newR] at hh
  | .store ..,_,_,hh=>by simp[newR] at hh
  | .shape ..,_,_,hh=>by simp[newR] at hh
  | .freeze ..,_,_,hh=>by simp[newR] at hh
  | .frozen ..,_,_,hh=>by simp[newR] at hh
  | .getObj ..,_,_,hh=>by simp[newR] at hh
  | .setObj ..,_,_,hh=>by simp[newR] at hh
  | .choose ..,_,_,hh=>by simp[newR] at hh
  | .sys ..,_,_,hh=>by simp[newR] at hh
  | .halt ..,_,_,hh=>by simp[newR] at hh
def newF(P:Program)(nb:Nat)(e:Operand→Value)(o:Oper):Option (Value×Obj):=
  match newR P nb (execOp e o) with
  |some (.value v,o)=>some (v,o)
  |_=>none
def vy(P:Program)(ops:Array Oper)(base:Nat→Value)(vals:aR)(i nb:Nat):Option (Value×Obj):=(iV ops base vals i).bind (newF P nb (env ops base vals i))
theorem Does.new{v:Value}{o:Obj}(hx:vy P ops base vals i h.size =some (v,o)):Does P ops base vals i h fun v' h'=>v'=v∧h'=h.push o:=by
  refine aS hx fun op ho w hw=> ?_
  subst hw
  unfold newF at ho
  cases hc:newR P w.heap.size (execOp (env ops base vals i) op) with
  |none=>simp[hc] at ho
  | some x =>
    obtain⟨x,o'⟩:=x
    rw[hc] at ho
    cases x<;>simp only[Option.some.injEq,Prod.mk.injEq] at ho<;>first| (cases ho;done)|skip
    obtain⟨rfl,rfl⟩:=ho
    rw[k8 rfl hc]
    exact⟨⟨rfl,rfl,rfl⟩,rfl,rfl⟩
/-! an element's address -/
def KQ (P : Program) (e : Operand → Value) (o : Oper) : Option (Addr × Nat × Nat × Int) :=
  match o.op with
  | .indexAddr t x ix => match e ix with
    | .int _ n => match P.underlying t with
      | some (.slice el) => match e x, P.info? el with
        | .slice (some a) len _,some i=>some (a,len,i.size,n)
        |_,_=>none
      | some (.array len el) => match e x, P.info? el with
        | .pointer (some a),some i=>some (a,len,i.size,n)
        |_,_=>none
      |_=>none
    |_=>none
  |_=>none
def qx(P:Program)(ops:Array Oper)(base:Nat→Value)(vals:aR)(i:Nat):Option (Addr×Nat×Nat×Int):=(iV ops base vals i).bind (KQ P (env ops base vals i))
theorem Calm.index {a : Addr} {len sz : Nat} {k : Int} (j : Nat) (hx : qx P ops base vals i = some (a, len, sz, k)) (hk : k = (j : Int)) (hj : j < len) (h : Heap) : Calm P ops base vals i h (.pointer (some (a.add (j * sz)))) := by
  subst hk
  refine aS hx fun o ho w hw=> ?_
  have hlt:(0:Int)≤(j:Int)∧(j:Int)<(len:Int):=⟨by omega,by omega⟩
  have hr : (execOp (env ops base vals i) o).run P w = .ok (.value (.pointer (some (a.add (j * sz))))) w := by
    unfold KQ at ho
    cases hop:o.op with
    | indexAddr t x ix =>
      simp only[hop] at ho
      cases hi:env ops base vals i ix with
      | int kk n =>
        simp only[hi] at ho
        cases hu:P.underlying t with
        |none=>simp[hu] at ho
        | some d =>
          cases d<;>simp only[hu] at ho<;>first| (cases ho;done)|skip
          · rename_i el
            cases hv:env ops base vals i x with
            | slice b l c =>
              cases b with
              |none=>simp[hv] at ho
              | some b =>
                cases k9:P.info? el with
                |none=>simp[hv,k9] at ho
                | some inf =>
                  simp only[hv,k9,Option.some.injEq,Prod.mk.injEq] at ho
                  obtain⟨rfl,rfl,rfl,rfl⟩:=ho
                  unfold execOp
                  simp[hop,Instr.indexAt,hi,hv,asIntOf,run_underlying hu,sizeOf,typeInfo,k9,hlt]
                  omega
            |_=>simp[hv] at ho
          · rename_i n' el
            cases hv:env ops base vals i x with
            | pointer b =>
              cases b with
              |none=>simp[hv] at ho
              | some b =>
                cases k9:P.info? el with
                |none=>simp[hv,k9] at ho
                | some inf =>
                  simp only[hv,k9,Option.some.injEq,Prod.mk.injEq] at ho
                  obtain⟨rfl,rfl,rfl,rfl⟩:=ho
                  unfold execOp
                  simp[hop,Instr.indexAt,hi,hv,asIntOf,run_underlying hu,sizeOf,typeInfo,k9,hlt,Instr.sureAddr]
                  omega
            |_=>simp[hv] at ho
      |_=>simp[hi] at ho
    |_=>simp[hop] at ho
  rw[hr]
  exact⟨Same.refl w,rfl,hw⟩
/-! a piece of a slice -/
def eM (e : Operand → Value) : Option Operand → Option (Option Int)
  |none=>some none
  | some x => match e x with
    | .int _ n=>some (some n)
    |_=>none
def KR (P : Program) (e : Operand → Value) (o : Oper) : Option (Option Addr × Nat × Nat × Nat × Option Int × Option Int × Option Int) :=
  match o.op with
  | .slice t x lo hi mx => match P.underlying t with
    | some (.slice el) => match e x, P.info? el, eM e lo, eM e hi, eM e mx with
      | .slice a len cap,some i,some l,some h,some m=>some (a,len,cap,i.size,l,h,m)
      |_,_,_,_,_=>none
    |_=>none
  |_=>none
def Cc(P:Program)(ops:Array Oper)(base:Nat→Value)(vals:aR)(i:Nat):=(iV ops base vals i).bind (KR P (env ops base vals i))
theorem k_{e:Operand→Value}{x:Option Operand}{r:Option Int}(hx:eM e x=some r):(x=none∧r=none)∨∃k n,x.map e=some (.int k n)∧r=some n:=by
  cases x with
  |none=>simp only[eM,Option.some.injEq] at hx;exact .inl ⟨rfl,hx.symm⟩
  | some y =>
    simp only[eM] at hx
    cases hv:e y with
    |int k n=>simp only[hv,Option.some.injEq] at hx;exact .inr ⟨k,n,by simp[hv],hx.symm⟩
    |_=>simp[hv] at hx
theorem mm{k:IntKind}{n m:Nat}(hn:n≤m)(c:BoundsCode)(w:World):(Instr.sliceBound (.int k (n:Int)) m c).run P w= .ok n w:=by
  have:(0:Int)≤(n:Int)∧(n:Int)≤(m:Int):=⟨by omega,by omega⟩
  simp[Instr.sliceBound,asIntOf,this]
theorem qy{len cap l r m:Nat}{lo hi mx:Option Value}(hm:mx=none∧m=cap∨(∃k,mx=some (.int k (m:Int)))∧m≤cap∧hi.isSome =true)(hr:hi=none∧r=len∨∃k,hi=some (.int k (r:Int)))
    (hl:lo=none∧l=0∨∃k,lo=some (.int k (l:Int))) (hlr:l≤r) (hrm:r≤m) (w:World):(Instr.sliceBounds true len cap lo hi mx).run P w= .ok (l,r,m) w:=by
  rcases hm with⟨rfl,rfl⟩|⟨⟨k3,rfl⟩,hm2,Ej⟩<;>rcases hr with⟨rfl,rfl⟩|⟨k2,rfl⟩<;>rcases hl with⟨rfl,rfl⟩|⟨k1,rfl⟩<;>
    first| (simp at Ej;done)|simp[Instr.sliceBounds,mm,hlr,hrm,hm2]|simp[Instr.sliceBounds,mm,hlr,hrm]
theorem gQ{e:Operand→Value}{x:Option Operand}{n:Int}(hx:eM e x=some (some n)):∃k,x.map e=some (.int k n):=by
  rcases k_ hx with⟨_,h⟩|⟨k,n',h1,h2⟩
  · cases h
  · simp only[Option.some.injEq] at h2;subst h2;exact⟨k,h1⟩
theorem jS{e:Operand→Value}{x:Option Operand}(hx:eM e x=some none):x.map e=none:=by
  rcases k_ hx with⟨h,_⟩|⟨k,n',h1,h2⟩
  · subst h;rfl
  · cases h2
theorem Calm.slice {a : Option Addr} {len cap sz : Nat} {lo hi mx : Option Int} (l r m : Nat) (hx : Cc P ops base vals i = some (a, len, cap, sz, lo, hi, mx))
    (hm:mx=none∧m=cap∨mx=some (m:Int)∧m≤cap∧hi.isSome =true) (hr:hi=none∧r=len∨hi=some (r:Int)) (hl:lo=none∧l=0∨lo=some (l:Int)) (hlr:l≤r) (hrm:r≤m) (h:Heap):
    Calm P ops base vals i h (.slice (if m=l then a else a.map (·.add (l*sz))) (r - l) (m - l)):=by
  refine aS hx fun o ho w hw=> ?_
  have hrun:(execOp (env ops base vals i) o).run P w= .ok (.value (.slice (if m=l then a else a.map (·.add (l*sz))) (r - l) (m - l))) w:=by
    unfold KR at ho
    cases hop:o.op with
    | slice t x lo' hi' mx' =>
      simp only[hop] at ho
      cases hu:P.underlying t with
      |none=>simp[hu] at ho
      | some d =>
        cases d<;>simp only[hu] at ho<;>first| (cases ho;done)|skip
        rename_i el
        cases hv:env ops base vals i x with
        | slice b le ca =>
          cases k9:P.info? el with
          |none=>simp[hv,k9] at ho
          | some inf =>
            simp only[hv,k9] at ho
            cases h1:eM (env ops base vals i) lo' with
            |none=>simp[h1] at ho
            | some lo1 =>
              cases h2:eM (env ops base vals i) hi' with
              |none=>simp[h1,h2] at ho
              | some hi1 =>
                cases h3:eM (env ops base vals i) mx' with
                |none=>simp[h1,h2,h3] at ho
                | some mx1 =>
                  simp only[h1,h2,h3,Option.some.injEq,Prod.mk.injEq] at ho
                  obtain⟨rfl,rfl,rfl,rfl,rfl,rfl,rfl⟩:=ho
                  have hb:(Instr.sliceBounds true le ca (lo'.map (env ops base vals i)) (hi'.map (env ops base vals i)) (mx'.map (env ops base vals i))).run P w= .ok (l,r,m) w:=by
                    refine qy ?_ ?_ ?_ hlr hrm w
                    · rcases hm with ⟨e1, e2⟩ | ⟨e1, e2, e3⟩
                      · subst e1;exact .inl ⟨jS h3,e2⟩
                      · subst e1
                        refine .inr ⟨gQ h3,e2, ?_⟩
                        cases hi1 with
                        |none=>simp at e3
                        |some q=>obtain⟨k,hk⟩:=gQ h2;rw[hk];rfl
                    · rcases hr with ⟨e1, e2⟩ | e1
                      · subst e1;exact .inl ⟨jS h2,e2⟩
                      · subst e1;exact .inr (gQ h2)
                    · rcases hl with ⟨e1, e2⟩ | e1
                      · subst e1;exact .inl ⟨jS h1,e2⟩
                      · subst e1;exact .inr (gQ h1)
                  unfold execOp
                  simp[hop,Instr.sliceAt,Instr.slice,hv,run_underlying hu,sizeOf,typeInfo,k9,hb]
        |_=>simp[hv] at ho
    |_=>simp[hop] at ho
  rw[hrun]
  exact⟨Same.refl w,rfl,hw⟩
end
end Go.aj
namespace Go.aj
open Go
section
variable {P:Program} {h:Heap}
theorem aG{ops:Array Oper}{base:Nat→Value}{vals:aR}{i:Nat}{v:Value}(hc:Calm P ops base vals i h v)(hv:vals i=v:=by rfl):Good P ops base vals h i:=by
  obtain⟨o,ho,hw,hf⟩:=hc.does
  exact⟨o,ho, .inl ⟨hw,by rw[hv];exact hf⟩⟩
theorem Loads.blk{T:TypeId}{b off:Nat}{vs:List Value}{cs:Array Value}{E:TypeId}{fr:Nat×Nat}(ht:cG P T=some (true,vs.length))(hb:h[b]? =some (.cells cs E fr))(hv:(cs.toList.drop off).take vs.length =vs):Loads P h T ⟨b,off,none⟩ (.agg vs.toArray):=by
  refine Loads.agg ht fun j u hu=> ?_
  rw[add_lit,an hb]
  rw[←hv,List.getElem?_take] at hu
  split at hu
  · rw[List.getElem?_drop] at hu;simpa using hu
  · cases hu
end
end Go.aj
namespace Go.aj
open Go
section
variable {P:Program} {ops:Array Oper} {base:Nat→Value} {vals:aR} {h:Heap} {i:Nat}
theorem fY{x y:Int}(h1: -9223372036854775808≤x)(h2:x≤9223372036854775807)(e:x=y):IntKind.i64.wrap x=y:=e▸k7 h1 h2
/-! a shift by a number that is told elsewhere -/
def HS (e : Operand → Value) (o : Oper) : Option (Bool × IntKind × Int × Int) :=
  match o.op with
  | .binOp .shr _ x y _ => match e x, e y with
    | .int k a, .int _ b=>some (true,k,a,b)
    |_,_=>none
  | .binOp .shl _ x y _ => match e x, e y with
    | .int k a, .int _ b=>some (false,k,a,b)
    |_,_=>none
  |_=>none
def zj(ops:Array Oper)(base:Nat→Value)(vals:aR)(i:Nat):=(iV ops base vals i).bind (HS (env ops base vals i))
theorem Calm.shr {k : IntKind} {x y : Int} (n : Nat) (hx : zj ops base vals i = some (true, k, x, y)) (hy : y = (n : Int)) (hn : n ≤ k.bits) (h : Heap) : Calm P ops base vals i h (.int k (x.fdiv (2 ^ n))) := by
  subst hy
  refine aS hx fun o ho w hw=> ?_
  have hr:(execOp (env ops base vals i) o).run P w= .ok (.value (.int k (x.fdiv (2^n)))) w:=by
    unfold HS at ho
    cases hop:o.op with
    | binOp op T a b T' =>
      cases op<;>simp only[hop] at ho<;>first| (cases ho;done)|skip
      · cases ha:env ops base vals i a<;>cases hb:env ops base vals i b<;>simp[ha,hb] at ho
      · cases ha : env ops base vals i a <;> cases hb : env ops base vals i b <;> simp only [ha, hb] at ho <;> first | (cases ho; done) | skip
        simp only[Option.some.injEq,Prod.mk.injEq,true_and] at ho
        obtain⟨rfl,rfl,rfl⟩:=ho
        have hneg:¬((n:Int)<0):=by omega
        unfold execOp
        simp[hop,eqGuard,binOp,ha,hb,Op.shift,hneg,Nat.min_eq_left hn]
    |_=>simp[hop] at ho
  rw[hr]
  exact⟨Same.refl w,rfl,hw⟩
/-! append to one's own -/
def vz (P : Program) (t : TypeId) : Option (TypeId × Nat × Nat × Bool) :=
  match P.underlying t with
  | some (.slice e) => match P.info? e with
    |some i=>some (e,i.size,i.bytes,match i.zero with|some z=>Nat.beq z.cells.size i.size &&Nat.blt 0 i.size |none=>false)
    |none=>none
  |_=>none
theorem iW{t E:TypeId}{sz dV:Nat}(he:vz P t=some (E,sz,dV,true)):P.underlying t=some (.slice E)∧∃i z,P.info? E=some i∧i.zero =some z∧i.size =sz∧i.bytes =dV∧z.cells.size =sz∧0<sz:=by
  unfold vz at he
  cases hu:P.underlying t with
  |none=>simp[hu] at he
  | some d =>
    cases d<;>simp only[hu] at he<;>first| (cases he;done)|skip
    rename_i e
    cases hi:P.info? e with
    |none=>simp[hi] at he
    | some x =>
      simp only[hi,Option.some.injEq,Prod.mk.injEq] at he
      obtain⟨rfl,h1,h2,h3⟩:=he
      cases hz:x.zero with
      |none=>simp[hz] at h3
      | some z =>
        simp only[hz,Bool.and_eq_true] at h3
        have h4:=Nat.eq_of_beq_eq_true h3.1
        have h5:0<x.size :=by simpa using h3.2
        exact⟨rfl,x,z,hi,hz,h1,h2,by omega,by omega⟩
def HT (e : Operand → Value) (o : Oper) : Option (TypeId × TypeId × Value × Value) :=
  match o.op with
  | .call c => match c.callee, c.args.toList, c.argTypes.toList with
    | .builtin .append,[s,x],[t,t']=>some (t,t',e s,e x)
    |_,_,_=>none
  |_=>none
def nK(ops:Array Oper)(base:Nat→Value)(vals:aR)(i:Nat):=(iV ops base vals i).bind (HT (env ops base vals i))
theorem nL{e:Operand→Value}{o:Oper}{t t':TypeId}{v x:Value}(hx:HT e o=some (t,t',v,x))(w:World){r:Value}{w':World}(hr:(Builtin.append_ #[t,t'] o.type #[v,x]).run P w= .ok r w'):
    (execOp e o).run P w= .ok (.value r) w':=by
  unfold HT at hx
  cases hop:o.op with
  | call c =>
    obtain⟨cal,args,tys⟩:=c
    obtain⟨args⟩:=args
    obtain⟨tys⟩:=tys
    simp only[hop] at hx
    split at hx
    · skip
      simp only[Option.some.injEq,Prod.mk.injEq] at hx
      obtain⟨rfl,rfl,rfl,rfl⟩:=hx
      unfold execOp
      simp only[hop,resolve,invoke,builtin,Sem.run_bind,Sem.run_pure,Result.andThen_ok,List.map_toArray,List.map_cons,List.map_nil,hr]
    · cases hx
  |_=>simp[hop] at hx
theorem Does.append{t E:TypeId}{sz dV n m:Nat}{v x:Value}{xs ys:List Value}(hx:nK ops base vals i=some (t,t,v,x))(he:vz P t=some (E,sz,dV,true))
    (ho:Own h v E n sz xs) (hr:Row h x m sz ys) (h1:∀u∈ys,u.oneCell' =true) (hlen:n+m≤maxLen) (hbytes:(n+m)*dV≤140737488355328):
    Does P ops base vals i h fun v' h'=>Own h' v' E (n+m) sz (xs++ys)∧Grew (a6 v) h h'∧(a6 v'=a6 v∨a6 v'=some h.size)∧(v'= .slice none 0 0∨∃a c,v'= .slice (some a) (n+m) c):=by
  obtain⟨hu,inf,z,hi,hz,hsize,hby,hzs,hpos⟩:=iW he
  subst hsize;subst hby
  have hlen':(xs++ys).length =(n+m)*inf.size :=by rw[List.length_append,ho.1,hr.1,Nat.add_mul]
  have h63:n+m≤9223372036854775807:=by simp only[maxLen] at hlen;omega
  refine aS hx fun o hop w hw=> ?_
  subst hw
  -- a new row
  have grown:∀(old:Nat),old<n+m→∀b,(w.drew.alloc (.cells (xs.toArray ++ys.toArray ++Builtin.zeroCells z.cells (grownCap w (n+m) old E - (n+m))) E)).heap =b→
      Own b (.slice (some ⟨w.heap.size,0,none⟩) (n+m) (grownCap w (n+m) old E)) E (n+m) inf.size (xs++ys)∧Ext w.heap b:=by
    intro old hold b hb
    subst hb
    have hge:=grownCap_ge w (n+m) old E
    have hcm:=grownCap_le_maxLen w (n+m) old E hlen
    refine⟨⟨hlen', .inr ⟨w.heap.size,0,_,_,rfl,heap_alloc_new w.drew _,hge,hcm, ?_, ?_⟩⟩,Ext.push _ _⟩
    · simp only [Array.size_append, List.size_toArray, size_zeroCells, hzs, ho.1, hr.1, ← Nat.add_mul]
      apply Nat.le_of_eq
      rw[Nat.zero_add]
      congr 1
      omega
    · simp only [Array.toList_append, List.append_assoc, List.drop_zero]
      rw[←List.append_assoc, ←hlen']
      exact List.take_left
  suffices key:∃v' w',(Builtin.append_ #[t,t] o.type #[v,x]).run P w= .ok v' w'∧Same w w'∧Own w'.heap v' E (n+m) inf.size (xs++ys)∧Grew (a6 v) w.heap w'.heap ∧(a6 v'=a6 v∨a6 v'=some w.heap.size)∧
      (v'= .slice none 0 0∨∃a c,v'= .slice (some a) (n+m) c) by
    obtain⟨v',w',hrun,hs,r⟩:=key
    rw[nL hop w hrun]
    exact⟨hs,r⟩
  rcases ho.2 with⟨hv,hn⟩|⟨g,off,cap,l,hv,hg,hnc,hcm,hfit,htake⟩
  · subst hv; subst hn
    have hxs:xs=[]:=List.eq_nil_of_length_eq_zero (by simpa using ho.1)
    subst hxs
    by_cases hm:m=0
    · subst hm
      have hys:ys=[]:=List.eq_nil_of_length_eq_zero (by simpa using hr.1)
      subst hys
      refine⟨.slice none 0 0,w, ?_,Same.refl w,Own.nil _ _ _,Grew.refl _ _, .inl rfl, .inl rfl⟩
      rcases hr.2 with⟨hxv,_⟩|⟨a,c,hxv,_,_⟩<;>subst hxv<;>
        simp[Builtin.append_,run_underlying hu,sizeOf,typeInfo,hi,Builtin.lenOf,Builtin.firstCells,loadCells,loadCellsFrom]
    · obtain ⟨a, c, hxv, _, hcells⟩ := hr.at (by omega)
      subst hxv
      have hrun:=run_append_nil (P:=P) w t o.type E inf z hu hi hz a m c ys hr.1 (fun j u hu=>hcells j u hu) (by omega) (by omega) (by have hb:=hbytes;simp only[Nat.zero_add] at hb;omega)
      have hgr:=grown 0 (by omega) _ rfl
      simp only[Nat.zero_add,List.nil_append,Array.empty_append] at hgr⊢
      exact⟨_,_,hrun,⟨rfl,rfl,rfl⟩,hgr.1,hgr.2.but _, .inr rfl, .inr ⟨_,_,rfl⟩⟩
  · subst hv
    by_cases hroom:n+m≤cap
    · have hfirst : (Builtin.firstCells inf.size m x).run P w = .ok ys.toArray w := by
        rcases hr.2 with⟨hxv,hm⟩|⟨a,c,hxv,_,hcells⟩
        · subst hxv; subst hm
          have hys:ys=[]:=List.eq_nil_of_length_eq_zero (by simpa using hr.1)
          subst hys;rfl
        · subst hxv;exact run_firstCells_some (P:=P) w inf.size m a m c ys hr.1 (fun j u hu=>hcells j u hu)
      have hlenx:(Builtin.lenOf x).run P w= .ok m w:=by
        rcases hr.2 with⟨hxv,hm⟩|⟨a,c,hxv,_,_⟩<;>subst hxv<;>simp[Builtin.lenOf, *]
      have hmul:n*inf.size +m*inf.size ≤cap*inf.size :=by rw[←Nat.add_mul];exact Nat.mul_le_mul_right _ hroom
      have vA:(off+n*inf.size)+0+ys.length ≤l.size :=by rw[hr.1];omega
      have hst:=run_storeCells_at P g (off+n*inf.size) E ys 0 l w hg vA h1
      simp only[Nat.add_zero] at hst
      have hrun:(Builtin.append_ #[t,t] o.type #[.slice (some ⟨g,off,none⟩) n cap,x]).run P w=
          .ok (.slice (some ⟨g,off,none⟩) (n+m) cap) (w.setRow g (l.toList.take (off+n*inf.size)++ys++l.toList.drop (off+n*inf.size +ys.length)).toArray):=by
        simp[Builtin.append_,run_underlying hu,sizeOf,typeInfo,hi,hlenx,hroom,hfirst,add_lit,hst]
      have hh:=ke (cs':=(l.toList.take (off+n*inf.size)++ys++l.toList.drop (off+n*inf.size +ys.length)).toArray) hg
      refine⟨_,_,hrun,⟨rfl,rfl,rfl⟩, ?_, ?_, .inl rfl, .inr ⟨_,_,rfl⟩⟩
      · rw [hh]
        refine⟨hlen', .inr ⟨g,off,cap,_,rfl,fh hg,hroom,hcm, ?_, ?_⟩⟩
        · simp only [List.size_toArray, List.length_append, List.length_take, List.length_drop, Array.length_toList]
          rw[hr.1] at vA⊢
          omega
        · simp only [List.append_assoc]
          have hl1:(l.toList.take (off+n*inf.size)).length =off+n*inf.size :=by
            rw[List.length_take,Array.length_toList];rw[hr.1] at vA;omega
          rw[List.drop_append_of_le_length (by omega)]
          have hxs:(l.toList.take (off+n*inf.size)).drop off=xs:=by
            rw[List.drop_take,Nat.add_sub_cancel_left];exact htake
          rw[hxs, ←List.append_assoc, ←hlen']
          exact List.take_left
      · rw[hh];exact jR _ _ _
    · have hm : 0 < m := by omega
      obtain⟨a,c,hxv,_,hcells⟩:=hr.at hm
      subst hxv
      have hrow:=ho.row
      have holds:∀j u,xs[j]? =some u→w.cell? ((⟨g,off,none⟩:Addr).add j)=some u:=by
        intro j u hu'
        obtain⟨a',c',e',_,hc'⟩:=hrow.2.resolve_left (by simp)
        simp only[Value.slice.injEq,Option.some.injEq] at e'
        rw[e'.1]
        exact hc' j u hu'
      have hrun:=run_append_grow (P:=P) w t o.type E inf z hu hi hz ⟨g,off,none⟩ n cap xs ho.1 holds a m c ys hr.1 (fun j u hu=>hcells j u hu) (by omega) (by omega) (growslice_fits (by omega) hbytes)
      have hgr:=grown cap (by omega) _ rfl
      exact⟨_,_,hrun,⟨rfl,rfl,rfl⟩,hgr.1,hgr.2.but _, .inr rfl, .inr ⟨_,_,rfl⟩⟩
end
end Go.aj
namespace Go.aj
open Go
section
variable {P:Program} {ops:Array Oper} {base:Nat→Value} {vals:aR} {i:Nat}
theorem Calm.vB{a:Addr}{len sz:Nat}{k:Int}(j q:Nat)(hx:qx P ops base vals i=some (a,len,sz,k))(hk:k=(j:Int))(hj:j<len)(hq:j*sz=q)(h:Heap):Calm P ops base vals i h (.pointer (some (a.add q))):=
  hq▸Calm.index j hx hk hj h
theorem Calm.indexB{b off len sz:Nat}{k:Int}(j q:Nat)(hx:qx P ops base vals i=some (⟨b,off,none⟩,len,sz,k))(hk:k=(j:Int))(hj:j<len)(hq:off+j*sz=q)(h:Heap):Calm P ops base vals i h (.pointer (some ⟨b,q,none⟩)):=by
  have:=Calm.index (P:=P) j hx hk hj h
  rwa [add_lit,hq] at this
end
end Go.aj
namespace Go.aj
open Go
section
variable {P:Program} {K:Exit→Act→Heap→Prop} {B:Code} {p:List Nat} {a:Act} {h:Heap}
def gR(P:Program)(B:Code)(p0:List Nat)(K:Exit→Act→Heap→Prop):Nat→Act→Heap→Prop
  |0,_,_=>False
  |n+1,a,h=>C P (sub B p0) (fO (gR P B p0 K n) K) a h
theorem ar.step{p0:List Nat}{n:Nat}(hh:C P (sub B p0) (fO (gR P B p0 K n) K) a h):gR P B p0 K (n+1) a h:=hh
theorem C.Cd(n:Nat)(p0:List Nat)(hc:sub B p= .loop (sub B p0))(hh:gR P B p0 K n a h):C P (sub B p) K a h:=by
  rw[hc]
  intro w hw
  refine wp_loop_rounds n ?_
  have key:∀n a w',Same w w'→gR P B p0 K n a w'.heap →Code.rounds P (sub B p0) (fun e a' w''=>Same w w''∧K e a' w''.heap) n a w':=by
    intro n
    induction n with
    |zero=>intro a w' _ hh;exact hh.elim
    | succ n ih =>
      intro a w' hs hh
      refine wp_mono (hh w' rfl) fun e a2 w2 ⟨s,k⟩=> ?_
      cases e with
      |normal=>exact ih a2 w2 (hs.trans s) k
      |exit i=>exact⟨hs.trans s,k⟩
      |goto l=>exact⟨hs.trans s,k⟩
      |ret=>exact⟨hs.trans s,k⟩
      |panic c=>exact⟨hs.trans s,k⟩
      |outgrown=>exact⟨hs.trans s,k⟩
  exact key n a w (Same.refl w) (hw▸hh)
theorem iX(x n:Nat):Int.tmod (x:Int) (n:Int)=((x%n:Nat):Int):=by
  rw[Int.natCast_emod];exact Int.tmod_eq_emod_of_nonneg (Int.natCast_nonneg _)
theorem Ek(x n:Nat):Int.tdiv (x:Int) (n:Int)=((x/n:Nat):Int):=by
  rw[Int.natCast_ediv];exact Int.tdiv_eq_ediv_of_nonneg (Int.natCast_nonneg _)
end
end Go.aj
namespace Go.aj
open Go
theorem bR{h h':Heap}{b off:Nat}{l vs l':List Value}{E:TypeId}{x:Obj}(hh:h'=hput h b (.cells (splice l off vs).toArray E (0,0)))(e:splice l off vs=l')(m:h[b]? =some x):h'[b]? =some (.cells l'.toArray E):=by
  subst hh;rw[e];exact fh m
theorem bC{h h':Heap}{b:Nat}{o:Obj}(hh:h'=hput h b o):Grew (some b) h h':=by subst hh;exact jR _ _ _
theorem bj{h h':Heap}{o:Obj}(hh:h'=h.push o):h'[h.size]? =some o:=by subst hh;exact vw _ _
theorem aY{h h':Heap}{o:Obj}(hh:h'=h.push o):Ext h h':=by subst hh;exact Ext.push _ _
end Go.aj
namespace Go.aj
open Go
theorem dB{B n:Nat}{o o':Option Nat}(h:∀k,o=some k→B≤k)(hb:o'=o∨o'=some n)(hn:B≤n):∀k,o'=some k→B≤k:=by
  intro k hk
  rcases hb with e|e
  · exact h k (e▸hk)
  · rw[e] at hk;cases hk;exact hn
theorem Own.empty{h:Heap}{g:Nat}{E:TypeId}(sz:Nat)(m:h[g]? =some (.cells #[] E)):Own h (.slice (some ⟨g,0,none⟩) 0 0) E 0 sz []:=
  ⟨by simp, .inr ⟨g,0,0, #[],rfl,m,Nat.le_refl _,by simp[maxLen],by simp,by simp⟩⟩
theorem Row.blk{h:Heap}{b n sz:Nat}{l:List Value}{E:TypeId}{fr:Nat×Nat}(m:h[b]? =some (.cells l.toArray E fr))(hn:l.length =n*sz):Row h (.slice (some ⟨b,0,none⟩) n n) n sz l:=
  ⟨hn, .inr ⟨_,_,rfl,Nat.le_refl _,fun j u hu=>by rw[add_lit,an m];simpa using hu⟩⟩
theorem kv{p:Prop}[Decidable p](h:(!decide p)=true):¬p:=by simpa using h
theorem jT{p:Prop}[Decidable p](h:(!decide p)=false):p:=by simpa using h
theorem Ce{B:Nat}(x:Nat)(h:B≤x):∀k,(some ⟨x,0,none⟩:Option Addr).map (·.block)=some k→B≤k:=by
  intro k hk;simp at hk;omega
end Go.aj
namespace Go.aj
open Go
theorem Own.app{α:Type}{h:Heap}{ad:Option Addr}{n m c sz:Nat}{E:TypeId}{f:α→Value}{L Y L2:List α}(o:Own h (.slice ad (n+m) c) E (n+m) sz (L.map f++Y.map f))(hL:L++Y=L2)(hn:n+m=L2.length):
    Own h (.slice ad L2.length c) E L2.length sz (L2.map f):=by
  subst hL;rw[List.map_append, ←hn];exact o
end Go.aj
namespace Go.aj
open Go
theorem Loads.all{P:Program}{h:Heap}{T:TypeId}{b:Nat}{vs:List Value}{E:TypeId}{fr:Nat×Nat}(ht:cG P T=some (true,vs.length))(hb:h[b]? =some (.cells vs.toArray E fr)):Loads P h T ⟨b,0,none⟩ (.agg vs.toArray):=
  Loads.blk ht hb (by simp)
end Go.aj
namespace Go.aj
open Go
@[reducible] def pV(b:Nat):Value:= .pointer (some ⟨b,0,none⟩)
@[reducible] def nV(k:Nat):Value:= .int .i64 ((k:Nat):Int)
section
variable {P:Program} {B:Code} {p:List Nat} {K:Exit→Act→Heap→Prop} {a:Act} {h:Heap} {ops:Array Oper} {base:Nat→Value} {vals:aR} {n:Nat}
theorem cS(hh:C P (sub B (p++[0])) (fO (fun a h=>C P (sub B (p++[1])) K a h) K) a h)(hc:sub B p= .seq (sub B (p++[0])) (sub B (p++[1])):=by kernel_rfl):C P (sub B p) K a h:=C.seq _ _ hc hh
theorem tK{N:Act→Heap→Prop}(hh:N a h):fO N K .normal a h:=hh
theorem cD{L:List (Nat×Value)}(A:List Nat)(id:Nat)(hm:P.follows .mixedOrders =true)(hf:Fr a n L)(hh:aH P (cy B p) A n (fun t=>lk L t (a.tmps.getD t undef)) K 0 0 0 (fun _=>undef) h)(hc:sub B p= .region id (cy B p) true:=by kernel_rfl)(hok:dY (cy B p) A n=true:=by kernel_rfl):C P (sub B p) K a h:=C.draw id hc hm hf hok hh
theorem mP{A:List Nat}{D X Wd:Nat}(D':Nat)(is:List Nat)(vs:List Value)(hs:aH P ops A n base K D' X Wd (vq vals is vs) h)(hp:d_ P ops A base is vs D vals Wd=some (vs.map some,D'):=by kernel_rfl):aH P ops A n base K D X Wd vals h:=aH.Ei hp hs
theorem m1{A:List Nat}{D X Wd:Nat}(D' i:Nat)(v v':Value)(e:v'=v)(hs:aH P ops A n base K D' X Wd (aU vals i v) h)(hc:(bk ops A D i&& !(Wd.testBit i))=true:=by kernel_rfl)(hD:D|||2^i=D':=by kernel_rfl)(hv:aP P ops base vals i=some v':=by kernel_rfl):aH P ops A n base K D X Wd vals h:=aH.dy hc hD hv e hs
theorem mF{A:List Nat}{D X Wd:Nat}(D' i:Nat)(v:Value)(hv:∀h',Calm P ops base vals i h' v)(hs:aH P ops A n base K D' X Wd (aU vals i v) h)(hc:(bk ops A D i&& !(Wd.testBit i))=true:=by kernel_rfl)(hD:D|||2^i=D':=by kernel_rfl):aH P ops A n base K D X Wd vals h:=aH.free hc hD hv hs
theorem mL{A:List Nat}{D X Wd:Nat}(D' ku i:Nat)(v:Value)(hv:Calm P ops base vals i h v)(hs:aH P ops A n base K D' X ku (aU vals i v) h)(hc:bk ops A D i=true:=by kernel_rfl)(hD:D|||2^i=D':=by kernel_rfl)(hW:Wd|||2^i=ku:=by kernel_rfl):aH P ops A n base K D X Wd vals h:=aH.look hc hD hW hv hs
theorem cT{L:List (Nat×Value)}(t:Nat)(hf:Fr a n L)(hh:C P (sub B (p++[0])) K a h)(hc:sub B p= .cond (.tmp t) (sub B (p++[0])) (sub B (p++[1])):=by kernel_rfl)(hv:∀d,lk L t d= .bool true:=by intro _;rfl):C P (sub B p) K a h:=C.Bn t _ _ hc hf hv hh
theorem cF{L:List (Nat×Value)}(t:Nat)(hf:Fr a n L)(hh:C P (sub B (p++[1])) K a h)(hc:sub B p= .cond (.tmp t) (sub B (p++[0])) (sub B (p++[1])):=by kernel_rfl)(hv:∀d,lk L t d= .bool false:=by intro _;rfl):C P (sub B p) K a h:=C.Bo t _ _ hc hf hv hh
theorem cC{L:List (Nat×Value)}(t:Nat)(b:Bool)(hf:Fr a n L)(ht:b=true→C P (sub B (p++[0])) K a h)(he:b=false→C P (sub B (p++[1])) K a h)(hc:sub B p= .cond (.tmp t) (sub B (p++[0])) (sub B (p++[1])):=by kernel_rfl)(hv:∀d,lk L t d= .bool b:=by intro _;rfl):C P (sub B p) K a h:=C.vv t b _ _ hc hf hv ht he
theorem cN(hh:K .normal a h)(hc:sub B p= .skip :=by kernel_rfl):C P (sub B p) K a h:=C.skip hc hh
theorem cX(id:Nat)(hh:K (.exit id) a h)(hc:sub B p= .exit id:=by kernel_rfl):C P (sub B p) K a h:=C.exit id hc hh
theorem cR(hh:K .ret a h)(hc:sub B p= .ret :=by kernel_rfl):C P (sub B p) K a h:=C.ret hc hh
theorem cB(id:Nat)(hh:C P (sub B (p++[0])) (iE id K) a h)(hc:sub B p= .block id (sub B (p++[0])):=by kernel_rfl):C P (sub B p) K a h:=C.block id _ hc hh
theorem Fr.to{L L':List (Nat×Value)}(hf:Fr a n L)(hL:∀g:Nat→Value,((L'.map Prod.fst).map fun t=>(t,lk L t (g t)))=L':=by intro g;kernel_rfl):Fr a n L':=by
  rw[←hL fun t=>a.tmps.getD t undef]
  exact⟨hf.defers,hf.size,fun t=>qn hf.get _ t⟩
end
end Go.aj
namespace Go.aj
open Go
/-! ### shorter texts: a row of pure operations by itself; a frame by what has come up -/
def fu:Code→Bool
  | .region _ _ false=>true
  |_=>false
def rid:Code→Nat
  | .region i _ _=>i
  |_=>0
section
variable {P:Program} {B:Code} {p:List Nat} {K:Exit→Act→Heap→Prop} {N:Act→Heap→Prop} {a:Act} {h:Heap} {ops:Array Oper} {base:Nat→Value} {vals:aR} {n:Nat}
theorem oN(hp:fu (sub B p)=true):sub B p= .region (rid (sub B p)) (cy B p) false:=by
  unfold cy
  cases h:sub B p with
  | region i o d => cases d with
    |false=>rfl
    |true=>simp[h,fu] at hp
  |_=>simp[h,fu] at hp
def jU {α : Type} (P : Program) (ops : Array Oper) (base : Nat → Value) (fin : aR → α) : Nat → Nat → aR → Option α
  |0,_,vals=>some (fin vals)
  | m + 1, k, vals => match aP P ops base vals k with
    |some v=>jU P ops base fin m (k+1) (aU vals k v)
    |none=>none
def aA (P : Program) (ops : Array Oper) (base : Nat → Value) : Nat → Nat → aR → aR
  |0,_,vals=>vals
  | m + 1, k, vals => match aP P ops base vals k with
    |some v=>aA P ops base m (k+1) (aU vals k v)
    |none=>vals
def gS(P:Program)(ops:Array Oper)(base:Nat→Value)(m k:Nat)(vals:aR):Bool:=(jU P ops base (fun _=>()) m k vals).isSome
theorem jV{α:Type}{fin:aR→α}:∀{m k:Nat} {vals:aR} {r:α},jU P ops base fin m k vals=some r→fin (aA P ops base m k vals)=r
  |0,_,_,_,h=>by simpa[jU,aA] using h
  | m + 1, k, vals, r, h => by
    unfold jU at h;unfold aA
    cases hv:aP P ops base vals k with
    |none=>simp[hv] at h
    |some v=>simp only[hv] at h;exact jV h
theorem aQ.fold{α:Type}{fin:aR→α}{r:α}:∀{m k:Nat} {vals:aR},jU P ops base fin m k vals=some r→aQ P ops n base K (k+m) (aA P ops base m k vals) h→aQ P ops n base K k vals h
  |0,k,vals,_,hs=>hs
  | m + 1, k, vals, hr, hs => by
    unfold jU at hr;unfold aA at hs
    cases hv:aP P ops base vals k with
    |none=>simp[hv] at hr
    | some v =>
      simp only[hv] at hr hs
      exact aQ.dy hv rfl rfl (aQ.fold hr (by rw[show k+1+m=k+(m+1) by omega];exact hs))
theorem aQ.skip{m k:Nat}{vals:aR}(hr:gS P ops base m k vals=true)(hs:aQ P ops n base K (k+m) (aA P ops base m k vals) h):aQ P ops n base K k vals h:=by
  unfold gS at hr
  cases hv:jU P ops base (fun _=>()) m k vals with
  |none=>simp[hv] at hr
  |some r=>exact aQ.fold hv hs
/-! a frame: what has come up, ahead of what was -/
def ek:List (Nat×Value)→Nat→Bool
  |[],_=>false
  | (k,_)::r,t=>Nat.beq k t||ek r t
def dw(L ch:List (Nat×Value)):List Oper→Bool
  |[]=>true
  |o::r=>(match o.dst with|some d=>ek ch d|| !(ek L d)|none=>true)&&dw L ch r
theorem vC(L':List (Nat×Value))(t:Nat)(d:Value):∀L,lk (L++L') t d=lk L t (lk L' t d)
  |[]=>rfl
  | (k,v)::L=>by simp only[List.cons_append,lk];rw[vC L' t d L]
theorem sc:∀{L:List (Nat×Value)} {t:Nat} {d:Value},ek L t=false→lk L t d=d
  |[],_,_,_=>rfl
  | (k, v) :: L, t, d, h => by
    simp only[ek,Bool.or_eq_false_iff] at h
    simp only[lk,h.1]
    exact sc h.2
theorem qz:∀{L:List (Nat×Value)} {t:Nat} {d d':Value},ek L t=true→lk L t d=lk L t d'
  |[],_,_,_,h=>by simp[ek] at h
  | (k, v) :: L, t, d, d', h => by
    simp only[lk]
    cases e:Nat.beq k t with
    |true=>rfl
    |false=>simp only[ek,e,Bool.false_or] at h;simp only;exact qz h
theorem iY{L ch:List (Nat×Value)}:∀{l:List Oper},dw L ch l=true→∀o∈l,∀d,o.dst =some d→ek ch d=true∨ek L d=false
  |[],_,o,ho,_,_=>by simp at ho
  | o :: r, h, o', ho, d, hd => by
    simp only[dw,Bool.and_eq_true] at h
    rcases List.mem_cons.1 ho with e|e
    · subst e
      have:=h.1
      simp only[hd,Bool.or_eq_true,Bool.not_eq_true'] at this
      exact this
    · exact iY h.2 o' e d hd
theorem qA{k t:Nat}(ht:∀o∈ops.toList,o.dst ≠some t):cx ops base vals k t=base t:=by
  unfold cx
  rw[fa]
  intro j _
  cases ho:ops[j]? with
  |none=>simp[dst,ho]
  | some o =>
    have:=ht o (by simpa using Array.mem_of_getElem? ho)
    simp[dst,ho,this]
theorem qB{s:Nat→Bool}{t:Nat}(ht:∀o∈ops.toList,o.dst ≠some t):di ops base vals s t=base t:=by
  unfold di
  rw[fa]
  intro j _
  cases ho:ops[j]? with
  |none=>simp[dst,ho]
  | some o =>
    have:=ht o (by simpa using Array.mem_of_getElem? ho)
    simp[dst,ho,this]
theorem lf{L ch:List (Nat×Value)}{b:Act}{f g:Nat→Value}(hb:∀t,b.tmps.getD t undef=f t)(hfree:∀t,(∀o∈ops.toList,o.dst ≠some t)→f t=lk L t (g t))
    (hch:((ch.map Prod.fst).map fun t=>(t,f t))=ch) (hfr:dw L ch ops.toList =true) (t:Nat):b.tmps.getD t undef=lk (ch++L) t (b.tmps.getD t undef):=by
  rw[vC]
  have h1:=qn hb (ch.map Prod.fst) t
  rw[hch] at h1
  cases hk:ek ch t with
  |true=>rw[qz hk];exact h1
  | false =>
    rw[sc hk]
    by_cases hw:∃o∈ops.toList,o.dst =some t
    · obtain ⟨o, ho, hd⟩ := hw
      rcases iY hfr o ho t hd with h|h
      · rw[hk] at h;cases h
      · rw[sc h]
    · have hft := hfree t fun o ho e => hw ⟨o, ho, e⟩
      cases hL:ek L t with
      | true => conv => lhs; rw [hb t, hft]
                exact qz hL
      |false=>rw[sc hL]
theorem aQ.doneD{k:Nat}{L ch:List (Nat×Value)}{g:Nat→Value}(hk:k=ops.size)(hch:((ch.map Prod.fst).map fun t=>(t,cx ops (fun t=>lk L t (g t)) vals k t))=ch)(hfr:dw L ch ops.toList =true)
    (hQ:∀a,Fr a n (ch++L)→K .normal a h):aQ P ops n (fun t=>lk L t (g t)) K k vals h:=by
  subst hk
  intro w0 _ a w h1 h2 h3 hs hh
  rw[Nat.sub_self]
  refine⟨hs, ?_⟩
  rw[hh]
  exact hQ a ⟨h1,h2,lf (f:=fun t=>cx ops (fun t=>lk L t (g t)) vals ops.size t) (g:=g) h3 (fun t ht=>qA ht) hch hfr⟩
theorem aH.doneD{A:List Nat}{D X Wd:Nat}{L ch:List (Nat×Value)}{g:Nat→Value}(hD:D=2^ops.size - 1)(hch:((ch.map Prod.fst).map fun t=>(t,di ops (fun t=>lk L t (g t)) vals (fun _=>true) t))=ch)(hfr:dw L ch ops.toList =true)
    (hQ:∀a,Fr a n (ch++L)→K .normal a h):aH P ops A n (fun t=>lk L t (g t)) K D X Wd vals h:=by
  intro w0
  refine nH.done (fun i hi=>by rw[hD,Nat.testBit_two_pow_sub_one];simpa using hi) fun a w h1 h2 h3 hs hh=>⟨hs, ?_⟩
  rw[hh]
  exact hQ a ⟨h1,h2,lf (f:=fun t=>di ops (fun t=>lk L t (g t)) vals (fun _=>true) t) (g:=g) h3 (fun t ht=>qB ht) hch hfr⟩
end
end Go.aj
namespace Go.aj
open Go
section
variable {P:Program} {B:Code} {p:List Nat} {K:Exit→Act→Heap→Prop} {N:Act→Heap→Prop} {a:Act} {h:Heap} {ops:Array Oper} {base:Nat→Value} {vals:aR} {n:Nat}
theorem HU{L ch:List (Nat×Value)}{g:Nat→Value}(hv:jU P ops (fun t=>lk L t (g t)) (fun vals=>(ch.map Prod.fst).map fun t=>(t,cx ops (fun t=>lk L t (g t)) vals ops.size t)) ops.size 0 (fun _=>undef)=some ch)
    (hfr:dw L ch ops.toList =true) (hQ:∀a,Fr a n (ch++L)→K .normal a h):aQ P ops n (fun t=>lk L t (g t)) K 0 (fun _=>undef) h:=
  aQ.fold hv (by rw[show 0+ops.size =ops.size by omega];exact aQ.doneD rfl (jV hv) hfr hQ)
theorem rP(ch:List (Nat×Value)){L:List (Nat×Value)}(hf:Fr a n L)(hh:∀a,Fr a n (ch++L)→K .normal a h)(hp:fu (sub B p)=true:=by kernel_rfl)(hok:k5 (cy B p) n=true:=by kernel_rfl)
    (hv:jU P (cy B p) (fun t=>lk L t (a.tmps.getD t undef)) (fun vals=>(ch.map Prod.fst).map fun t=>(t,cx (cy B p) (fun t=>lk L t (a.tmps.getD t undef)) vals (cy B p).size t)) (cy B p).size 0 (fun _=>undef)=some ch:=by kernel_rfl)
    (hfr:dw L ch (cy B p).toList =true:=by kernel_rfl):C P (sub B p) K a h:=
  C.plain _ (oN hp) hf hok (HU hv hfr hh)
theorem KS(hc:sub B p= .seq (sub B (p++[0])) (sub B (p++[1])))(hh:C P (sub B (p++[0])) (fO (fun a h=>C P (sub B (p++[1])) K a h) K) a h):C P (sub B p) K a h:=C.seq _ _ hc hh
theorem qP(ch:List (Nat×Value)){L:List (Nat×Value)}(hf:Fr a n L)(hh:∀a,Fr a n (ch++L)→C P (sub B (p++[1])) K a h)(hc:sub B p= .seq (sub B (p++[0])) (sub B (p++[1])):=by kernel_rfl)(hp:fu (sub B (p++[0]))=true:=by kernel_rfl)(hok:k5 (cy B (p++[0])) n=true:=by kernel_rfl)
    (hv:jU P (cy B (p++[0])) (fun t=>lk L t (a.tmps.getD t undef)) (fun vals=>(ch.map Prod.fst).map fun t=>(t,cx (cy B (p++[0])) (fun t=>lk L t (a.tmps.getD t undef)) vals (cy B (p++[0])).size t)) (cy B (p++[0])).size 0 (fun _=>undef)=some ch:=by kernel_rfl)
    (hfr:dw L ch (cy B (p++[0])).toList =true:=by kernel_rfl):C P (sub B p) K a h:=
  KS hc (rP ch hf hh hp hok hv hfr)
theorem rS{L:List (Nat×Value)}(hf:Fr a n L)(hh:aQ P (cy B p) n (fun t=>lk L t (a.tmps.getD t undef)) K 0 (fun _=>undef) h)(hp:fu (sub B p)=true:=by kernel_rfl)(hok:k5 (cy B p) n=true:=by kernel_rfl):C P (sub B p) K a h:=
  C.plain _ (oN hp) hf hok hh
theorem qS{L:List (Nat×Value)}(hf:Fr a n L)(hh:aQ P (cy B (p++[0])) n (fun t=>lk L t (a.tmps.getD t undef)) (fO (fun a h=>C P (sub B (p++[1])) K a h) K) 0 (fun _=>undef) h)(hc:sub B p= .seq (sub B (p++[0])) (sub B (p++[1])):=by kernel_rfl)(hp:fu (sub B (p++[0]))=true:=by kernel_rfl)(hok:k5 (cy B (p++[0])) n=true:=by kernel_rfl):C P (sub B p) K a h:=
  KS hc (rS hf hh hp hok)
theorem sE{k:Nat}(ch:List (Nat×Value)){L:List (Nat×Value)}{g:Nat→Value}(hh:∀a,Fr a n (ch++L)→K .normal a h)
    (hv:jU P ops (fun t=>lk L t (g t)) (fun vals=>(ch.map Prod.fst).map fun t=>(t,cx ops (fun t=>lk L t (g t)) vals ops.size t)) (ops.size - k) k vals=some ch:=by kernel_rfl)
    (hk:Nat.ble k ops.size =true:=by kernel_rfl) (hfr:dw L ch ops.toList =true:=by kernel_rfl):aQ P ops n (fun t=>lk L t (g t)) K k vals h:=
  aQ.fold hv (by have:=Nat.le_of_ble_eq_true hk;rw[show k+(ops.size - k)=ops.size by omega];exact aQ.doneD rfl (jV hv) hfr hh)
theorem sT{k:Nat}(ch:List (Nat×Value)){L:List (Nat×Value)}{g:Nat→Value}(hh:∀a,Fr a n (ch++L)→N a h)
    (hv:jU P ops (fun t=>lk L t (g t)) (fun vals=>(ch.map Prod.fst).map fun t=>(t,cx ops (fun t=>lk L t (g t)) vals ops.size t)) (ops.size - k) k vals=some ch:=by kernel_rfl)
    (hk:Nat.ble k ops.size =true:=by kernel_rfl) (hfr:dw L ch ops.toList =true:=by kernel_rfl):aQ P ops n (fun t=>lk L t (g t)) (fO N K) k vals h:=sE ch hh hv hk hfr
theorem mE{A:List Nat}{D X Wd:Nat}(ch:List (Nat×Value)){L:List (Nat×Value)}{g:Nat→Value}(hh:∀a,Fr a n (ch++L)→K .normal a h)(hD:D=2^ops.size - 1:=by kernel_rfl)
    (hL:((ch.map Prod.fst).map fun t=>(t,di ops (fun t=>lk L t (g t)) vals (fun _=>true) t))=ch:=by kernel_rfl) (hfr:dw L ch ops.toList =true:=by kernel_rfl):aH P ops A n (fun t=>lk L t (g t)) K D X Wd vals h:=aH.doneD hD hL hfr hh
/-! steps: pure operations up to j, then operation j -/
theorem jmp{k:Nat}(j:Nat)(hk:Nat.ble k j=true)(hr:gS P ops base (j - k) k vals=true)(hs:aQ P ops n base K j (aA P ops base (j - k) k vals) h):aQ P ops n base K k vals h:=by
  have:=Nat.le_of_ble_eq_true hk
  exact aQ.skip hr (by rw[show k+(j - k)=j by omega];exact hs)
theorem t1{k:Nat}(j:Nat)(v v':Value)(e:v'=v)(hs:aQ P ops n base K (j+1) (aU (aA P ops base (j - k) k vals) j v) h)(hv:aP P ops base (aA P ops base (j - k) k vals) j=some v':=by kernel_rfl)(hr:gS P ops base (j - k) k vals=true:=by kernel_rfl)(hk:Nat.ble k j=true:=by kernel_rfl):aQ P ops n base K k vals h:=
  jmp j hk hr (aQ.dy hv e rfl hs)
theorem tC{k:Nat}(j:Nat)(v:Value)(hd:Calm P ops base (aA P ops base (j - k) k vals) j h v)(hs:aQ P ops n base K (j+1) (aU (aA P ops base (j - k) k vals) j v) h)(hr:gS P ops base (j - k) k vals=true:=by kernel_rfl)(hk:Nat.ble k j=true:=by kernel_rfl):aQ P ops n base K k vals h:=
  jmp j hk hr (aQ.calm hd rfl hs)
theorem tF{k:Nat}(j:Nat){R:Value→Heap→Prop}(hd:Does P ops base (aA P ops base (j - k) k vals) j h R)(hs:∀v h',R v h'→aQ P ops n base K (j+1) (aU (aA P ops base (j - k) k vals) j v) h')(hr:gS P ops base (j - k) k vals=true:=by kernel_rfl)(hk:Nat.ble k j=true:=by kernel_rfl):aQ P ops n base K k vals h:=
  jmp j hk hr (aQ.eff hd rfl hs)
theorem tG{k:Nat}(j:Nat){R:Value→Heap→Prop}{f:FuncId}{args:Array Value}(hs:Sat P f args h R)(hh:∀v h',R v h'→aQ P ops n base K (j+1) (aU (aA P ops base (j - k) k vals) j v) h')(hx:qv P ops base (aA P ops base (j - k) k vals) j=some (f,args):=by kernel_rfl)(hr:gS P ops base (j - k) k vals=true:=by kernel_rfl)(hk:Nat.ble k j=true:=by kernel_rfl):aQ P ops n base K k vals h:=
  jmp j hk hr (aQ.eff (Does.call hx hs) rfl hh)
theorem tI{k:Nat}(j:Nat)(ad:Addr)(len sz x q:Nat)(hs:aQ P ops n base K (j+1) (aU (aA P ops base (j - k) k vals) j (.pointer (some (ad.add q)))) h)(hl:x<len:=by omega)(hq:x*sz=q:=by omega)(hx:qx P ops base (aA P ops base (j - k) k vals) j=some (ad,len,sz,(x:Int)):=by kernel_rfl)(hr:gS P ops base (j - k) k vals=true:=by kernel_rfl)(hk:Nat.ble k j=true:=by kernel_rfl):aQ P ops n base K k vals h:=
  jmp j hk hr (aQ.calm (Calm.vB x q hx rfl hl hq h) rfl hs)
theorem tJ{k:Nat}(j b off len sz x q:Nat)(hs:aQ P ops n base K (j+1) (aU (aA P ops base (j - k) k vals) j (.pointer (some ⟨b,q,none⟩))) h)(hl:x<len:=by omega)(hq:off+x*sz=q:=by omega)(hx:qx P ops base (aA P ops base (j - k) k vals) j=some (⟨b,off,none⟩,len,sz,(x:Int)):=by kernel_rfl)(hr:gS P ops base (j - k) k vals=true:=by kernel_rfl)(hk:Nat.ble k j=true:=by kernel_rfl):aQ P ops n base K k vals h:=
  jmp j hk hr (aQ.calm (Calm.indexB x q hx rfl hl hq h) rfl hs)
theorem tA{k:Nat}(j x y:Nat)(hs:aQ P ops n base K (j+1) (aU (aA P ops base (j - k) k vals) j (nV (x+y))) h)(hb:x+y≤9223372036854775807:=by omega)(hv:aP P ops base (aA P ops base (j - k) k vals) j=some (.int .i64 (IntKind.i64.wrap ((x:Int)+(y:Int)))):=by kernel_rfl)(hr:gS P ops base (j - k) k vals=true:=by kernel_rfl)(hk:Nat.ble k j=true:=by kernel_rfl):aQ P ops n base K k vals h:=
  t1 j _ _ (congrArg (Value.int .i64) (fY (by omega) (by omega) (by omega))) hs hv hr hk
theorem tU{k:Nat}(j x y:Nat)(hs:aQ P ops n base K (j+1) (aU (aA P ops base (j - k) k vals) j (nV (x - y))) h)(hb:y≤x:=by omega)(hx:x≤9223372036854775807:=by omega)(hv:aP P ops base (aA P ops base (j - k) k vals) j=some (.int .i64 (IntKind.i64.wrap ((x:Int) - (y:Int)))):=by kernel_rfl)(hr:gS P ops base (j - k) k vals=true:=by kernel_rfl)(hk:Nat.ble k j=true:=by kernel_rfl):aQ P ops n base K k vals h:=
  t1 j _ _ (congrArg (Value.int .i64) (fY (by omega) (by omega) (by omega))) hs hv hr hk
/-! a condition that is decided -/
theorem cJ{L:List (Nat×Value)}(t:Nat){q:Prop}[Decidable q](hf:Fr a n L)(ht:q→C P (sub B (p++[0])) K a h)(he:¬q→C P (sub B (p++[1])) K a h)(hv:∀d,lk L t d= .bool (decide q):=by intro _;rfl)(hc:sub B p= .cond (.tmp t) (sub B (p++[0])) (sub B (p++[1])):=by kernel_rfl):C P (sub B p) K a h:=
  C.vv t _ _ _ hc hf hv (fun e=>ht (of_decide_eq_true e)) fun e=>he (of_decide_eq_false e)
theorem cI{L:List (Nat×Value)}(t:Nat){q:Prop}[Decidable q](hf:Fr a n L)(ht:¬q→C P (sub B (p++[0])) K a h)(he:q→C P (sub B (p++[1])) K a h)(hv:∀d,lk L t d= .bool (!decide q):=by intro _;rfl)(hc:sub B p= .cond (.tmp t) (sub B (p++[0])) (sub B (p++[1])):=by kernel_rfl):C P (sub B p) K a h:=
  C.vv t _ _ _ hc hf hv (fun e=>ht (kv e)) fun e=>he (jT e)
/-! leaving a block -/
theorem xT{i:Nat}(hh:K (.exit i) a h):fO N K (.exit i) a h:=hh
theorem xB{i:Nat}(hh:K .normal a h):iE i K (.exit i) a h:=by simp only[iE];rw[show Nat.beq i i=true by simp];exact hh
theorem cL(I:Nat→Act→Heap→Prop)(m0:Nat)(h0:I m0 a h)(round:∀m a h,I m a h→C P (sub B (p++[0])) (fO (fun a h=>∃m',m'<m∧I m' a h) K) a h)(hc:sub B p= .loop (sub B (p++[0])):=by kernel_rfl):C P (sub B p) K a h:=C.loop I m0 _ hc h0 round
theorem ag{fn:Func}{f:FuncId}{args:List Value}{R:Value→Heap→Prop}(hf:P.funcs[f]? =some fn)(n:Nat)(hh:∀a,Fr a n (tw 0 args)→C P (sub (fn.body.getD .skip) []) (qp P fn R) a h)(hb:fn.body.isSome =true:=by kernel_rfl)(hn:args.length +(fn.ntmps - args.length)=n:=by kernel_rfl):Sat P f args.toArray h R:=
  Cb hf (by cases e:fn.body with
    |none=>simp[e] at hb
    |some x=>rfl) hn rfl hh
theorem rT{fn:Func}{L:List (Nat×Value)}{R:Value→Heap→Prop}(t:Nat)(v:Value)(hf:Fr a n L)(hR:R v h)(hr:fn.results = #[.tmp t]:=by rfl)(hv:∀d,lk L t d=v:=by intro _;rfl):qp P fn R .ret a h:=
  aI [.tmp t] [v] v hr hf ⟨hv _,trivial⟩ rfl hR
theorem r0{fn:Func}{L:List (Nat×Value)}{R:Value→Heap→Prop}(hf:Fr a n L)(hR:R (.tuple #[]) h)(hr:fn.results = #[]:=by rfl):qp P fn R .ret a h:=
  aI [] [] _ hr hf trivial rfl hR
theorem n0{fn:Func}{L:List (Nat×Value)}{R:Value→Heap→Prop}(hf:Fr a n L)(hR:R (.tuple #[]) h)(hr:fn.results = #[]:=by rfl):qp P fn R .normal a h:=
  aI [] [] _ hr hf trivial rfl hR
end
end Go.aj
namespace Go.aj
open Go
section
variable {P:Program} {B:Code} {p:List Nat} {K:Exit→Act→Heap→Prop} {N:Act→Heap→Prop} {a:Act} {h:Heap} {ops:Array Oper} {base:Nat→Value} {vals:aR} {n:Nat}
theorem yT(hh:K .ret a h):fO N K .ret a h:=hh
theorem yB{j:Nat}(hh:K .ret a h):iE j K .ret a h:=hh
theorem cU(m:Nat)(hh:gR P B (p++[0]) K m a h)(hc:sub B p= .loop (sub B (p++[0])):=by kernel_rfl):C P (sub B p) K a h:=C.Cd m _ hc hh
theorem tN{k:Nat}(j:Nat)(v:Value)(cs:Array Value)(E:TypeId)(hh:∀h',Ext h h'→h'[h.size]? =some (.cells cs E)→aQ P ops n base K (j+1) (aU (aA P ops base (j - k) k vals) j v) h')
    (hx:vy P ops base (aA P ops base (j - k) k vals) j h.size =some (v, .cells cs E):=by kernel_rfl) (hr:gS P ops base (j - k) k vals=true:=by kernel_rfl) (hk:Nat.ble k j=true:=by kernel_rfl):aQ P ops n base K k vals h:=
  jmp j hk hr (aQ.eff (Does.new hx) rfl fun v' h' ⟨e1,e2⟩=>by subst e1;exact hh h' (aY e2) (bj e2))
theorem tW{k:Nat}(j:Nat){b:Nat}(off:Nat)(vs l l':List Value){E:TypeId}(m:h[b]? =some (.cells l.toArray E (0,0)))(hh:∀h',Grew (some b) h h'→h'[b]? =some (.cells l'.toArray E)→aQ P ops n base K (j+1) (aU (aA P ops base (j - k) k vals) j undef) h')
    (hx:eZ P ops base (aA P ops base (j - k) k vals) j=some (⟨b,off,none⟩,vs):=by kernel_rfl) (hfit:off+vs.length ≤l.length :=by exact of_decide_eq_true (by kernel_rfl)) (h1:∀v∈vs,v.oneCell' =true:=by exact List.all_eq_true.1 (by kernel_rfl)) (e:splice l off vs=l':=by kernel_rfl)
    (hr:gS P ops base (j - k) k vals=true:=by kernel_rfl) (hk:Nat.ble k j=true:=by kernel_rfl):aQ P ops n base K k vals h:=
  jmp j hk hr (aQ.eff (Does.store hx m hfit h1) rfl fun v' h' ⟨e1,e2⟩=>by subst e1;exact hh h' (bC e2) (bR e2 e m))
end
end Go.aj
namespace Go.aj
open Go
theorem bK{i:Nat}{K:Exit→Act→Heap→Prop}{a:Act}{h:Heap}(hh:K .normal a h):iE i K .normal a h:=hh
end Go.aj
namespace Go.aj
open Go
/-! ### shorter still: what the program's text says is not said again -/
section
variable {P:Program} {B:Code} {p:List Nat} {K:Exit→Act→Heap→Prop} {N:Act→Heap→Prop} {a:Act} {h:Heap} {ops:Array Oper} {base:Nat→Value} {vals:aR} {n:Nat}
def mn(ops:Array Oper)(base:Nat→Value)(vals:aR)(j:Nat):TypeId:=match ei ops base vals j with|some (T,_)=>T|none=>0
theorem jW{T:TypeId}{b:Nat}{cs:Array Value}{E:TypeId}{fr:Nat×Nat}(m:h[b]? =some (.cells cs E fr))(ht:cG P T=some (true,cs.size)):Loads P h T ⟨b,0,none⟩ (.agg cs):=by
  have:=Loads.all (P:=P) (h:=h) (T:=T) (b:=b) (vs:=cs.toList) (E:=E) (fr:=fr) (by rw[Array.length_toList];exact ht) (by rw[Array.toArray_toList];exact m)
  rwa [Array.toArray_toList] at this
theorem tR{k:Nat}(j:Nat){b:Nat}{cs:Array Value}{E:TypeId}{fr:Nat×Nat}(m:h[b]? =some (.cells cs E fr))(hs:aQ P ops n base K (j+1) (aU (aA P ops base (j - k) k vals) j (.agg cs)) h)
    (hx:ei ops base (aA P ops base (j - k) k vals) j=some (mn ops base (aA P ops base (j - k) k vals) j,⟨b,0,none⟩):=by kernel_rfl) (ht:cG P (mn ops base (aA P ops base (j - k) k vals) j)=some (true,cs.size):=by kernel_rfl)
    (hr:gS P ops base (j - k) k vals=true:=by kernel_rfl) (hk:Nat.ble k j=true:=by kernel_rfl):aQ P ops n base K k vals h:=
  jmp j hk hr (aQ.calm (Calm.load hx (jW m ht)) rfl hs)
theorem tQ{k:Nat}(j off:Nat)(vs:List Value){b:Nat}{cs:Array Value}{E:TypeId}{fr:Nat×Nat}(m:h[b]? =some (.cells cs E fr))(hs:aQ P ops n base K (j+1) (aU (aA P ops base (j - k) k vals) j (.agg vs.toArray)) h)
    (hx:ei ops base (aA P ops base (j - k) k vals) j=some (mn ops base (aA P ops base (j - k) k vals) j,⟨b,off,none⟩):=by kernel_rfl) (ht:cG P (mn ops base (aA P ops base (j - k) k vals) j)=some (true,vs.length):=by kernel_rfl)
    (hv:(cs.toList.drop off).take vs.length =vs:=by rfl) (hr:gS P ops base (j - k) k vals=true:=by kernel_rfl) (hk:Nat.ble k j=true:=by kernel_rfl):aQ P ops n base K k vals h:=
  jmp j hk hr (aQ.calm (Calm.load hx (Loads.blk ht m hv)) rfl hs)
theorem tO{k:Nat}(j off:Nat){b:Nat}{cs:Array Value}{E:TypeId}{fr:Nat×Nat}(m:h[b]? =some (.cells cs E fr))(hs:aQ P ops n base K (j+1) (aU (aA P ops base (j - k) k vals) j (cs[off]?.getD undef)) h)
    (hv:cs[off]?.isSome =true:=by kernel_rfl) (hx:ei ops base (aA P ops base (j - k) k vals) j=some (mn ops base (aA P ops base (j - k) k vals) j,⟨b,off,none⟩):=by kernel_rfl) (ht:cG P (mn ops base (aA P ops base (j - k) k vals) j)=some (false,1):=by kernel_rfl)
    (hr:gS P ops base (j - k) k vals=true:=by kernel_rfl) (hk:Nat.ble k j=true:=by kernel_rfl):aQ P ops n base K k vals h:=
  jmp j hk hr (aQ.calm (Calm.load hx (Loads.one ht ((an m).trans (by cases e:cs[off]? with|none=>rw[e] at hv;cases hv|some v=>rfl)))) rfl hs)
theorem tT{k:Nat}(j:Nat)(q:Prop)[Decidable q](hs:aQ P ops n base K (j+1) (aU (aA P ops base (j - k) k vals) j (.bool true)) h)(hq:q:=by omega)(hv:aP P ops base (aA P ops base (j - k) k vals) j=some (.bool (decide q)):=by kernel_rfl)(hr:gS P ops base (j - k) k vals=true:=by kernel_rfl)(hk:Nat.ble k j=true:=by kernel_rfl):aQ P ops n base K k vals h:=
  t1 j _ _ (congrArg Value.bool (decide_eq_true hq)) hs hv hr hk
theorem tX{k:Nat}(j:Nat)(q:Prop)[Decidable q](hs:aQ P ops n base K (j+1) (aU (aA P ops base (j - k) k vals) j (.bool false)) h)(hq:¬q:=by omega)(hv:aP P ops base (aA P ops base (j - k) k vals) j=some (.bool (decide q)):=by kernel_rfl)(hr:gS P ops base (j - k) k vals=true:=by kernel_rfl)(hk:Nat.ble k j=true:=by kernel_rfl):aQ P ops n base K k vals h:=
  t1 j _ _ (congrArg Value.bool (decide_eq_false hq)) hs hv hr hk
theorem KT{A:List Nat}{D X Wd:Nat}(D' i:Nat)(q:Prop)[Decidable q](hs:aH P ops A n base K D' X Wd (aU vals i (.bool true)) h)(hq:q:=by omega)(hv:aP P ops base vals i=some (.bool (decide q)):=by kernel_rfl)(hc:(bk ops A D i&& !(Wd.testBit i))=true:=by kernel_rfl)(hD:D|||2^i=D':=by kernel_rfl):aH P ops A n base K D X Wd vals h:=aH.dy hc hD hv (congrArg Value.bool (decide_eq_true hq)) hs
theorem KU{A:List Nat}{D X Wd:Nat}(D' i:Nat)(q:Prop)[Decidable q](hs:aH P ops A n base K D' X Wd (aU vals i (.bool false)) h)(hq:¬q:=by omega)(hv:aP P ops base vals i=some (.bool (decide q)):=by kernel_rfl)(hc:(bk ops A D i&& !(Wd.testBit i))=true:=by kernel_rfl)(hD:D|||2^i=D':=by kernel_rfl):aH P ops A n base K D X Wd vals h:=aH.dy hc hD hv (congrArg Value.bool (decide_eq_false hq)) hs
theorem mA{A:List Nat}{D X Wd:Nat}(D' i x y:Nat)(hs:aH P ops A n base K D' X Wd (aU vals i (nV (x+y))) h)(hb:x+y≤9223372036854775807:=by omega)(hv:aP P ops base vals i=some (.int .i64 (IntKind.i64.wrap ((x:Int)+(y:Int)))):=by kernel_rfl)(hc:(bk ops A D i&& !(Wd.testBit i))=true:=by kernel_rfl)(hD:D|||2^i=D':=by kernel_rfl):aH P ops A n base K D X Wd vals h:=aH.dy hc hD hv (congrArg (Value.int .i64) (fY (by omega) (by omega) (by omega))) hs
theorem mU{A:List Nat}{D X Wd:Nat}(D' i x y:Nat)(hs:aH P ops A n base K D' X Wd (aU vals i (nV (x - y))) h)(hb:y≤x:=by omega)(hx:x≤9223372036854775807:=by omega)(hv:aP P ops base vals i=some (.int .i64 (IntKind.i64.wrap ((x:Int) - (y:Int)))):=by kernel_rfl)(hc:(bk ops A D i&& !(Wd.testBit i))=true:=by kernel_rfl)(hD:D|||2^i=D':=by kernel_rfl):aH P ops A n base K D X Wd vals h:=aH.dy hc hD hv (congrArg (Value.int .i64) (fY (by omega) (by omega) (by omega))) hs
theorem tV{k:Nat}(j:Nat){b:Nat}(off:Nat)(vs l':List Value){l:List Value}{E:TypeId}(m:h[b]? =some (.cells l.toArray E (0,0)))(hh:∀h',Grew (some b) h h'→h'[b]? =some (.cells l'.toArray E)→aQ P ops n base K (j+1) (aU (aA P ops base (j - k) k vals) j undef) h')
    (hx:eZ P ops base (aA P ops base (j - k) k vals) j=some (⟨b,off,none⟩,vs):=by kernel_rfl) (hfit:off+vs.length ≤l.length :=by exact of_decide_eq_true (by kernel_rfl)) (h1:∀v∈vs,v.oneCell' =true:=by exact List.all_eq_true.1 (by kernel_rfl)) (e:splice l off vs=l':=by kernel_rfl)
    (hr:gS P ops base (j - k) k vals=true:=by kernel_rfl) (hk:Nat.ble k j=true:=by kernel_rfl):aQ P ops n base K k vals h:=tW j off vs l l' m hh hx hfit h1 e hr hk
theorem bA{k:Nat}(j:Nat){b:Nat}(vs:List Value){l:List Value}{E:TypeId}(m:h[b]? =some (.cells l.toArray E (0,0)))(hh:∀h',Grew (some b) h h'→h'[b]? =some (.cells vs.toArray E)→aQ P ops n base K (j+1) (aU (aA P ops base (j - k) k vals) j undef) h')
    (hx:eZ P ops base (aA P ops base (j - k) k vals) j=some (⟨b,0,none⟩,vs):=by kernel_rfl) (hfit:0+vs.length ≤l.length :=by exact of_decide_eq_true (by kernel_rfl)) (h1:∀v∈vs,v.oneCell' =true:=by exact List.all_eq_true.1 (by kernel_rfl)) (e:splice l 0 vs=vs:=by kernel_rfl)
    (hr:gS P ops base (j - k) k vals=true:=by kernel_rfl) (hk:Nat.ble k j=true:=by kernel_rfl):aQ P ops n base K k vals h:=tW j 0 vs l vs m hh hx hfit h1 e hr hk
/-! effects in a region that draws its order -/
theorem mN{A:List Nat}{D X Wd:Nat}(D' X' i:Nat)(v:Value)(cs:Array Value)(E:TypeId)(hh:∀h',Ext h h'→h'[h.size]? =some (.cells cs E)→aH P ops A n base K D' X' Wd (aU vals i v) h')(hx:vy P ops base vals i h.size =some (v, .cells cs E):=by kernel_rfl)
    (hn:nexts ops A D=[i]:=by kernel_rfl) (hD:D|||2^i=D':=by kernel_rfl) (hX:X|||fq A i|||2^i=X':=by kernel_rfl) (hp:fW ops A D X Wd i=[]:=by kernel_rfl):aH P ops A n base K D X Wd vals h:=
  aH.vr hn hD hX hp (Does.new hx) fun v' h' ⟨e1,e2⟩=>by subst e1;exact hh h' (aY e2) (bj e2)
theorem mV{A:List Nat}{D X Wd:Nat}(D' X' i:Nat){b:Nat}(off:Nat)(vs l':List Value){l:List Value}{E:TypeId}(m:h[b]? =some (.cells l.toArray E (0,0)))(hh:∀h',Grew (some b) h h'→h'[b]? =some (.cells l'.toArray E)→aH P ops A n base K D' X' Wd (aU vals i undef) h')
    (hx:eZ P ops base vals i=some (⟨b,off,none⟩,vs):=by kernel_rfl) (hfit:off+vs.length ≤l.length :=by exact of_decide_eq_true (by kernel_rfl)) (h1:∀v∈vs,v.oneCell' =true:=by exact List.all_eq_true.1 (by kernel_rfl)) (e:splice l off vs=l':=by kernel_rfl)
    (hn:nexts ops A D=[i]:=by kernel_rfl) (hD:D|||2^i=D':=by kernel_rfl) (hX:X|||fq A i|||2^i=X':=by kernel_rfl) (hp:fW ops A D X Wd i=[]:=by kernel_rfl):aH P ops A n base K D X Wd vals h:=
  aH.vr hn hD hX hp (Does.store hx m hfit h1) fun v' h' ⟨e1,e2⟩=>by subst e1;exact hh h' (bC e2) (bR e2 e m)
theorem iO{A:List Nat}{D X Wd:Nat}(D' X' i:Nat){R:Value→Heap→Prop}(hd:Does P ops base vals i h R)(hh:∀v h',R v h'→aH P ops A n base K D' X' Wd (aU vals i v) h')
    (hn:nexts ops A D=[i]:=by kernel_rfl) (hD:D|||2^i=D':=by kernel_rfl) (hX:X|||fq A i|||2^i=X':=by kernel_rfl) (hp:fW ops A D X Wd i=[]:=by kernel_rfl):aH P ops A n base K D X Wd vals h:=aH.vr hn hD hX hp hd hh
theorem fZ{A:List Nat}{D X Wd:Nat}(D' X' i:Nat){R:Value→Heap→Prop}{f:FuncId}{args:Array Value}(hs:Sat P f args h R)(hh:∀v h',R v h'→aH P ops A n base K D' X' Wd (aU vals i v) h')(hx:qv P ops base vals i=some (f,args):=by kernel_rfl)
    (hn:nexts ops A D=[i]:=by kernel_rfl) (hD:D|||2^i=D':=by kernel_rfl) (hX:X|||fq A i|||2^i=X':=by kernel_rfl) (hp:fW ops A D X Wd i=[]:=by kernel_rfl):aH P ops A n base K D X Wd vals h:=aH.vr hn hD hX hp (Does.call hx hs) hh
theorem fT{A:List Nat}{D X Wd:Nat}(D' X' i:Nat)(pend:List Nat){R:Value→Heap→Prop}(hd:Does P ops base vals i h R)(hh:∀v h',R v h'→(∀j∈pend,Good P ops base vals h' j)∧aH P ops A n base K D' X' Wd (aU vals i v) h')
    (hn:nexts ops A D=[i]:=by kernel_rfl) (hD:D|||2^i=D':=by kernel_rfl) (hX:X|||fq A i|||2^i=X':=by kernel_rfl) (hp:fW ops A D X Wd i=pend:=by kernel_rfl):aH P ops A n base K D X Wd vals h:=aH.eff hn hD hX pend hp hd hh
theorem qg{A:List Nat}{D X Wd:Nat}(D' X' i:Nat)(pend:List Nat){R:Value→Heap→Prop}(hd:Does P ops base vals i h R)(hs:∀v h',R v h'→(∀j∈pend,Good P ops base vals h' j)∧aH P ops A n base K D' X' Wd (aU vals i v) h')
    (hD:D|||2^i=D':=by kernel_rfl) (hX:X|||fq A i|||2^i=X':=by kernel_rfl) (hp:fW ops A D X Wd i=pend:=by kernel_rfl):
    ∃R,Does P ops base vals i h R∧∀v h',R v h'→(∀j∈fW ops A D X Wd i,Good P ops base vals h' j)∧aH P ops A n base K (D|||2^i) (X|||fq A i|||2^i) Wd (aU vals i v) h':=⟨R,hd,by subst hD;subst hX;subst hp;exact hs⟩
theorem mR{A:List Nat}{D X Wd:Nat}(D' ku i:Nat){b:Nat}{cs:Array Value}{E:TypeId}{fr:Nat×Nat}(m:h[b]? =some (.cells cs E fr))(hs:aH P ops A n base K D' X ku (aU vals i (.agg cs)) h)
    (hx:ei ops base vals i=some (mn ops base vals i,⟨b,0,none⟩):=by kernel_rfl) (ht:cG P (mn ops base vals i)=some (true,cs.size):=by kernel_rfl) (hc:bk ops A D i=true:=by kernel_rfl) (hD:D|||2^i=D':=by kernel_rfl) (hW:Wd|||2^i=ku:=by kernel_rfl):aH P ops A n base K D X Wd vals h:=aH.look hc hD hW (Calm.load hx (jW m ht)) hs
theorem mO{A:List Nat}{D X Wd:Nat}(D' ku i off:Nat)(v:Value){b:Nat}{cs:Array Value}{E:TypeId}{fr:Nat×Nat}(m:h[b]? =some (.cells cs E fr))(hs:aH P ops A n base K D' X ku (aU vals i v) h)
    (hv:cs[off]? =some v:=by rfl) (hx:ei ops base vals i=some (mn ops base vals i,⟨b,off,none⟩):=by kernel_rfl) (ht:cG P (mn ops base vals i)=some (false,1):=by kernel_rfl) (hc:bk ops A D i=true:=by kernel_rfl) (hD:D|||2^i=D':=by kernel_rfl) (hW:Wd|||2^i=ku:=by kernel_rfl):aH P ops A n base K D X Wd vals h:=
  aH.look hc hD hW (Calm.load hx (Loads.one ht ((an m).trans hv))) hs
/-! the return of a block's cells -/
def D3(fn:Func):Nat×TypeId:=match fn.results.toList with|ResultVar.cell t T::_=>(t,T)|_=>(0,0)
theorem rB{fn:Func}{L:List (Nat×Value)}{R:Value→Heap→Prop}{b:Nat}{cs:Array Value}{E:TypeId}{fr:Nat×Nat}(m:h[b]? =some (.cells cs E fr))(hf:Fr a n L)(hR:R (.agg cs) h)(hr:fn.results = #[.cell (D3 fn).1 (D3 fn).2]:=by rfl)(ht:cG P (D3 fn).2 =some (true,cs.size):=by kernel_rfl)
    (hv:∀d,lk L (D3 fn).1 d= .pointer (some ⟨b,0,none⟩):=by intro _;rfl):qp P fn R .ret a h:=
  aI [.cell (D3 fn).1 (D3 fn).2] [.agg cs] _ hr hf ⟨⟨_,hv _,jW m ht⟩,trivial⟩ rfl hR
end
end Go.aj
namespace Go.aj
open Go
/-! ### what stands where nothing was turned -/
theorem _root_.Eq.x{h h':Heap}{b:Nat}{o:Obj}(m:h[b]? =some o)(g:Ext h h'):h'[b]? =some o:=g.blk m
theorem _root_.Eq.y{h h':Heap}{b:Nat}{o:Obj}{c:Option Nat}(m:h[b]? =some o)(g:Grew c h h')(hne:some b≠c:=by simp;omega):h'[b]? =some o:=Grew.blk g m hne
theorem Ext.v{h0 h h':Heap}{b:Nat}(e:Ext h0 h)(g:Grew (some b) h h')(hb:h0.size ≤b:=by omega):Ext h0 h':=e.grew g (by rintro _ ⟨⟩;exact hb)
section
variable {P:Program} {K:Exit→Act→Heap→Prop} {h:Heap} {ops:Array Oper} {base:Nat→Value} {vals:aR} {n:Nat}
/-! ints that are equal, or are not -/
theorem eT{k:Nat}(j:Nat)(x y:Int)(hs:aQ P ops n base K (j+1) (aU (aA P ops base (j - k) k vals) j (.bool true)) h)(hq:x=y:=by omega)(hv:aP P ops base (aA P ops base (j - k) k vals) j=some (.bool (x==y)):=by kernel_rfl)(hr:gS P ops base (j - k) k vals=true:=by kernel_rfl)(hk:Nat.ble k j=true:=by kernel_rfl):aQ P ops n base K k vals h:=
  t1 j _ _ (congrArg Value.bool (beq_iff_eq.2 hq)) hs hv hr hk
theorem eF{k:Nat}(j:Nat)(x y:Int)(hs:aQ P ops n base K (j+1) (aU (aA P ops base (j - k) k vals) j (.bool false)) h)(hq:x≠y:=by omega)(hv:aP P ops base (aA P ops base (j - k) k vals) j=some (.bool (x==y)):=by kernel_rfl)(hr:gS P ops base (j - k) k vals=true:=by kernel_rfl)(hk:Nat.ble k j=true:=by kernel_rfl):aQ P ops n base K k vals h:=
  t1 j _ _ (congrArg Value.bool (beq_eq_false_iff_ne.2 hq)) hs hv hr hk
theorem uT{k:Nat}(j:Nat)(x y:Int)(hs:aQ P ops n base K (j+1) (aU (aA P ops base (j - k) k vals) j (.bool true)) h)(hq:x≠y:=by omega)(hv:aP P ops base (aA P ops base (j - k) k vals) j=some (.bool (!(x==y))):=by kernel_rfl)(hr:gS P ops base (j - k) k vals=true:=by kernel_rfl)(hk:Nat.ble k j=true:=by kernel_rfl):aQ P ops n base K k vals h:=
  t1 j _ _ (congrArg (fun b=>Value.bool (!b)) (beq_eq_false_iff_ne.2 hq)) hs hv hr hk
theorem uF{k:Nat}(j:Nat)(x y:Int)(hs:aQ P ops n base K (j+1) (aU (aA P ops base (j - k) k vals) j (.bool false)) h)(hq:x=y:=by omega)(hv:aP P ops base (aA P ops base (j - k) k vals) j=some (.bool (!(x==y))):=by kernel_rfl)(hr:gS P ops base (j - k) k vals=true:=by kernel_rfl)(hk:Nat.ble k j=true:=by kernel_rfl):aQ P ops n base K k vals h:=
  t1 j _ _ (congrArg (fun b=>Value.bool (!b)) (beq_iff_eq.2 hq)) hs hv hr hk
theorem HV{A:List Nat}{D X Wd:Nat}(D' i:Nat)(x y:Int)(hs:aH P ops A n base K D' X Wd (aU vals i (.bool true)) h)(hq:x=y:=by omega)(hv:aP P ops base vals i=some (.bool (x==y)):=by kernel_rfl)(hc:(bk ops A D i&& !(Wd.testBit i))=true:=by kernel_rfl)(hD:D|||2^i=D':=by kernel_rfl):aH P ops A n base K D X Wd vals h:=aH.dy hc hD hv (congrArg Value.bool (beq_iff_eq.2 hq)) hs
theorem KV{A:List Nat}{D X Wd:Nat}(D' i:Nat)(x y:Int)(hs:aH P ops A n base K D' X Wd (aU vals i (.bool false)) h)(hq:x≠y:=by omega)(hv:aP P ops base vals i=some (.bool (x==y)):=by kernel_rfl)(hc:(bk ops A D i&& !(Wd.testBit i))=true:=by kernel_rfl)(hD:D|||2^i=D':=by kernel_rfl):aH P ops A n base K D X Wd vals h:=aH.dy hc hD hv (congrArg Value.bool (beq_eq_false_iff_ne.2 hq)) hs
theorem Mc{A:List Nat}{D X Wd:Nat}(D' i:Nat)(x y:Int)(hs:aH P ops A n base K D' X Wd (aU vals i (.bool true)) h)(hq:x≠y:=by omega)(hv:aP P ops base vals i=some (.bool (!(x==y))):=by kernel_rfl)(hc:(bk ops A D i&& !(Wd.testBit i))=true:=by kernel_rfl)(hD:D|||2^i=D':=by kernel_rfl):aH P ops A n base K D X Wd vals h:=aH.dy hc hD hv (congrArg (fun b=>Value.bool (!b)) (beq_eq_false_iff_ne.2 hq)) hs
theorem KW{A:List Nat}{D X Wd:Nat}(D' i:Nat)(x y:Int)(hs:aH P ops A n base K D' X Wd (aU vals i (.bool false)) h)(hq:x=y:=by omega)(hv:aP P ops base vals i=some (.bool (!(x==y))):=by kernel_rfl)(hc:(bk ops A D i&& !(Wd.testBit i))=true:=by kernel_rfl)(hD:D|||2^i=D':=by kernel_rfl):aH P ops A n base K D X Wd vals h:=aH.dy hc hD hv (congrArg (fun b=>Value.bool (!b)) (beq_iff_eq.2 hq)) hs
/-! an element's address, some cells of a block, where the order is drawn -/
theorem mI{A:List Nat}{D X Wd:Nat}(D' i:Nat)(ad:Addr)(len sz x q:Nat)(hs:aH P ops A n base K D' X Wd (aU vals i (.pointer (some (ad.add q)))) h)(hl:x<len:=by omega)(hq:x*sz=q:=by omega)(hx:qx P ops base vals i=some (ad,len,sz,(x:Int)):=by kernel_rfl)(hc:(bk ops A D i&& !(Wd.testBit i))=true:=by kernel_rfl)(hD:D|||2^i=D':=by kernel_rfl):aH P ops A n base K D X Wd vals h:=
  aH.free hc hD (Calm.vB x q hx rfl hl hq) hs
theorem mJ{A:List Nat}{D X Wd:Nat}(D' i b off len sz x q:Nat)(hs:aH P ops A n base K D' X Wd (aU vals i (.pointer (some ⟨b,q,none⟩))) h)(hl:x<len:=by omega)(hq:off+x*sz=q:=by omega)(hx:qx P ops base vals i=some (⟨b,off,none⟩,len,sz,(x:Int)):=by kernel_rfl)(hc:(bk ops A D i&& !(Wd.testBit i))=true:=by kernel_rfl)(hD:D|||2^i=D':=by kernel_rfl):aH P ops A n base K D X Wd vals h:=
  aH.free hc hD (Calm.indexB x q hx rfl hl hq) hs
theorem mQ{A:List Nat}{D X Wd:Nat}(D' ku i off:Nat)(vs:List Value){b:Nat}{cs:Array Value}{E:TypeId}{fr:Nat×Nat}(m:h[b]? =some (.cells cs E fr))(hs:aH P ops A n base K D' X ku (aU vals i (.agg vs.toArray)) h)
    (hx:ei ops base vals i=some (mn ops base vals i,⟨b,off,none⟩):=by kernel_rfl) (ht:cG P (mn ops base vals i)=some (true,vs.length):=by kernel_rfl) (hv:(cs.toList.drop off).take vs.length =vs:=by rfl) (hc:bk ops A D i=true:=by kernel_rfl) (hD:D|||2^i=D':=by kernel_rfl) (hW:Wd|||2^i=ku:=by kernel_rfl):aH P ops A n base K D X Wd vals h:=aH.look hc hD hW (Calm.load hx (Loads.blk ht m hv)) hs
end
end Go.aj
end
section
namespace Go.aN
open Go
abbrev W:=BitVec 32
def wv(b:W):Value:= .int .u32 (b.toNat :Int)
def bv(b:UInt8):Value:= .int .u8 (b.toNat :Int)
theorem fv(x:Nat):IntKind.u32.wrap (x:Int)=((x%4294967296:Nat):Int):=by
  simp only[IntKind.wrap,IntKind.bits,IntKind.signed]
  simp
theorem ofInt32(b:W):BitVec.ofInt 32 (b.toNat :Int)=b:=by simp
theorem eA(b:W):IntKind.u32.wrap (b.toNat :Int)=(b.toNat :Int):=by
  rw[fv,Nat.mod_eq_of_lt b.isLt]
theorem add32(a b:W):Value.int .u32 (IntKind.u32.wrap ((a.toNat :Int)+(b.toNat :Int)))=wv (a+b):=by
  unfold wv
  rw[←Int.natCast_add,fv,BitVec.toNat_add]
theorem Br(a b:W):Value.int .u32 (IntKind.u32.wrap ((BitVec.ofInt 32 (a.toNat :Int)&&&BitVec.ofInt 32 (b.toNat :Int)).toNat :Int))=wv (a&&&b):=by
  unfold wv;rw[ofInt32,ofInt32,eA]
theorem El(a b:W):Value.int .u32 (IntKind.u32.wrap ((BitVec.ofInt 32 (a.toNat :Int)|||BitVec.ofInt 32 (b.toNat :Int)).toNat :Int))=wv (a|||b):=by
  unfold wv;rw[ofInt32,ofInt32,eA]
theorem Bs(a b:W):Value.int .u32 (IntKind.u32.wrap ((BitVec.ofInt 32 (a.toNat :Int)^^^BitVec.ofInt 32 (b.toNat :Int)).toNat :Int))=wv (a^^^b):=by
  unfold wv;rw[ofInt32,ofInt32,eA]
theorem Bt(a:W)(n:Nat):Value.int .u32 (IntKind.u32.wrap ((a.toNat :Int)*2^n))=wv (a<<<n):=by
  unfold wv
  have:((a.toNat :Int)*2^n)=((a.toNat *2^n:Nat):Int):=by simp
  rw[this,fv,BitVec.toNat_shiftLeft,Nat.shiftLeft_eq]
theorem oO(a:W)(n:Nat):Value.int .u32 (Int.fdiv (a.toNat :Int) (2^n))=wv (a>>>n):=by
  unfold wv
  rw[BitVec.toNat_ushiftRight,Nat.shiftRight_eq_div_pow]
  congr 1
  have:((2:Int)^n)=((2^n:Nat):Int):=by simp
  rw[this,Int.fdiv_eq_ediv_of_nonneg _ (Int.natCast_nonneg _),Int.natCast_ediv]
theorem Em(a:W):Value.int .u32 (IntKind.u32.wrap ((BitVec.ofInt 32 4294967295^^^BitVec.ofInt 32 (a.toNat :Int)).toNat :Int))=wv (~~~a):=by
  unfold wv
  rw[ofInt32,eA]
  have:BitVec.ofInt 32 4294967295=BitVec.allOnes 32:=by decide
  rw[this,BitVec.allOnes_xor]
def w8(b:UInt8):W:=BitVec.ofNat 32 b.toNat
theorem En(b:UInt8):Value.int .u32 (IntKind.u32.wrap (b.toNat :Int))=wv (w8 b):=by
  unfold wv w8
  rw[fv,BitVec.toNat_ofNat]
def b32(a:W):UInt8:=UInt8.ofNat a.toNat
theorem mo(x:Nat):IntKind.u8.wrap (x:Int)=((x%256:Nat):Int):=by
  simp only[IntKind.wrap,IntKind.bits,IntKind.signed]
  simp
theorem Cf(a:W):Value.int .u8 (IntKind.u8.wrap (a.toNat :Int))=bv (b32 a):=by
  unfold bv b32
  rw[mo];simp
end Go.aN
namespace Go.aN
open Go
def rr(x:W)(n:Nat):W:=(x>>>n)|||(x<<<(32 - n))
def word(p:List UInt8)(i:Nat):W:=w8 (p.getD i 0)<<<24|||w8 (p.getD (i+1) 0)<<<16|||w8 (p.getD (i+2) 0)<<<8|||w8 (p.getD (i+3) 0)
def Me(x:W):W:=rr x 7^^^rr x 18^^^(x>>>3)
def sg1(x:W):W:=rr x 17^^^rr x 19^^^(x>>>10)
def Bu(l:List W):W:=l.getD (l.length - 16) 0+Me (l.getD (l.length - 15) 0)+l.getD (l.length - 7) 0+sg1 (l.getD (l.length - 2) 0)
def first(p:List UInt8):Nat→List W
  |0=>[]
  |k+1=>first p k++[word p (4*k)]
def sched(p:List UInt8):Nat→List W
  |0=>first p 16
  |k+1=>sched p k++[Bu (sched p k)]
theorem eB(p:List UInt8):∀k,(first p k).length =k
  |0=>rfl
  |k+1=>by simp[first,eB p k]
theorem bJ(p:List UInt8):∀k,(sched p k).length =16+k
  |0=>eB p 16
  |k+1=>by simp[sched,bJ p k];omega
structure S8 where
  a:W
  b:W
  c:W
  d:W
  e:W
  f:W
  g:W
  h:W
def Hi (k w : W) (s : S8) : S8 :=
  ⟨(s.h +(rr s.e 6^^^rr s.e 11^^^rr s.e 25)+((s.e &&&s.f)^^^((~~~s.e)&&&s.g))+k+w)+((rr s.a 2^^^rr s.a 13^^^rr s.a 22)+((s.a &&&s.b)^^^(s.a &&&s.c)^^^(s.b &&&s.c))),s.a,s.b,s.c,
    s.d +(s.h +(rr s.e 6^^^rr s.e 11^^^rr s.e 25)+((s.e &&&s.f)^^^((~~~s.e)&&&s.g))+k+w),s.e,s.f,s.g⟩
def fw:List W:=[0x428a2f98,0x71374491,0xb5c0fbcf,0xe9b5dba5,0x3956c25b,0x59f111f1,0x923f82a4,0xab1c5ed5,
  0xd807aa98,0x12835b01,0x243185be,0x550c7dc3,0x72be5d74,0x80deb1fe,0x9bdc06a7,0xc19bf174,
  0xe49b69c1,0xefbe4786,0x0fc19dc6,0x240ca1cc,0x2de92c6f,0x4a7484aa,0x5cb0a9dc,0x76f988da,
  0x983e5152,0xa831c66d,0xb00327c8,0xbf597fc7,0xc6e00bf3,0xd5a79147,0x06ca6351,0x14292967,
  0x27b70a85,0x2e1b2138,0x4d2c6dfc,0x53380d13,0x650a7354,0x766a0abb,0x81c2c92e,0x92722c85,
  0xa2bfe8a1,0xa81a664b,0xc24b8b70,0xc76c51a3,0xd192e819,0xd6990624,0xf40e3585,0x106aa070,
  0x19a4c116,0x1e376c08,0x2748774c,0x34b0bcb5,0x391c0cb3,0x4ed8aa4a,0x5b9cca4f,0x682e6ff3,
  0x748f82ee,0x78a5636f,0x84c87814,0x8cc70208,0x90befffa,0xa4506ceb,0xbef9a3f7,0xc67178f2]
def rounds(ws:List W)(s:S8):Nat→S8
  |0=>s
  |k+1=>Hi (fw.getD k 0) (ws.getD k 0) (rounds ws s k)
def Eo(x y:S8):S8:=⟨x.a +y.a,x.b +y.b,x.c +y.c,x.d +y.d,x.e +y.e,x.f +y.f,x.g +y.g,x.h +y.h⟩
def piece(s:S8)(p:List UInt8):S8:=Eo s (rounds (sched p 48) s 64)
def sv(s:S8):List Value:=[wv s.a,wv s.b,wv s.c,wv s.d,wv s.e,wv s.f,wv s.g,wv s.h]
def H0:S8:=⟨0x6a09e667,0xbb67ae85,0x3c6ef372,0xa54ff53a,0x510e527f,0x9b05688c,0x1f83d9ab,0x5be0cd19⟩
def wl(xs:List W):List Value:=xs.map wv++List.replicate (64 - xs.length) (wv 0)
theorem tx{xs:List W}(h:xs.length ≤64):(wl xs).length =64:=by simp[wl];omega
theorem Cg{xs:List W}{j:Nat}(h:j<xs.length):(wl xs).toArray[j]? =some (wv (xs.getD j 0)):=by
  simp[wl,List.getElem?_append,h,List.getD]
theorem Ch{xs:List W}{v:W}(h:xs.length <64):aj.splice (wl xs) xs.length [wv v]=wl (xs++[v]):=by
  obtain⟨m,hm⟩:∃m,64 - xs.length =m+1:=⟨63 - xs.length,by omega⟩
  have h2:64 - (xs++[v]).length =m:=by simp;omega
  have hx:xs.length =(xs.map wv).length :=by simp
  unfold aj.splice wl
  rw[hm,h2]
  conv=>lhs;rw[hx]
  simp[List.replicate_succ,List.drop_append]
end Go.aN
namespace Go.aN
open Go
theorem sd{xs:List W}{v:W}{off:Nat}(h:xs.length =off)(h2:off<64):aj.splice (wl xs) off [wv v]=wl (xs++[v]):=by subst h;exact Ch h2
theorem vD{xs:List W}{v:Value}{off:Nat}(h:xs.length =off)(h2:off<64):off+[v].length ≤(wl xs).length :=by rw[tx (by omega)];simp;omega
theorem iZ{xs:List W}{n j:Nat}(h:xs.length =n)(hj:j<n):(wl xs).toArray[j]? =some (wv (xs.getD j 0)):=Cg (by omega)
theorem sf(v:W):∀u∈[wv v],u.oneCell' =true:=fun u hu=>by
  rw[List.mem_singleton] at hu;subst hu;rfl
end Go.aN
namespace Go.aN
open Go
theorem lg(p:List UInt8)(k:Nat):sched p (k+1)=sched p k++[(sched p k).getD (16+k - 16) 0+(rr ((sched p k).getD (16+k - 15) 0) 7^^^rr ((sched p k).getD (16+k - 15) 0) 18^^^((sched p k).getD (16+k - 15) 0)>>>3)+
    (sched p k).getD (16+k - 7) 0+(rr ((sched p k).getD (16+k - 2) 0) 17^^^rr ((sched p k).getD (16+k - 2) 0) 19^^^((sched p k).getD (16+k - 2) 0)>>>10)]:=by
  rw[sched,Bu,bJ];rfl
end Go.aN
namespace Go.aN
open Go Go.aj
def nM:Nat→S8→List UInt8→S8
  |0,st,_=>st
  |f+1,st,l=>if 64≤l.length then nM f (piece st (l.take 64)) (l.drop 64) else st
def run(st:S8)(l:List UInt8):S8:=nM l.length st l
def nN:Nat→List UInt8→List UInt8
  |0,l=>l
  |f+1,l=>if 64≤l.length then nN f (l.drop 64) else l
def rem(l:List UInt8):List UInt8:=nN l.length l
theorem mq:∀(f g:Nat) (st:S8) (l:List UInt8),l.length ≤f→l.length ≤g→nM f st l=nM g st l
  |0,0,_,_,_,_=>rfl
  |0,g+1,st,l,h,_=>by simp only[nM];rw[if_neg (by omega)]
  |f+1,0,st,l,_,h=>by simp only[nM];rw[if_neg (by omega)]
  | f + 1, g + 1, st, l, h1, h2 => by
    simp only[nM]
    by_cases hl:64≤l.length
    · rw [if_pos hl, if_pos hl]
      exact mq f g _ _ (by rw[List.length_drop];omega) (by rw[List.length_drop];omega)
    · rw[if_neg hl,if_neg hl]
theorem f_{st:S8}{l:List UInt8}(h:64≤l.length):run st l=run (piece st (l.take 64)) (l.drop 64):=by
  unfold run
  obtain⟨n,hn⟩:∃n,l.length =n+1:=⟨l.length - 1,by omega⟩
  rw[hn]
  conv=>lhs;unfold nM
  rw[if_pos h]
  exact mq _ _ _ _ (by rw[List.length_drop];omega) (Nat.le_refl _)
theorem run_end{st:S8}{l:List UInt8}(h:l.length <64):run st l=st:=by
  unfold run
  cases l.length with
  |zero=>rfl
  |succ n=>unfold nM;rw[if_neg (by omega)]
theorem mr:∀(f g:Nat) (l:List UInt8),l.length ≤f→l.length ≤g→nN f l=nN g l
  |0,0,_,_,_=>rfl
  |0,g+1,l,h,_=>by simp only[nN];rw[if_neg (by omega)]
  |f+1,0,l,_,h=>by simp only[nN];rw[if_neg (by omega)]
  | f + 1, g + 1, l, h1, h2 => by
    simp only[nN]
    by_cases hl:64≤l.length
    · rw [if_pos hl, if_pos hl]
      exact mr f g _ (by rw[List.length_drop];omega) (by rw[List.length_drop];omega)
    · rw[if_neg hl,if_neg hl]
theorem f'{l:List UInt8}(h:64≤l.length):rem l=rem (l.drop 64):=by
  unfold rem
  obtain⟨n,hn⟩:∃n,l.length =n+1:=⟨l.length - 1,by omega⟩
  rw[hn]
  conv=>lhs;unfold nN
  rw[if_pos h]
  exact mr _ _ _ (by rw[List.length_drop];omega) (Nat.le_refl _)
theorem kD{l:List UInt8}(h:l.length <64):rem l=l:=by
  unfold rem
  cases l.length with
  |zero=>rfl
  |succ n=>unfold nN;rw[if_neg (by omega)]
theorem nO : ∀ (m : Nat) (l : List UInt8), l.length ≤ m → (rem l).length < 64 ∧ (rem l).length ≤ l.length ∧ (rem l).length % 64 = l.length % 64
  | m, l, h => by
    by_cases hl:64≤l.length
    · rw [f' hl]
      match m,h with
      |0,h=>omega
      | m + 1, h =>
        obtain⟨a,b,c⟩:=nO m (l.drop 64) (by rw[List.length_drop];omega)
        rw[List.length_drop] at b c
        exact⟨a,by omega,by omega⟩
    · rw [kD (by omega)]
      exact⟨by omega,by omega,rfl⟩
theorem iF : ∀ (m : Nat) (st : S8) (l r : List UInt8), l.length ≤ m → run st (l ++ r) = run (run st l) (rem l ++ r)
  | m, st, l, r, h => by
    by_cases hl:64≤l.length
    · match m, h with
      |0,h=>omega
      | m + 1, h =>
        rw[f_ (st:=st) (l:=l) hl,f' hl,f_ (st:=st) (l:=l++r) (by rw[List.length_append];omega),List.take_append_of_le_length hl,List.drop_append_of_le_length hl]
        exact iF m _ _ _ (by rw[List.length_drop];omega)
    · rw[run_end (st:=st) (l:=l) (by omega),kD (by omega)]
theorem lh : ∀ (m : Nat) (l r : List UInt8), l.length ≤ m → rem (l ++ r) = rem (rem l ++ r)
  | m, l, r, h => by
    by_cases hl:64≤l.length
    · match m, h with
      |0,h=>omega
      | m + 1, h =>
        rw[f' (l:=l) hl,f' (l:=l++r) (by rw[List.length_append];omega),List.drop_append_of_le_length hl]
        exact lh m _ _ (by rw[List.length_drop];omega)
    · rw[kD (l:=l) (by omega)]
def told(s:S8):List UInt8:=[b32 (s.a >>>24),b32 (s.a >>>16),b32 (s.a >>>8),b32 (s.a >>>0),b32 (s.b >>>24),b32 (s.b >>>16),b32 (s.b >>>8),b32 (s.b >>>0),
  b32 (s.c >>>24),b32 (s.c >>>16),b32 (s.c >>>8),b32 (s.c >>>0),b32 (s.d >>>24),b32 (s.d >>>16),b32 (s.d >>>8),b32 (s.d >>>0),
  b32 (s.e >>>24),b32 (s.e >>>16),b32 (s.e >>>8),b32 (s.e >>>0),b32 (s.f >>>24),b32 (s.f >>>16),b32 (s.f >>>8),b32 (s.f >>>0),
  b32 (s.g >>>24),b32 (s.g >>>16),b32 (s.g >>>8),b32 (s.g >>>0),b32 (s.h >>>24),b32 (s.h >>>16),b32 (s.h >>>8),b32 (s.h >>>0)]
def tk(s:S8)(j:Nat):List Value:=((told s).map bv).take j++List.replicate (32 - j) (.int .u8 0)
def hv(l:List UInt8):Value:= .agg (l.map bv).toArray
def bF(n:Nat):Nat:=(120 - n%64)%64
def vE(n:Nat):List UInt8:=[UInt8.ofNat (8*n/2^56),UInt8.ofNat (8*n/2^48),UInt8.ofNat (8*n/2^40),UInt8.ofNat (8*n/2^32),UInt8.ofNat (8*n/2^24),UInt8.ofNat (8*n/2^16),UInt8.ofNat (8*n/2^8),UInt8.ofNat (8*n/2^0)]
def padded(r:List UInt8)(n:Nat):List UInt8:=r++[0x80]++List.replicate (bF (r.length +1)) 0++vE n
def fin(st:S8)(r:List UInt8)(n:Nat):List UInt8:=told (run st (padded r n))
def sha(l:List UInt8):List UInt8:=fin H0 l l.length
theorem qC{a b:Nat}(h:a%64=b%64):bF a=bF b:=by unfold bF;rw[h]
theorem si(l:List UInt8):fin (run H0 l) (rem l) l.length =sha l:=by
  unfold sha fin padded
  obtain⟨_,_,hm⟩:=nO l.length l (Nat.le_refl _)
  have hz:bF ((rem l).length +1)=bF (l.length +1):=qC (by omega)
  rw[hz]
  simp only[List.append_assoc]
  rw[iF l.length H0 l _ (Nat.le_refl _)]
theorem lj(r:List UInt8)(n:Nat):(padded r n).length %64=0:=by
  simp only[padded,List.length_append,List.length_replicate,vE,List.length_cons,List.length_nil,bF]
  omega
def qD (h : Heap) (b : Nat) (o : Option Nat) (st : S8) (r : List UInt8) (n : Nat) : Prop :=
  ∃ ad cap, o = ad.map (·.block) ∧ o ≠ some b ∧ h[b]? = some (.cells (sv st ++ [Value.slice ad r.length cap, Value.int .u64 ((n : Nat) : Int)]).toArray 149) ∧
    Own h (.slice ad r.length cap) 5 r.length 1 (r.map bv)
def Gr(F:Nat→Prop)(h h':Heap):Prop:=h.size ≤h'.size ∧∀k,k<h.size →¬F k→h'[k]? =h[k]?
theorem Gr.refl(F:Nat→Prop)(h:Heap):Gr F h h:=⟨Nat.le_refl _,fun _ _ _=>rfl⟩
theorem Gr.trans{F:Nat→Prop}{a b c:Heap}(h:Gr F a b)(k:Gr F b c):Gr F a c:=⟨Nat.le_trans h.1 k.1,fun i hi hF=>(k.2 i (Nat.lt_of_lt_of_le hi h.1) hF).trans (h.2 i hi hF)⟩
theorem Gr.grew{F:Nat→Prop}{a b c:Heap}{o:Option Nat}(h:Gr F a b)(k:Grew o b c)(ho:∀i,o=some i→F i∨a.size ≤i):Gr F a c:=
  ⟨Nat.le_trans h.1 k.size,fun i hi hF=>(k.get i (Nat.lt_of_lt_of_le hi h.1) (fun e=>by rcases ho i e.symm with h|h;exact hF h;omega)).trans (h.2 i hi hF)⟩
theorem Gr.ext{F:Nat→Prop}{a b c:Heap}(h:Gr F a b)(k:Ext b c):Gr F a c:=h.grew k (by simp)
theorem Gr.blk{F:Nat→Prop}{h h':Heap}{b:Nat}{x:Obj}(g:Gr F h h')(e:h[b]? =some x)(hF:¬F b):h'[b]? =some x:=by rw[g.2 b (ak e) hF];exact e
theorem Gr.dj{F:Nat→Prop}{h0 h h':Heap}(e:Ext h0 h)(g:Gr F h h')(hF:∀k,F k→h0.size ≤k):Ext h0 h':=
  ⟨Nat.le_trans e.size g.1,fun k hk _=>(g.2 k (Nat.lt_of_lt_of_le hk e.size) (fun hf=>by have:=hF k hf;omega)).trans (e.get k hk (by simp))⟩
def bl(h:Heap):Prop:=∀j,j<64→hcell h ⟨0,j,none⟩=some (wv (fw.getD j 0))
theorem bl.ext{h h':Heap}(k:bl h)(g:Ext h h'):bl h':=fun j hj=>g.cell (k j hj)
theorem bl.grew{o:Option Nat}{h h':Heap}(k:bl h)(g:Grew o h h')(hne:some 0≠o):bl h':=fun j hj=>g.cell (k j hj) hne
theorem bl.gr{F:Nat→Prop}{h h':Heap}(k:bl h)(g:Gr F h h')(hF:¬F 0):bl h':=fun j hj=>by
  rw[dz (g.2 0 (fX (k j hj)) hF)];exact k j hj
theorem bl.lt{h:Heap}(k:bl h):0<h.size :=fX (k 0 (by decide))
theorem l5{x:Nat}(h:x<18446744073709551616):IntKind.u64.wrap (x:Int)=(x:Int):=by
  simp only[IntKind.wrap,IntKind.bits,IntKind.signed]
  simp
  omega
theorem l6{x:Int}{y:Nat}(e:x=(y:Int))(h:y<18446744073709551616):IntKind.u64.wrap x=(y:Int):=by rw[e];exact l5 h
theorem aE(l:List UInt8):∀u∈l.map bv,u.oneCell' =true:=fun u hu=>by
  obtain⟨x,_,rfl⟩:=List.mem_map.1 hu;rfl
theorem Ci{l:List UInt8}{j:Nat}(h:j<l.length):(l.map bv)[j]? =some (bv (l.getD j 0)):=by simp[h,List.getD]
end Go.aN
namespace Go.aj
open Go
section
variable {P:Program} {ops:Array Oper} {base:Nat→Value} {vals:aR} {h:Heap} {i:Nat}
theorem af(ad:Option Addr)(n c:Nat):a6 (.slice ad n c)=ad.map (·.block):=by cases ad<;>rfl
theorem Calm.b7{a x:Option Addr}{len cap sz:Nat}{lo hi mx:Option Int}(l r m n' c':Nat)(hx:Cc P ops base vals i=some (a,len,cap,sz,lo,hi,mx))
    (hm:mx=none∧m=cap∨mx=some (m:Int)∧m≤cap∧hi.isSome =true) (hr:hi=none∧r=len∨hi=some (r:Int)) (hl:lo=none∧l=0∨lo=some (l:Int)) (hlr:l≤r) (hrm:r≤m)
    (e1:x=if m=l then a else a.map (·.add (l*sz))) (e2:r - l=n') (e3:m - l=c') (h:Heap):
    Calm P ops base vals i h (.slice x n' c'):=by
  subst e1;subst e2;subst e3
  exact Calm.slice l r m hx hm hr hl hlr hrm h
theorem Own.drop{ad:Option Addr}{n cap E sz:Nat}{xs:List Value}(o:Own h (.slice ad n cap) E n sz xs)(k:Nat)(hk:k≤n):
    Own h (.slice (if cap=k then ad else ad.map (·.add (k*sz))) (n - k) (cap - k)) E (n - k) sz (xs.drop (k*sz)):=by
  refine⟨by rw[List.length_drop,o.1,Nat.sub_mul], ?_⟩
  rcases o.2 with⟨e,hn⟩|⟨g,off,cap',l,e,hg,hnc,hcm,hfit,hx⟩
  · simp only [Value.slice.injEq] at e
    obtain⟨rfl,rfl,rfl⟩:=e
    have:k=0:=by omega
    subst this
    exact .inl (by simp)
  · simp only [Value.slice.injEq] at e
    obtain⟨rfl,_,rfl⟩:=e
    refine .inr ?_
    by_cases hck:cap=k
    · have hnk : n = k := by omega
      subst hck;subst hnk
      refine⟨g,off,0,l,by simp,hg,by omega,by simp[maxLen],by omega, ?_⟩
      rw[Nat.sub_self,Nat.zero_mul,List.take_zero,List.drop_eq_nil_of_le (by rw[o.1];exact Nat.le_refl _)]
    · refine ⟨g, off + k * sz, cap - k, l, ?_, hg, by omega, by omega, ?_, ?_⟩
      · rw[if_neg hck];simp[add_lit]
      · have h1 : k * sz + (cap - k) * sz = cap * sz := by rw [← Nat.add_mul]; congr 1; omega
        omega
      · rw[←hx,List.drop_take,List.drop_drop, ←Nat.sub_mul]
theorem Own.nP{ad:Option Addr}{n cap E sz:Nat}{xs:List Value}(o:Own h (.slice ad n cap) E n sz xs)(hn:0<n):∃g off,ad=some ⟨g,off,none⟩∧n≤cap:=by
  rcases o.2 with⟨_,h0⟩|⟨g,off,cap',l,e,hg,hnc,_⟩
  · omega
  · simp only [Value.slice.injEq] at e
    exact⟨g,off,e.1,by omega⟩
theorem Row.cells{ad:Addr}{n m cap sz:Nat}{xs:List Value}(r:Row h (.slice (some ad) n cap) m sz xs):∀j u,xs[j]? =some u→hcell h (ad.add j)=some u:=by
  rcases r.2 with⟨e,_⟩|⟨a,c,e,_,hx⟩
  · cases e
  · simp only [Value.slice.injEq, Option.some.injEq] at e
    obtain⟨rfl,_,_⟩:=e
    exact hx
end
end Go.aj
namespace Go.aN
open Go Go.aj
theorem vF{h:Heap}{ad:Addr}{cap E:Nat}{r:List UInt8}(o:Own h (.slice (some ad) r.length cap) E r.length 1 (r.map bv))(hl:64≤r.length):∀j,j<64→hcell h (ad.add j)=some (bv ((r.take 64).getD j 0)):=by
  intro j hj
  refine o.row.cells j _ ?_
  rw[Ci (by omega)]
  congr 2
  simp[List.getD,hj]
theorem ga{c:Prop}[Decidable c]{a:Addr}{k:Nat}{x:Option Addr}(e:x=if c then some a else (some a).map (·.add k)):x.map (·.block)=some a.block :=by
  subst e;split<;>simp[add_block]
theorem bL(x k:Nat):Int.fdiv (x:Int) (2^k)=((x/2^k:Nat):Int):=by
  have:((2:Int)^k)=((2^k:Nat):Int):=by simp
  rw[this,Int.fdiv_eq_ediv_of_nonneg _ (Int.natCast_nonneg _),Int.natCast_ediv]
theorem bt(x:Nat):Value.int .u8 (IntKind.u8.wrap (x:Int))=bv (UInt8.ofNat x):=by
  unfold bv
  rw[mo];simp
theorem mu{c:Prop}[Decidable c](a:Addr):some a=if c then some a else (some a).map (·.add (0*1)):=by
  split<;>simp[Addr.add]
end Go.aN
namespace Go.aj
open Go
section
variable {P:Program} {ops:Array Oper} {base:Nat→Value} {vals:aR} {h:Heap} {i:Nat}
theorem Row.kept{o:Option Nat}{h h':Heap}{v:Value}{n sz:Nat}{xs:List Value}(r:Row h v n sz xs)(g:Grew o h h')(hne:a6 v=none∨a6 v≠o):Row h' v n sz xs:=by
  refine⟨r.1,r.2.imp id ?_⟩
  rintro⟨a,cap,e,hc,hx⟩
  refine⟨a,cap,e,hc,fun j u hu=>g.cell (hx j u hu) ?_⟩
  rw[add_block]
  subst e
  simpa[a6] using hne
theorem Row.kept'{o:Option Nat}{h h':Heap}{v:Value}{n sz:Nat}{xs:List Value}(r:Row h v n sz xs)(g:Grew o h h')(hne:xs=[]∨a6 v=none∨a6 v≠o):Row h' v n sz xs:=by
  rcases hne with e0|hne
  · exact⟨r.1,r.2.imp id fun⟨a,cap,e,hc,_⟩=>⟨a,cap,e,hc,fun j u hu=>by rw[e0] at hu;cases hu⟩⟩
  · exact r.kept g hne
theorem Does.c9 {t E : TypeId} {sz dV n m : Nat} {v x : Value} {xs ys : List Value} (hx : nK ops base vals i = some (t, t, v, x)) (he : vz P t = some (E, sz, dV, true))
    (ho:Own h v E n sz xs) (hr:Row h x m sz ys) (h1:∀u∈ys,u.oneCell' =true) (hlen:n+m≤maxLen) (hbytes:(n+m)*dV≤140737488355328):
    Does P ops base vals i h fun v' h'=>∃ad cap,v'= .slice ad (n+m) cap∧Own h' (.slice ad (n+m) cap) E (n+m) sz (xs++ys)∧Grew (a6 v) h h'∧(ad.map (·.block)=a6 v∨ad.map (·.block)=some h.size):=by
  obtain⟨o,h1',h2',hf⟩:=(Does.append hx he ho hr h1 hlen hbytes).does
  refine⟨o,h1',h2',fun w hw=> ?_⟩
  have key:∀v' h',(Own h' v' E (n+m) sz (xs++ys)∧Grew (a6 v) h h'∧(a6 v'=a6 v∨a6 v'=some h.size)∧(v'= .slice none 0 0∨∃a c,v'= .slice (some a) (n+m) c))→
      ∃ad cap,v'= .slice ad (n+m) cap∧Own h' (.slice ad (n+m) cap) E (n+m) sz (xs++ys)∧Grew (a6 v) h h'∧(ad.map (·.block)=a6 v∨ad.map (·.block)=some h.size):=by
    rintro v' h' ⟨a,b,c,d⟩
    rcases d with d|⟨q,k,d⟩
    · have hz : n + m = 0 := by
        rcases a.2 with⟨_,e⟩|⟨_,_,_,_,e,_⟩
        · exact e
        · rw[d] at e;cases e
      have e:Value.slice none (n+m) 0=v':=by rw[hz];exact d.symm
      refine⟨none,0,e.symm,by rw[e];exact a,b, ?_⟩
      rw[d] at c;exact c
    · refine ⟨some q, k, d, by rw [← d]; exact a, b, ?_⟩
      rw[d] at c;exact c
  have:=hf w hw
  generalize (execOp (env ops base vals i) o).run P w=r at this⊢
  cases r with
  |halt x w'=>exact this
  | ok x w' =>
    cases x<;>first|exact⟨this.1,key _ _ this.2⟩|exact⟨this.1,this.2.mono key⟩|exact this
def D4(ops:Array Oper)(base:Nat→Value)(vals:aR)(j:Nat):TypeId:=match nK ops base vals j with|some (t,_)=>t|none=>0
theorem Does.eC{t E:TypeId}{sz dV n m c N:Nat}{a:Option Addr}{x:Value}{xs ys Z:List Value}(hx:nK ops base vals i=some (t,t, .slice a n c,x))(he:vz P t=some (E,sz,dV,true))
    (ho:Own h (.slice a n c) E n sz xs) (hr:Row h x m sz ys) (h1:∀u∈ys,u.oneCell' =true) (hlen:n+m≤maxLen) (hbytes:(n+m)*dV≤140737488355328) (hN:n+m=N) (hZ:xs++ys=Z):
    Does P ops base vals i h fun v' h'=>∃ad cap,v'= .slice ad N cap∧Own h' (.slice ad N cap) E N sz Z∧Grew (a.map (fun(x:Addr)=>x.block)) h h'∧(ad.map (fun(x:Addr)=>x.block)=a.map (fun(x:Addr)=>x.block)∨ad.map (fun(x:Addr)=>x.block)=some h.size):=by
  subst hN;subst hZ
  have:=Does.c9 hx he ho hr h1 hlen hbytes
  rw[af] at this
  exact this
theorem tP{K:Exit→Act→Heap→Prop}{nn k:Nat}(j N dV:Nat)(Z:List Value){E:TypeId}{sz n m c:Nat}{a:Option Addr}{x:Value}{xs ys:List Value}(ho:Own h (.slice a n c) E n sz xs)(hr:Row h x m sz ys)(h1:∀u∈ys,u.oneCell' =true)
    (hh:∀ad cap h',Own h' (.slice ad N cap) E N sz Z→Grew (a.map (fun(x:Addr)=>x.block)) h h'→(ad.map (fun(x:Addr)=>x.block)=a.map (fun(x:Addr)=>x.block)∨ad.map (fun(x:Addr)=>x.block)=some h.size)→aQ P ops nn base K (j+1) (aU (aA P ops base (j - k) k vals) j (.slice ad N cap)) h')
    (hl:n+m≤maxLen:=by unfold maxLen;omega) (hb:(n+m)*dV≤140737488355328:=by omega) (hN:n+m=N:=by first|rfl| (simp;done)| (simp;omega)) (hZ:xs++ys=Z:=by first|rfl|exact List.flatMap_append.symm | (simp;done)| (simp;rfl))
    (hx:nK ops base (aA P ops base (j - k) k vals) j=some (D4 ops base (aA P ops base (j - k) k vals) j,D4 ops base (aA P ops base (j - k) k vals) j, .slice a n c,x):=by kernel_rfl) (he:vz P (D4 ops base (aA P ops base (j - k) k vals) j)=some (E,sz,dV,true):=by kernel_rfl)
    (hr':gS P ops base (j - k) k vals=true:=by kernel_rfl) (hk:Nat.ble k j=true:=by kernel_rfl):aQ P ops nn base K k vals h:=
  jmp j hk hr' (aQ.eff (Does.eC hx he ho hr h1 hl hb hN hZ) rfl fun v' h' ⟨ad,cap,e,o,g,b⟩=>by subst e;exact hh ad cap h' o g b)
theorem sj{K:Exit→Act→Heap→Prop}{A:List Nat}{D X Wd nn:Nat}(D' X' i N dV:Nat)(Z:List Value){E:TypeId}{sz n m c:Nat}{a:Option Addr}{x:Value}{xs ys:List Value}(ho:Own h (.slice a n c) E n sz xs)(hr:Row h x m sz ys)(h1:∀u∈ys,u.oneCell' =true)
    (hh:∀ad cap h',Own h' (.slice ad N cap) E N sz Z→Grew (a.map (fun(x:Addr)=>x.block)) h h'→(ad.map (fun(x:Addr)=>x.block)=a.map (fun(x:Addr)=>x.block)∨ad.map (fun(x:Addr)=>x.block)=some h.size)→aH P ops A nn base K D' X' Wd (aU vals i (.slice ad N cap)) h')
    (hl:n+m≤maxLen:=by unfold maxLen;omega) (hb:(n+m)*dV≤140737488355328:=by omega) (hN:n+m=N:=by first|rfl| (simp;done)| (simp;omega)) (hZ:xs++ys=Z:=by first|rfl|exact List.flatMap_append.symm | (simp;done)| (simp;rfl))
    (hx:nK ops base vals i=some (D4 ops base vals i,D4 ops base vals i, .slice a n c,x):=by kernel_rfl) (he:vz P (D4 ops base vals i)=some (E,sz,dV,true):=by kernel_rfl)
    (hn:nexts ops A D=[i]:=by kernel_rfl) (hD:D|||2^i=D':=by kernel_rfl) (hX:X|||fq A i|||2^i=X':=by kernel_rfl) (hp:fW ops A D X Wd i=[]:=by kernel_rfl):aH P ops A nn base K D X Wd vals h:=
  aH.vr hn hD hX hp (Does.eC hx he ho hr h1 hl hb hN hZ) fun v' h' ⟨ad,cap,e,o,g,b⟩=>by subst e;exact hh ad cap h' o g b
theorem Own.k{o:Option Nat}{h':Heap}{ad:Option Addr}{n c m sz:Nat}{E:TypeId}{xs:List Value}(w:Own h (.slice ad n c) E m sz xs)(g:Grew o h h')(hne:ad.map (fun(x:Addr)=>x.block)=none∨ad.map (fun(x:Addr)=>x.block)≠o):Own h' (.slice ad n c) E m sz xs:=w.kept g (by rw[af];exact hne)
end
end Go.aj
namespace Go.aN
open Go Go.aj
/-! words, by the operation alone -/
section
variable {P:Program} {K:Exit→Act→Heap→Prop} {h:Heap} {ops:Array Oper} {base:Nat→Value} {vals:aR} {n:Nat}
theorem xA{k:Nat}(j:Nat)(a b:W)(hs:aQ P ops n base K (j+1) (aU (aA P ops base (j - k) k vals) j (wv (a+b))) h)(hv:aP P ops base (aA P ops base (j - k) k vals) j=some (.int .u32 (IntKind.u32.wrap ((a.toNat :Int)+(b.toNat :Int)))):=by kernel_rfl)(hr:gS P ops base (j - k) k vals=true:=by kernel_rfl)(hk:Nat.ble k j=true:=by kernel_rfl):aQ P ops n base K k vals h:=t1 j _ _ (add32 a b) hs hv hr hk
theorem yA{A:List Nat}{D X Wd:Nat}(D' i:Nat)(a b:W)(hs:aH P ops A n base K D' X Wd (aU vals i (wv (a+b))) h)(hv:aP P ops base vals i=some (.int .u32 (IntKind.u32.wrap ((a.toNat :Int)+(b.toNat :Int)))):=by kernel_rfl)(hc:(bk ops A D i&& !(Wd.testBit i))=true:=by kernel_rfl)(hD:D|||2^i=D':=by kernel_rfl):aH P ops A n base K D X Wd vals h:=aH.dy hc hD hv (add32 a b) hs
theorem xX{k:Nat}(j:Nat)(a b:W)(hs:aQ P ops n base K (j+1) (aU (aA P ops base (j - k) k vals) j (wv (a^^^b))) h)(hv:aP P ops base (aA P ops base (j - k) k vals) j=some (.int .u32 (IntKind.u32.wrap ((BitVec.ofInt 32 (a.toNat :Int)^^^BitVec.ofInt 32 (b.toNat :Int)).toNat :Int))):=by kernel_rfl)(hr:gS P ops base (j - k) k vals=true:=by kernel_rfl)(hk:Nat.ble k j=true:=by kernel_rfl):aQ P ops n base K k vals h:=t1 j _ _ (Bs a b) hs hv hr hk
theorem yX{A:List Nat}{D X Wd:Nat}(D' i:Nat)(a b:W)(hs:aH P ops A n base K D' X Wd (aU vals i (wv (a^^^b))) h)(hv:aP P ops base vals i=some (.int .u32 (IntKind.u32.wrap ((BitVec.ofInt 32 (a.toNat :Int)^^^BitVec.ofInt 32 (b.toNat :Int)).toNat :Int))):=by kernel_rfl)(hc:(bk ops A D i&& !(Wd.testBit i))=true:=by kernel_rfl)(hD:D|||2^i=D':=by kernel_rfl):aH P ops A n base K D X Wd vals h:=aH.dy hc hD hv (Bs a b) hs
theorem xN{k:Nat}(j:Nat)(a b:W)(hs:aQ P ops n base K (j+1) (aU (aA P ops base (j - k) k vals) j (wv (a&&&b))) h)(hv:aP P ops base (aA P ops base (j - k) k vals) j=some (.int .u32 (IntKind.u32.wrap ((BitVec.ofInt 32 (a.toNat :Int)&&&BitVec.ofInt 32 (b.toNat :Int)).toNat :Int))):=by kernel_rfl)(hr:gS P ops base (j - k) k vals=true:=by kernel_rfl)(hk:Nat.ble k j=true:=by kernel_rfl):aQ P ops n base K k vals h:=t1 j _ _ (Br a b) hs hv hr hk
theorem yN{A:List Nat}{D X Wd:Nat}(D' i:Nat)(a b:W)(hs:aH P ops A n base K D' X Wd (aU vals i (wv (a&&&b))) h)(hv:aP P ops base vals i=some (.int .u32 (IntKind.u32.wrap ((BitVec.ofInt 32 (a.toNat :Int)&&&BitVec.ofInt 32 (b.toNat :Int)).toNat :Int))):=by kernel_rfl)(hc:(bk ops A D i&& !(Wd.testBit i))=true:=by kernel_rfl)(hD:D|||2^i=D':=by kernel_rfl):aH P ops A n base K D X Wd vals h:=aH.dy hc hD hv (Br a b) hs
theorem xO{k:Nat}(j:Nat)(a b:W)(hs:aQ P ops n base K (j+1) (aU (aA P ops base (j - k) k vals) j (wv (a|||b))) h)(hv:aP P ops base (aA P ops base (j - k) k vals) j=some (.int .u32 (IntKind.u32.wrap ((BitVec.ofInt 32 (a.toNat :Int)|||BitVec.ofInt 32 (b.toNat :Int)).toNat :Int))):=by kernel_rfl)(hr:gS P ops base (j - k) k vals=true:=by kernel_rfl)(hk:Nat.ble k j=true:=by kernel_rfl):aQ P ops n base K k vals h:=t1 j _ _ (El a b) hs hv hr hk
theorem yO{A:List Nat}{D X Wd:Nat}(D' i:Nat)(a b:W)(hs:aH P ops A n base K D' X Wd (aU vals i (wv (a|||b))) h)(hv:aP P ops base vals i=some (.int .u32 (IntKind.u32.wrap ((BitVec.ofInt 32 (a.toNat :Int)|||BitVec.ofInt 32 (b.toNat :Int)).toNat :Int))):=by kernel_rfl)(hc:(bk ops A D i&& !(Wd.testBit i))=true:=by kernel_rfl)(hD:D|||2^i=D':=by kernel_rfl):aH P ops A n base K D X Wd vals h:=aH.dy hc hD hv (El a b) hs
theorem xL{k:Nat}(j:Nat)(a:W)(m:Nat)(hs:aQ P ops n base K (j+1) (aU (aA P ops base (j - k) k vals) j (wv (a<<<m))) h)(hv:aP P ops base (aA P ops base (j - k) k vals) j=some (.int .u32 (IntKind.u32.wrap ((a.toNat :Int)*2^m))):=by kernel_rfl)(hr:gS P ops base (j - k) k vals=true:=by kernel_rfl)(hk:Nat.ble k j=true:=by kernel_rfl):aQ P ops n base K k vals h:=t1 j _ _ (Bt a m) hs hv hr hk
theorem yL{A:List Nat}{D X Wd:Nat}(D' i:Nat)(a:W)(m:Nat)(hs:aH P ops A n base K D' X Wd (aU vals i (wv (a<<<m))) h)(hv:aP P ops base vals i=some (.int .u32 (IntKind.u32.wrap ((a.toNat :Int)*2^m))):=by kernel_rfl)(hc:(bk ops A D i&& !(Wd.testBit i))=true:=by kernel_rfl)(hD:D|||2^i=D':=by kernel_rfl):aH P ops A n base K D X Wd vals h:=aH.dy hc hD hv (Bt a m) hs
theorem xR{k:Nat}(j:Nat)(a:W)(m:Nat)(hs:aQ P ops n base K (j+1) (aU (aA P ops base (j - k) k vals) j (wv (a>>>m))) h)(hv:aP P ops base (aA P ops base (j - k) k vals) j=some (.int .u32 (Int.fdiv (a.toNat :Int) (2^m))):=by kernel_rfl)(hr:gS P ops base (j - k) k vals=true:=by kernel_rfl)(hk:Nat.ble k j=true:=by kernel_rfl):aQ P ops n base K k vals h:=t1 j _ _ (oO a m) hs hv hr hk
theorem yR{A:List Nat}{D X Wd:Nat}(D' i:Nat)(a:W)(m:Nat)(hs:aH P ops A n base K D' X Wd (aU vals i (wv (a>>>m))) h)(hv:aP P ops base vals i=some (.int .u32 (Int.fdiv (a.toNat :Int) (2^m))):=by kernel_rfl)(hc:(bk ops A D i&& !(Wd.testBit i))=true:=by kernel_rfl)(hD:D|||2^i=D':=by kernel_rfl):aH P ops A n base K D X Wd vals h:=aH.dy hc hD hv (oO a m) hs
theorem yM{A:List Nat}{D X Wd:Nat}(D' i:Nat)(a:W)(hs:aH P ops A n base K D' X Wd (aU vals i (wv (~~~a))) h)(hv:aP P ops base vals i=some (.int .u32 (IntKind.u32.wrap ((BitVec.ofInt 32 4294967295^^^BitVec.ofInt 32 (a.toNat :Int)).toNat :Int))):=by kernel_rfl)(hc:(bk ops A D i&& !(Wd.testBit i))=true:=by kernel_rfl)(hD:D|||2^i=D':=by kernel_rfl):aH P ops A n base K D X Wd vals h:=aH.dy hc hD hv (Em a) hs
theorem yC{A:List Nat}{D X Wd:Nat}(D' i:Nat)(a:UInt8)(hs:aH P ops A n base K D' X Wd (aU vals i (wv (w8 a))) h)(hv:aP P ops base vals i=some (.int .u32 (IntKind.u32.wrap (a.toNat :Int))):=by kernel_rfl)(hc:(bk ops A D i&& !(Wd.testBit i))=true:=by kernel_rfl)(hD:D|||2^i=D':=by kernel_rfl):aH P ops A n base K D X Wd vals h:=aH.dy hc hD hv (En a) hs
theorem xD{k:Nat}(j:Nat)(a:W)(hs:aQ P ops n base K (j+1) (aU (aA P ops base (j - k) k vals) j (bv (b32 a))) h)(hv:aP P ops base (aA P ops base (j - k) k vals) j=some (.int .u8 (IntKind.u8.wrap (a.toNat :Int))):=by kernel_rfl)(hr:gS P ops base (j - k) k vals=true:=by kernel_rfl)(hk:Nat.ble k j=true:=by kernel_rfl):aQ P ops n base K k vals h:=t1 j _ _ (Cf a) hs hv hr hk
end
end Go.aN
end
section
namespace Go.aj
open Go Go.aN
theorem dm{P:Program}{e:TypeId}{cs:Array Value}{i:Nat}{v:Value}{d:TypeDesc}(he:P.underlying e=some d)(hd:(match d with| .struct _| .array _ _=>true|_=>false)=false)(hv:cs[i]? =some v)(w:World):(part e cs i).run P w= .ok v w:=by
  have ha:(isAgg e).run P w= .ok false w:=by
    unfold isAgg
    simp only[Sem.run_bind,run_underlying he,Result.andThen_ok]
    cases d<;>first|rfl| (simp at hd)
  simp[part,ha,hv]
theorem bv_beq(a b:UInt8):(((a.toNat :Int))==(b.toNat :Int))=decide (a=b):=by
  rw[Bool.eq_iff_iff]
  simp only[beq_iff_eq,decide_eq_true_eq]
  constructor
  · intro h;exact UInt8.toNat_inj.1 (by omega)
  · intro h;rw[h]
theorem kf{P:Program}{e:TypeId}{n:Nat}(d:Nat)(he:P.underlying e=some (.int .u8))(l r:List UInt8)(hl:l.length =n)(hr:r.length =n)(w:World):∀(m k:Nat),k+m=n→
    (forIn (List.range' k m) ((none:Option Bool),()) fun i __s=>(do
            let __do_lift←part e (List.map bv l).toArray (i*1)
            let oP←part e (List.map bv r).toArray (i*1)
            let __do_lift←Op.equalIn (d+1) e __do_lift oP
            if (!__do_lift)=true then pure (ForInStep.done (some false,())) else pure (ForInStep.yield (none,())):Sem (ForInStep (Option Bool×Unit)))).run P w=
      .ok (if l.drop k=r.drop k then (none,()) else (some false,())) w
  | 0, k, hk => by
    rw[List.drop_eq_nil_of_le (by omega),List.drop_eq_nil_of_le (by omega)]
    simp
  | m + 1, k, hk => by
    have hkl:k<l.length :=by omega
    have hkr:k<r.length :=by omega
    have h1:=dm (P:=P) (cs:=(List.map bv l).toArray) (i:=k*1) (v:=bv l[k]) he rfl (by simp[hkl]) w
    have h2:=dm (P:=P) (cs:=(List.map bv r).toArray) (i:=k*1) (v:=bv r[k]) he rfl (by simp[hkr]) w
    have h3:(Op.equalIn (d+1) e (bv l[k]) (bv r[k])).run P w= .ok (decide (l[k]=r[k])) w:=by
      rw[←bv_beq]
      simp[Op.equalIn,run_underlying he,bv]
    rw[List.range'_succ,List.forIn_cons]
    simp only[Sem.run_bind,h1,h2,h3,Result.andThen_ok]
    rw[List.drop_eq_getElem_cons hkl,List.drop_eq_getElem_cons hkr]
    by_cases e1:l[k]=r[k]
    · simp only [e1, decide_true, Bool.not_true, Bool.false_eq_true, if_false, Sem.run_pure, Result.andThen_ok, List.cons.injEq, true_and]
      exact kf d he l r hl hr w m (k+1) (by omega)
    · have hne : ¬ (l[k] :: l.drop (k + 1) = r[k] :: r.drop (k + 1)) := fun h => e1 (List.cons.inj h).1
      rw[if_neg hne]
      simp only[e1,decide_false,Bool.not_false,if_true,Sem.run_pure,Result.andThen_ok]
theorem fx{P:Program}{t e:TypeId}{n:Nat}{i:TypeInfo}(d:Nat)(ht:P.underlying t=some (.array n e))(he:P.underlying e=some (.int .u8))(hi:P.info? e=some i)(hs:i.size =1)(l r:List UInt8)(hl:l.length =n)(hr:r.length =n)(w:World):
    (Op.equalIn (d+2) t (.agg (l.map bv).toArray) (.agg (r.map bv).toArray)).run P w= .ok (decide (l=r)) w:=by
  have hloop:=kf (P:=P) d he l r hl hr w n 0 (by omega)
  have hsz:[:n].size =n:=by simp[Std.Legacy.Range.size]
  unfold Op.equalIn
  simp only[Sem.run_bind,run_underlying ht,Result.andThen_ok,sizeOf,typeInfo,program,Sem.run,hi,hs,Sem.run_pure,Std.Legacy.Range.forIn_eq_forIn_range',hsz]
  rw[hloop]
  simp only[List.drop_zero,Result.andThen_ok]
  by_cases e1:l=r<;>simp[e1]
def eqF (P : Program) (e : Operand → Value) (o : Oper) : Option (Bool × Array Value × Array Value × Nat) :=
  match o.op with
  | .binOp op t x y _ => match e x, e y with
    | .agg a, .agg b => match P.underlying t, P.eqGuardType P.depth t with
      | some (.array n el), false => match P.underlying el, P.info? el with
        | some (.int .u8), some i => match Nat.beq i.size 1 with
          | true => match op with
            | .eql =>some (true,a,b,n)
            | .neq =>some (false,a,b,n)
            |_=>none
          |false=>none
        |_,_=>none
      |_,_=>none
    |_,_=>none
  |_=>none
def Ep(P:Program)(ops:Array Oper)(base:Nat→Value)(vals:aR)(i:Nat):=(iV ops base vals i).bind (eqF P (env ops base vals i))
theorem Calm.Mf{P:Program}{ops:Array Oper}{base:Nat→Value}{vals:aR}{i:Nat}{q:Bool}{n:Nat}{l r:List UInt8}(hx:Ep P ops base vals i=some (q,(l.map bv).toArray,(r.map bv).toArray,n))(hl:l.length =n)(hr:r.length =n)(h:Heap):
    Calm P ops base vals i h (.bool (decide (l=r)==q)):=by
  refine aS hx fun o ho w hw=> ?_
  have hrun:(execOp (env ops base vals i) o).run P w= .ok (.value (.bool (decide (l=r)==q))) w:=by
    unfold eqF at ho
    cases hop:o.op with
    | binOp op t x y T' =>
      simp only[hop] at ho
      cases ha:env ops base vals i x<;>simp only[ha] at ho<;>first| (cases ho;done)|skip
      cases hb:env ops base vals i y<;>simp only[hb] at ho<;>first| (cases ho;done)|skip
      cases hu:P.underlying t with
      |none=>simp[hu] at ho
      | some dd =>
        cases hg:P.eqGuardType P.depth t with
        |true=>cases dd<;>simp[hu,hg] at ho
        | false =>
          cases dd<;>simp only[hu,hg] at ho<;>first| (cases ho;done)|skip
          rename_i n' el
          cases hel:P.underlying el with
          |none=>simp[hel] at ho
          | some de =>
            cases de<;>simp only[hel] at ho<;>first| (cases ho;done)|skip
            rename_i k
            cases hi:P.info? el with
            |none=>cases k<;>simp[hi] at ho
            | some inf =>
              cases k<;>simp only[hi] at ho<;>first| (cases ho;done)|skip
              cases hs:Nat.beq inf.size 1 with
              |false=>simp[hs] at ho
              | true =>
                have hs':=Nat.eq_of_beq_eq_true hs
                simp only[hs] at ho
                cases op<;>simp only[Option.some.injEq,Prod.mk.injEq] at ho<;>first| (cases ho;done)|skip
                · obtain ⟨rfl, h1, h2, rfl⟩ := ho
                  subst h1;subst h2
                  have hq:=fx (P:=P) 9998 hu hel hi hs' l r hl hr w
                  unfold execOp
                  simp[hop,eqGuard,binOp,ha,hb,hg,Op.equal,Op.maxDepth,hq,program,Sem.run]
                · obtain ⟨rfl, h1, h2, rfl⟩ := ho
                  subst h1;subst h2
                  have hq:=fx (P:=P) 9998 hu hel hi hs' l r hl hr w
                  unfold execOp
                  simp[hop,eqGuard,binOp,ha,hb,hg,Op.equal,Op.maxDepth,hq,program,Sem.run]
    |_=>simp[hop] at ho
  rw[hrun]
  exact⟨Same.refl w,rfl,hw⟩
end Go.aj
namespace Go.aN
open Go Go.aj
theorem qD.gr{F:Nat→Prop}{h h':Heap}{b:Nat}{o:Option Nat}{st:S8}{r:List UInt8}{n:Nat}(s:qD h b o st r n)(g:Gr F h h')(hb:¬F b)(ho:∀k,o=some k→¬F k):qD h' b o st r n:=by
  obtain⟨ad,cap,e,hne,hm,hown⟩:=s
  refine⟨ad,cap,e,hne,g.blk hm hb,hown.1,hown.2.imp id ?_⟩
  rintro⟨q,off,cap',l,e1,hg,r⟩
  refine⟨q,off,cap',l,e1,g.blk hg (ho q ?_),r⟩
  simp only[Value.slice.injEq] at e1
  rw[e,e1.1];rfl
theorem Ext.gr{h h':Heap}(g:Ext h h')(F:Nat→Prop):Gr F h h':=⟨g.size,fun k hk _=>g.get k hk (by simp)⟩
theorem qD.ext{h h':Heap}{b:Nat}{o:Option Nat}{st:S8}{r:List UInt8}{n:Nat}(s:qD h b o st r n)(g:Ext h h'):qD h' b o st r n:=
  s.gr (Ext.gr g (fun _=>False)) (fun h=>h) (fun _ _ h=>h)
theorem Grew.gr{o:Option Nat}{h h':Heap}(g:Grew o h h'):Gr (fun k=>some k=o) h h':=⟨g.size,fun k hk hne=>g.get k hk hne⟩
theorem qD.lt{h:Heap}{b:Nat}{o:Option Nat}{st:S8}{r:List UInt8}{n:Nat}(s:qD h b o st r n):b<h.size ∧∀k,o=some k→k<h.size :=by
  obtain⟨ad,cap,e,hne,hm,hown⟩:=s
  exact⟨ak hm,fun k hk=>hown.lt (by rw[af, ←e];exact hk)⟩
theorem Row.HW(h:Heap):Row h (.slice none ([]:List UInt8).length 0) ([]:List UInt8).length 1 (([]:List UInt8).map bv):=Row.nil h 1
end Go.aN
end
section
namespace Go.Proofs.YtegkejcglfgpmaaGreatDoor
open Go Go.aj Go.aN
theorem mixed:Tryz.prog.follows .mixedOrders =true:=by kernel_rfl
noncomputable def Mg:Code:=Tryz.f119.body.getD .skip
theorem Cj(h:Heap)(x:W):Sat Tryz.prog 119 #[wv x,.int .i64 (-7)] h fun v h'=>v=wv (rr x 7)∧h'=h:=by
 refine ag Tryz.func119 17 fun a b=>qP [] b fun a b=>qP [(5,.int .u64 25)] b fun a b=>qS b<|xL 2 x 25<|xR 6 x 7<|xO 7 (x<<<25) (x>>>7) ?_
 exact sT [(4,wv ((x<<<25)|||(x>>>7)))] fun a b=>cR<|rT 4 (wv ((x<<<25)|||(x>>>7))) b<|⟨congrArg wv (BitVec.or_comm _ _),rfl⟩
theorem zk(h:Heap)(x:W):Sat Tryz.prog 119 #[wv x,.int .i64 (-18)] h fun v h'=>v=wv (rr x 18)∧h'=h:=by
 refine ag Tryz.func119 17 fun a b=>qP [] b fun a b=>qP [(5,.int .u64 14)] b fun a b=>qS b<|xL 2 x 14<|xR 6 x 18<|xO 7 (x<<<14) (x>>>18) ?_
 exact sT [(4,wv ((x<<<14)|||(x>>>18)))] fun a b=>cR<|rT 4 (wv ((x<<<14)|||(x>>>18))) b<|⟨congrArg wv (BitVec.or_comm _ _),rfl⟩
theorem zl(h:Heap)(x:W):Sat Tryz.prog 119 #[wv x,.int .i64 (-17)] h fun v h'=>v=wv (rr x 17)∧h'=h:=by
 refine ag Tryz.func119 17 fun a b=>qP [] b fun a b=>qP [(5,.int .u64 15)] b fun a b=>qS b<|xL 2 x 15<|xR 6 x 17<|xO 7 (x<<<15) (x>>>17) ?_
 exact sT [(4,wv ((x<<<15)|||(x>>>17)))] fun a b=>cR<|rT 4 (wv ((x<<<15)|||(x>>>17))) b<|⟨congrArg wv (BitVec.or_comm _ _),rfl⟩
theorem zm(h:Heap)(x:W):Sat Tryz.prog 119 #[wv x,.int .i64 (-19)] h fun v h'=>v=wv (rr x 19)∧h'=h:=by
 refine ag Tryz.func119 17 fun a b=>qP [] b fun a b=>qP [(5,.int .u64 13)] b fun a b=>qS b<|xL 2 x 13<|xR 6 x 19<|xO 7 (x<<<13) (x>>>19) ?_
 exact sT [(4,wv ((x<<<13)|||(x>>>19)))] fun a b=>cR<|rT 4 (wv ((x<<<13)|||(x>>>19))) b<|⟨congrArg wv (BitVec.or_comm _ _),rfl⟩
theorem Ck(h:Heap)(x:W):Sat Tryz.prog 119 #[wv x,.int .i64 (-6)] h fun v h'=>v=wv (rr x 6)∧h'=h:=by
 refine ag Tryz.func119 17 fun a b=>qP [] b fun a b=>qP [(5,.int .u64 26)] b fun a b=>qS b<|xL 2 x 26<|xR 6 x 6<|xO 7 (x<<<26) (x>>>6) ?_
 exact sT [(4,wv ((x<<<26)|||(x>>>6)))] fun a b=>cR<|rT 4 (wv ((x<<<26)|||(x>>>6))) b<|⟨congrArg wv (BitVec.or_comm _ _),rfl⟩
theorem zn(h:Heap)(x:W):Sat Tryz.prog 119 #[wv x,.int .i64 (-11)] h fun v h'=>v=wv (rr x 11)∧h'=h:=by
 refine ag Tryz.func119 17 fun a b=>qP [] b fun a b=>qP [(5,.int .u64 21)] b fun a b=>qS b<|xL 2 x 21<|xR 6 x 11<|xO 7 (x<<<21) (x>>>11) ?_
 exact sT [(4,wv ((x<<<21)|||(x>>>11)))] fun a b=>cR<|rT 4 (wv ((x<<<21)|||(x>>>11))) b<|⟨congrArg wv (BitVec.or_comm _ _),rfl⟩
theorem zo(h:Heap)(x:W):Sat Tryz.prog 119 #[wv x,.int .i64 (-25)] h fun v h'=>v=wv (rr x 25)∧h'=h:=by
 refine ag Tryz.func119 17 fun a b=>qP [] b fun a b=>qP [(5,.int .u64 7)] b fun a b=>qS b<|xL 2 x 7<|xR 6 x 25<|xO 7 (x<<<7) (x>>>25) ?_
 exact sT [(4,wv ((x<<<7)|||(x>>>25)))] fun a b=>cR<|rT 4 (wv ((x<<<7)|||(x>>>25))) b<|⟨congrArg wv (BitVec.or_comm _ _),rfl⟩
theorem Cl(h:Heap)(x:W):Sat Tryz.prog 119 #[wv x,.int .i64 (-2)] h fun v h'=>v=wv (rr x 2)∧h'=h:=by
 refine ag Tryz.func119 17 fun a b=>qP [] b fun a b=>qP [(5,.int .u64 30)] b fun a b=>qS b<|xL 2 x 30<|xR 6 x 2<|xO 7 (x<<<30) (x>>>2) ?_
 exact sT [(4,wv ((x<<<30)|||(x>>>2)))] fun a b=>cR<|rT 4 (wv ((x<<<30)|||(x>>>2))) b<|⟨congrArg wv (BitVec.or_comm _ _),rfl⟩
theorem zp(h:Heap)(x:W):Sat Tryz.prog 119 #[wv x,.int .i64 (-13)] h fun v h'=>v=wv (rr x 13)∧h'=h:=by
 refine ag Tryz.func119 17 fun a b=>qP [] b fun a b=>qP [(5,.int .u64 19)] b fun a b=>qS b<|xL 2 x 19<|xR 6 x 13<|xO 7 (x<<<19) (x>>>13) ?_
 exact sT [(4,wv ((x<<<19)|||(x>>>13)))] fun a b=>cR<|rT 4 (wv ((x<<<19)|||(x>>>13))) b<|⟨congrArg wv (BitVec.or_comm _ _),rfl⟩
theorem zr(h:Heap)(x:W):Sat Tryz.prog 119 #[wv x,.int .i64 (-22)] h fun v h'=>v=wv (rr x 22)∧h'=h:=by
 refine ag Tryz.func119 17 fun a b=>qP [] b fun a b=>qP [(5,.int .u64 10)] b fun a b=>qS b<|xL 2 x 10<|xR 6 x 22<|xO 7 (x<<<10) (x>>>22) ?_
 exact sT [(4,wv ((x<<<10)|||(x>>>22)))] fun a b=>cR<|rT 4 (wv ((x<<<10)|||(x>>>22))) b<|⟨congrArg wv (BitVec.or_comm _ _),rfl⟩
noncomputable def b92:Code:=Tryz.f92.body.getD .skip
theorem mv(h:Heap)(s:S8)(pa:Addr)(pc:Nat)(p:List UInt8)(hp:∀j,j<64→hcell h (pa.add j)=some (bv (p.getD j 0)))(hK:bl h):Sat Tryz.prog 92 #[.agg #[wv s.a,wv s.b,wv s.c,wv s.d,wv s.e,wv s.f,wv s.g,wv s.h],.slice (some pa) 64 pc] h fun v h'=>v= .agg (sv (piece s p)).toArray ∧Ext h h':=by
 have n:=Ext.refl h
 refine ag Tryz.func92 211 fun a i=>qS i<|tN 0 (pV h.size) #[wv s.a,wv s.b,wv s.c,wv s.d,wv s.e,wv s.f,wv s.g,wv s.h] 145 fun h1 P l=> ?_
 have Q:=ak l
 have S:=n.size
 replace n:=n.ext P
 refine tN 1 (pV h1.size) #[.int .u32 0,.int .u32 0,.int .u32 0,.int .u32 0,.int .u32 0,.int .u32 0,.int .u32 0,.int .u32 0] 145 fun r L o=> ?_
 have U:=ak o
 have M:=n.size
 replace n:=n.ext L
 replace l:=l.x L
 refine sT [(2,pV h.size),(4,pV h1.size)] fun a i=>qS i<|tN 0 (pV r.size) #[.int .u32 0,.int .u32 0,.int .u32 0,.int .u32 0,.int .u32 0,.int .u32 0,.int .u32 0,.int .u32 0,.int .u32 0,.int .u32 0,.int .u32 0,.int .u32 0,.int .u32 0,.int .u32 0,.int .u32 0,.int .u32 0,.int .u32 0,.int .u32 0,.int .u32 0,.int .u32 0,.int .u32 0,.int .u32 0,.int .u32 0,.int .u32 0,.int .u32 0,.int .u32 0,.int .u32 0,.int .u32 0,.int .u32 0,.int .u32 0,.int .u32 0,.int .u32 0,.int .u32 0,.int .u32 0,.int .u32 0,.int .u32 0,.int .u32 0,.int .u32 0,.int .u32 0,.int .u32 0,.int .u32 0,.int .u32 0,.int .u32 0,.int .u32 0,.int .u32 0,.int .u32 0,.int .u32 0,.int .u32 0,.int .u32 0,.int .u32 0,.int .u32 0,.int .u32 0,.int .u32 0,.int .u32 0,.int .u32 0,.int .u32 0,.int .u32 0,.int .u32 0,.int .u32 0,.int .u32 0,.int .u32 0,.int .u32 0,.int .u32 0,.int .u32 0] 173 fun V t m13=> ?_
 have N:=n.size
 replace n:=n.ext t
 replace l:=l.x t
 replace o:=o.x t
 refine sT [(5,pV r.size)] fun a i=>cS<|qP [(27,.int .i64 0)] i fun a i=>cB 0<|cL (fun m a h'=>∃k:Nat,m=16 - k∧(Ext h h')∧(h'[h.size]? =some (.cells #[wv s.a,wv s.b,wv s.c,wv s.d,wv s.e,wv s.f,wv s.g,wv s.h] 145))∧(h'[h1.size]? =some (.cells #[.int .u32 0,.int .u32 0,.int .u32 0,.int .u32 0,.int .u32 0,.int .u32 0,.int .u32 0,.int .u32 0] 145))∧(k≤16)∧(h'[r.size]? =some (.cells (wl (first p k)).toArray 173))∧(Fr a 211 [(1,.slice (some pa) 64 pc),(2,.pointer (some ⟨h.size,0,none⟩)),(4,.pointer (some ⟨h1.size,0,none⟩)),(5,.pointer (some ⟨r.size,0,none⟩)),(27,.int .i64 ((k:Nat):Int))])) (16 - 0) ⟨0,rfl,n,l,o,(by omega),m13,i.to⟩ ?_
 clear i a
 clear n
 clear l
 clear o
 clear m13
 rintro m a W ⟨k,rfl,n,l,o,hk,m13,i⟩
 refine qP [(28,.bool (decide (((k:Nat):Int)<(16:Int))))] i fun a i=>cS<|cJ 28 i (fun z=> ?_) fun z=> ?_
 ·refine cN<|tK<|cS<|cB 1<|qP [(6,nV k)] i fun a i=>cD [0,0,0,4,14,30,62,126,0,0,512,1536,3840,7936,16128,32512,65534,0,0,262144,786432,1966080,4063232,8257536,16646144,33554430,0,0,134217728,402653184,1006632960,2080374784,4227858432,8589934590,17179869183,34359738367] 5 mixed i<|mP 7 [0,1,2] [nV k,.slice (some pa) 64 pc,nV k] ?_
  refine m1 15 3 (.int .i64 ((4*k:Nat):Int)) (.int .i64 (IntKind.i64.wrap (4*((k:Nat):Int)))) (congrArg (Value.int .i64) (fY (by omega) (by omega) (by omega)))<|mI 31 4 pa 64 1 (4*k) (4*k)<|mL 63 32 5 (bv (p.getD (4*k) 0)) (Calm.load (T:=5) (p:=(Addr.add pa (4*k))) (by kernel_rfl) (Loads.one (k:=1) (by kernel_rfl) (n.cell (hp (4*k) (by omega)))))<|yC 127 6 (p.getD (4*k) 0)<|yL 255 7 (w8 (p.getD (4*k) 0)) 24<|mP 1023 [8,9] [.slice (some pa) 64 pc,nV k]<|m1 2047 10 (.int .i64 ((4*k:Nat):Int)) (.int .i64 (IntKind.i64.wrap (4*((k:Nat):Int)))) (congrArg (Value.int .i64) (fY (by omega) (by omega) (by omega))) ?_
  refine mA 4095 11 (4*k) 1<|mI 8191 12 pa 64 1 ((4*k)+1) ((4*k)+1)<|mL 16383 8224 13 (bv (p.getD ((4*k)+1) 0)) (Calm.load (T:=5) (p:=(Addr.add pa ((4*k)+1))) (by kernel_rfl) (Loads.one (k:=1) (by kernel_rfl) (n.cell (hp ((4*k)+1) (by omega)))))<|yC 32767 14 (p.getD ((4*k)+1) 0)<|yL 65535 15 (w8 (p.getD ((4*k)+1) 0)) 16<|yO 131071 16 ((w8 (p.getD (4*k) 0))<<<24) ((w8 (p.getD ((4*k)+1) 0))<<<16)<|mP 524287 [17,18] [.slice (some pa) 64 pc,nV k] ?_
  refine m1 1048575 19 (.int .i64 ((4*k:Nat):Int)) (.int .i64 (IntKind.i64.wrap (4*((k:Nat):Int)))) (congrArg (Value.int .i64) (fY (by omega) (by omega) (by omega)))<|mA 2097151 20 (4*k) 2<|mI 4194303 21 pa 64 1 ((4*k)+2) ((4*k)+2)<|mL 8388607 4202528 22 (bv (p.getD ((4*k)+2) 0)) (Calm.load (T:=5) (p:=(Addr.add pa ((4*k)+2))) (by kernel_rfl) (Loads.one (k:=1) (by kernel_rfl) (n.cell (hp ((4*k)+2) (by omega)))))<|yC 16777215 23 (p.getD ((4*k)+2) 0)<|yL 33554431 24 (w8 (p.getD ((4*k)+2) 0)) 8<|yO 67108863 25 (((w8 (p.getD (4*k) 0))<<<24)|||((w8 (p.getD ((4*k)+1) 0))<<<16)) ((w8 (p.getD ((4*k)+2) 0))<<<8) ?_
  refine mP 268435455 [26,27] [.slice (some pa) 64 pc,nV k]<|m1 536870911 28 (.int .i64 ((4*k:Nat):Int)) (.int .i64 (IntKind.i64.wrap (4*((k:Nat):Int)))) (congrArg (Value.int .i64) (fY (by omega) (by omega) (by omega)))<|mA 1073741823 29 (4*k) 3<|mI 2147483647 30 pa 64 1 ((4*k)+3) ((4*k)+3)<|mL 4294967295 2151686176 31 (bv (p.getD ((4*k)+3) 0)) (Calm.load (T:=5) (p:=(Addr.add pa ((4*k)+3))) (by kernel_rfl) (Loads.one (k:=1) (by kernel_rfl) (n.cell (hp ((4*k)+3) (by omega)))))<|yC 8589934591 32 (p.getD ((4*k)+3) 0)<|yO 17179869183 33 ((((w8 (p.getD (4*k) 0))<<<24)|||((w8 (p.getD ((4*k)+1) 0))<<<16))|||((w8 (p.getD ((4*k)+2) 0))<<<8)) (w8 (p.getD ((4*k)+3) 0)) ?_
  refine mJ 34359738367 34 r.size 0 64 1 k k<|mV 68719476735 68719476735 35 k [wv (((((w8 (p.getD (4*k) 0))<<<24)|||((w8 (p.getD ((4*k)+1) 0))<<<16))|||((w8 (p.getD ((4*k)+2) 0))<<<8))|||(w8 (p.getD ((4*k)+3) 0)))] (wl (first p k++[(((((w8 (p.getD (4*k) 0))<<<24)|||((w8 (p.getD ((4*k)+1) 0))<<<16))|||((w8 (p.getD ((4*k)+2) 0))<<<8))|||(w8 (p.getD ((4*k)+3) 0)))])) m13 (fun X u q=> ?_) (hfit:=(vD (eB p k) (by omega))) (h1:=(sf _)) (e:=(sd (eB p k) (by omega)))
  replace n:=n.v u
  replace l:=l.y u
  replace o:=o.y u
  replace m13:=q
  refine mE [] fun a i=>bK<|tK<|rS i<|tA 0 k 1<|sE [(27,nV (k+1))] fun a i=> ?_
  show ∃m',m'<_∧_
  refine⟨_,?_,k+1,rfl,n,l,o,(by omega),m13,i.to⟩
  omega
 ·refine cX 0 (xT (xT (xB ?_)))
  refine tK<|cS<|qP [(7,.int .i64 16)] i fun a i=>cB 2<|cL (fun m a h'=>∃k:Nat,m=48 - k∧(Ext h h')∧(h'[h.size]? =some (.cells #[wv s.a,wv s.b,wv s.c,wv s.d,wv s.e,wv s.f,wv s.g,wv s.h] 145))∧(h'[h1.size]? =some (.cells #[.int .u32 0,.int .u32 0,.int .u32 0,.int .u32 0,.int .u32 0,.int .u32 0,.int .u32 0,.int .u32 0] 145))∧(k≤48)∧(h'[r.size]? =some (.cells (wl (sched p k)).toArray 173))∧(Fr a 211 [(2,.pointer (some ⟨h.size,0,none⟩)),(4,.pointer (some ⟨h1.size,0,none⟩)),(5,.pointer (some ⟨r.size,0,none⟩)),(7,.int .i64 ((16+k:Nat):Int))])) (48 - 0) ⟨0,rfl,n,l,o,(by omega),(by have e:k=16:=(by omega);subst e;exact m13),i.to⟩ ?_
  clear i a
  clear n
  clear l
  clear o
  rintro m a Y ⟨k,rfl,n,l,o,hk,m13,i⟩
  refine cS<|qP [(67,.bool (decide (((16+k:Nat):Int)<(64:Int))))] i fun a i=>cJ 67 i (fun A=> ?_) fun A=> ?_
  ·refine cN<|tK<|cS<|cB 3<|cS<|cD [0,1,3,7,0,16,48,112,15,511] 10 mixed i<|mP 1 [0] [nV (16+k)] ?_
   refine mU 3 1 (16+k) 15<|mJ 7 2 r.size 0 64 1 ((16+k) - 15) ((16+k) - 15)<|mL 15 8 3 (wv ((sched p k).getD ((16+k) - 15) 0)) (Calm.load (T:=143) (p:=⟨r.size,(16+k) - 15,none⟩) (by kernel_rfl) (Loads.one (k:=1) (by kernel_rfl) ((an m13).trans (iZ (bJ p k) (by omega)))))<|mP 31 [4] [nV (16+k)]<|mU 63 5 (16+k) 2<|mJ 127 6 r.size 0 64 1 ((16+k) - 2) ((16+k) - 2)<|mL 255 136 7 (wv ((sched p k).getD ((16+k) - 2) 0)) (Calm.load (T:=143) (p:=⟨r.size,(16+k) - 2,none⟩) (by kernel_rfl) (Loads.one (k:=1) (by kernel_rfl) ((an m13).trans (iZ (bJ p k) (by omega))))) ?_
   refine mP 1023 [8,9] [wv ((sched p k).getD ((16+k) - 15) 0),wv ((sched p k).getD ((16+k) - 2) 0)]<|mE [(8,wv ((sched p k).getD ((16+k) - 15) 0)),(9,wv ((sched p k).getD ((16+k) - 2) 0))] fun a i=>tK<|qS i<|tC 1 (wv (rr ((sched p k).getD ((16+k) - 15) 0) 7)) (Does.call (f:=119) (args:= #[wv ((sched p k).getD ((16+k) - 15) 0),.int .i64 (-7)]) (by kernel_rfl) (Cj _ ((sched p k).getD ((16+k) - 15) 0)))<|tC 3 (wv (rr ((sched p k).getD ((16+k) - 15) 0) 18)) (Does.call (f:=119) (args:= #[wv ((sched p k).getD ((16+k) - 15) 0),.int .i64 (-18)]) (by kernel_rfl) (zk _ ((sched p k).getD ((16+k) - 15) 0)))<|xX 4 (rr ((sched p k).getD ((16+k) - 15) 0) 7) (rr ((sched p k).getD ((16+k) - 15) 0) 18) ?_
   refine xR 6 ((sched p k).getD ((16+k) - 15) 0) 3<|xX 7 ((rr ((sched p k).getD ((16+k) - 15) 0) 7)^^^(rr ((sched p k).getD ((16+k) - 15) 0) 18)) (((sched p k).getD ((16+k) - 15) 0)>>>3)<|sT [(10,wv (((rr ((sched p k).getD ((16+k) - 15) 0) 7)^^^(rr ((sched p k).getD ((16+k) - 15) 0) 18))^^^(((sched p k).getD ((16+k) - 15) 0)>>>3)))] fun a i=>qS i<|tC 1 (wv (rr ((sched p k).getD ((16+k) - 2) 0) 17)) (Does.call (f:=119) (args:= #[wv ((sched p k).getD ((16+k) - 2) 0),.int .i64 (-17)]) (by kernel_rfl) (zl _ ((sched p k).getD ((16+k) - 2) 0)))<|tC 3 (wv (rr ((sched p k).getD ((16+k) - 2) 0) 19)) (Does.call (f:=119) (args:= #[wv ((sched p k).getD ((16+k) - 2) 0),.int .i64 (-19)]) (by kernel_rfl) (zm _ ((sched p k).getD ((16+k) - 2) 0)))<|xX 4 (rr ((sched p k).getD ((16+k) - 2) 0) 17) (rr ((sched p k).getD ((16+k) - 2) 0) 19) ?_
   refine xR 6 ((sched p k).getD ((16+k) - 2) 0) 10<|xX 7 ((rr ((sched p k).getD ((16+k) - 2) 0) 17)^^^(rr ((sched p k).getD ((16+k) - 2) 0) 19)) (((sched p k).getD ((16+k) - 2) 0)>>>10)<|sT [(11,wv (((rr ((sched p k).getD ((16+k) - 2) 0) 17)^^^(rr ((sched p k).getD ((16+k) - 2) 0) 19))^^^(((sched p k).getD ((16+k) - 2) 0)>>>10)))] fun a i=>cD [0,0,2,6,14,0,62,0,128,384,896,2046,0,8190,16383,32767] 13 mixed i<|mP 3 [0,1] [nV (16+k),nV (16+k)]<|mU 7 2 (16+k) 16<|mJ 15 3 r.size 0 64 1 ((16+k) - 16) ((16+k) - 16) ?_
   refine mL 31 16 4 (wv ((sched p k).getD ((16+k) - 16) 0)) (Calm.load (T:=143) (p:=⟨r.size,(16+k) - 16,none⟩) (by kernel_rfl) (Loads.one (k:=1) (by kernel_rfl) ((an m13).trans (iZ (bJ p k) (by omega)))))<|mP 63 [5] [wv (((rr ((sched p k).getD ((16+k) - 15) 0) 7)^^^(rr ((sched p k).getD ((16+k) - 15) 0) 18))^^^(((sched p k).getD ((16+k) - 15) 0)>>>3))]<|yA 127 6 ((sched p k).getD ((16+k) - 16) 0) (((rr ((sched p k).getD ((16+k) - 15) 0) 7)^^^(rr ((sched p k).getD ((16+k) - 15) 0) 18))^^^(((sched p k).getD ((16+k) - 15) 0)>>>3))<|mP 255 [7] [nV (16+k)]<|mU 511 8 (16+k) 7<|mJ 1023 9 r.size 0 64 1 ((16+k) - 7) ((16+k) - 7)<|mL 2047 1040 10 (wv ((sched p k).getD ((16+k) - 7) 0)) (Calm.load (T:=143) (p:=⟨r.size,(16+k) - 7,none⟩) (by kernel_rfl) (Loads.one (k:=1) (by kernel_rfl) ((an m13).trans (iZ (bJ p k) (by omega))))) ?_
   refine yA 4095 11 (((sched p k).getD ((16+k) - 16) 0)+(((rr ((sched p k).getD ((16+k) - 15) 0) 7)^^^(rr ((sched p k).getD ((16+k) - 15) 0) 18))^^^(((sched p k).getD ((16+k) - 15) 0)>>>3))) ((sched p k).getD ((16+k) - 7) 0)<|mP 8191 [12] [wv (((rr ((sched p k).getD ((16+k) - 2) 0) 17)^^^(rr ((sched p k).getD ((16+k) - 2) 0) 19))^^^(((sched p k).getD ((16+k) - 2) 0)>>>10))]<|yA 16383 13 ((((sched p k).getD ((16+k) - 16) 0)+(((rr ((sched p k).getD ((16+k) - 15) 0) 7)^^^(rr ((sched p k).getD ((16+k) - 15) 0) 18))^^^(((sched p k).getD ((16+k) - 15) 0)>>>3)))+((sched p k).getD ((16+k) - 7) 0)) (((rr ((sched p k).getD ((16+k) - 2) 0) 17)^^^(rr ((sched p k).getD ((16+k) - 2) 0) 19))^^^(((sched p k).getD ((16+k) - 2) 0)>>>10))<|mJ 32767 14 r.size 0 64 1 (16+k) (16+k) ?_
   refine mV 65535 65535 15 (16+k) [wv (((((sched p k).getD ((16+k) - 16) 0)+(((rr ((sched p k).getD ((16+k) - 15) 0) 7)^^^(rr ((sched p k).getD ((16+k) - 15) 0) 18))^^^(((sched p k).getD ((16+k) - 15) 0)>>>3)))+((sched p k).getD ((16+k) - 7) 0))+(((rr ((sched p k).getD ((16+k) - 2) 0) 17)^^^(rr ((sched p k).getD ((16+k) - 2) 0) 19))^^^(((sched p k).getD ((16+k) - 2) 0)>>>10)))] (wl (sched p k++[(((((sched p k).getD ((16+k) - 16) 0)+(((rr ((sched p k).getD ((16+k) - 15) 0) 7)^^^(rr ((sched p k).getD ((16+k) - 15) 0) 18))^^^(((sched p k).getD ((16+k) - 15) 0)>>>3)))+((sched p k).getD ((16+k) - 7) 0))+(((rr ((sched p k).getD ((16+k) - 2) 0) 17)^^^(rr ((sched p k).getD ((16+k) - 2) 0) 19))^^^(((sched p k).getD ((16+k) - 2) 0)>>>10)))])) m13 (fun Z w q=> ?_) (hfit:=(vD (bJ p k) (by omega))) (h1:=(sf _)) (e:=(sd (bJ p k) (by omega)))
   replace n:=n.v w
   replace l:=l.y w
   replace o:=o.y w
   replace m13:=q
   refine mE [] fun a i=>bK<|tK<|rS i<|tA 1 (16+k) 1<|sE [(7,nV ((16+k)+1))] fun a i=> ?_
   show ∃m',m'<_∧_
   refine⟨_,?_,k+1,rfl,n,l,o,(by omega),(by rw[show sched p (k+1)=_ from lg p k];exact m13),i.to⟩
   omega
  ·refine cX 2 (xT (xT (xB ?_)))
   refine tK<|cS<|cD [0,1,0,4,0,16,0,64,0,256,0,1024,0,4096,0,16384,3,65551,196671,459007,984063,2035711,4145151,8388607] 14 mixed i<|mP 1 [0] [pV h.size]<|mO 3 2 1 0 (wv s.a) l<|mP 7 [2] [.pointer (some ⟨h.size,1,none⟩)]<|mO 15 10 3 1 (wv s.b) l ?_
   refine mP 31 [4] [.pointer (some ⟨h.size,2,none⟩)]<|mO 63 42 5 2 (wv s.c) l<|mP 127 [6] [.pointer (some ⟨h.size,3,none⟩)]<|mO 255 170 7 3 (wv s.d) l<|mP 511 [8] [.pointer (some ⟨h.size,4,none⟩)]<|mO 1023 682 9 4 (wv s.e) l<|mP 2047 [10] [.pointer (some ⟨h.size,5,none⟩)] ?_
   refine mO 4095 2730 11 5 (wv s.f) l<|mP 8191 [12] [.pointer (some ⟨h.size,6,none⟩)]<|mO 16383 10922 13 6 (wv s.g) l<|mP 32767 [14] [.pointer (some ⟨h.size,7,none⟩)]<|mO 65535 43690 15 7 (wv s.h) l<|mP 16777215 [16,17,18,19,20,21,22,23] [wv s.a,wv s.b,wv s.c,wv s.d,wv s.e,wv s.f,wv s.g,wv s.h]<|mE [(12,wv s.a),(13,wv s.b),(14,wv s.c),(15,wv s.d),(16,wv s.e),(17,wv s.f),(18,wv s.g),(19,wv s.h)] fun a i=> ?_
   refine tK<|cS<|qP [(125,.int .i64 0)] i fun a i=>cB 4<|cL (fun m a h'=>∃k:Nat,∃R:S8,m=64 - k∧(Ext h h')∧(h'[h.size]? =some (.cells #[wv s.a,wv s.b,wv s.c,wv s.d,wv s.e,wv s.f,wv s.g,wv s.h] 145))∧(h'[h1.size]? =some (.cells #[.int .u32 0,.int .u32 0,.int .u32 0,.int .u32 0,.int .u32 0,.int .u32 0,.int .u32 0,.int .u32 0] 145))∧(k≤64)∧(rounds (sched p 48) s k=R)∧(h'[r.size]? =some (.cells (wl (sched p 48)).toArray 173))∧(Fr a 211 [(2,.pointer (some ⟨h.size,0,none⟩)),(4,.pointer (some ⟨h1.size,0,none⟩)),(5,.pointer (some ⟨r.size,0,none⟩)),(12,wv R.a),(13,wv R.b),(14,wv R.c),(15,wv R.d),(16,wv R.e),(17,wv R.f),(18,wv R.g),(19,wv R.h),(125,.int .i64 ((k:Nat):Int))])) (64 - 0) ⟨0,s,rfl,n,l,o,(by omega),rfl,(by have e:k=48:=(by omega);subst e;exact m13),i.to⟩ ?_
   clear i a
   clear n
   clear l
   clear o
   rintro m a Bv ⟨k,R,rfl,n,l,o,hk,O,m13,i⟩
   refine qP [(126,.bool (decide (((k:Nat):Int)<(64:Int))))] i fun a i=>cS<|cJ 126 i (fun B=> ?_) fun B=> ?_
   ·refine cN<|tK<|cS<|cB 5<|qP [(20,nV k)] i fun a i=>qS i<|tC 1 (wv (rr R.e 6)) (Does.call (f:=119) (args:= #[wv R.e,.int .i64 (-6)]) (by kernel_rfl) (Ck _ R.e)) ?_
    refine tC 3 (wv (rr R.e 11)) (Does.call (f:=119) (args:= #[wv R.e,.int .i64 (-11)]) (by kernel_rfl) (zn _ R.e))<|xX 4 (rr R.e 6) (rr R.e 11)<|tC 6 (wv (rr R.e 25)) (Does.call (f:=119) (args:= #[wv R.e,.int .i64 (-25)]) (by kernel_rfl) (zo _ R.e))<|xX 7 ((rr R.e 6)^^^(rr R.e 11)) (rr R.e 25)<|sT [(21,wv (((rr R.e 6)^^^(rr R.e 11))^^^(rr R.e 25)))] fun a i=>cS<|cD [0,0,3,0,0,24,0,64,0,448,1016,2047,0,4096,12288,32767,0,65536,196608,524287,1048575] 19 mixed i ?_
    refine mP 3 [0,1] [wv R.h,wv (((rr R.e 6)^^^(rr R.e 11))^^^(rr R.e 25))]<|yA 7 2 R.h (((rr R.e 6)^^^(rr R.e 11))^^^(rr R.e 25))<|mP 31 [3,4] [wv R.e,wv R.f]<|yN 63 5 R.e R.f <|mP 127 [6] [wv R.e]<|yM 255 7 R.e <|mP 511 [8] [wv R.g] ?_
    refine yN 1023 9 (~~~R.e) R.g <|yX 2047 10 (R.e &&&R.f) ((~~~R.e)&&&R.g)<|yA 4095 11 (R.h +(((rr R.e 6)^^^(rr R.e 11))^^^(rr R.e 25))) ((R.e &&&R.f)^^^((~~~R.e)&&&R.g))<|mP 8191 [12] [nV k]<|mJ 16383 13 0 0 64 1 k k<|mL 32767 16384 14 (wv (fw.getD k 0)) (Calm.load (T:=143) (p:=⟨0,k,none⟩) (by kernel_rfl) (Loads.one (k:=1) (by kernel_rfl) (n.cell (hK k (by omega)))))<|yA 65535 15 ((R.h +(((rr R.e 6)^^^(rr R.e 11))^^^(rr R.e 25)))+((R.e &&&R.f)^^^((~~~R.e)&&&R.g))) (fw.getD k 0) ?_
    refine mP 131071 [16] [nV k]<|mJ 262143 17 r.size 0 64 1 k k<|mL 524287 278528 18 (wv ((sched p 48).getD k 0)) (Calm.load (T:=143) (p:=⟨r.size,k,none⟩) (by kernel_rfl) (Loads.one (k:=1) (by kernel_rfl) ((an m13).trans (iZ (bJ p 48) (by omega)))))<|yA 1048575 19 (((R.h +(((rr R.e 6)^^^(rr R.e 11))^^^(rr R.e 25)))+((R.e &&&R.f)^^^((~~~R.e)&&&R.g)))+(fw.getD k 0)) ((sched p 48).getD k 0)<|mP 2097151 [20] [wv ((((R.h +(((rr R.e 6)^^^(rr R.e 11))^^^(rr R.e 25)))+((R.e &&&R.f)^^^((~~~R.e)&&&R.g)))+(fw.getD k 0))+((sched p 48).getD k 0))]<|mE [(22,wv ((((R.h +(((rr R.e 6)^^^(rr R.e 11))^^^(rr R.e 25)))+((R.e &&&R.f)^^^((~~~R.e)&&&R.g)))+(fw.getD k 0))+((sched p 48).getD k 0)))] fun a i=>tK ?_
    refine qS i<|tC 1 (wv (rr R.a 2)) (Does.call (f:=119) (args:= #[wv R.a,.int .i64 (-2)]) (by kernel_rfl) (Cl _ R.a))<|tC 3 (wv (rr R.a 13)) (Does.call (f:=119) (args:= #[wv R.a,.int .i64 (-13)]) (by kernel_rfl) (zp _ R.a))<|xX 4 (rr R.a 2) (rr R.a 13)<|tC 6 (wv (rr R.a 22)) (Does.call (f:=119) (args:= #[wv R.a,.int .i64 (-22)]) (by kernel_rfl) (zr _ R.a))<|xX 7 ((rr R.a 2)^^^(rr R.a 13)) (rr R.a 22)<|sT [(23,wv (((rr R.a 2)^^^(rr R.a 13))^^^(rr R.a 22)))] fun a i=> ?_
    refine qS i<|xN 3 R.a R.b <|xN 6 R.a R.c <|xX 7 (R.a &&&R.b) (R.a &&&R.c)<|xN 10 R.b R.c <|xX 11 ((R.a &&&R.b)^^^(R.a &&&R.c)) (R.b &&&R.c)<|xA 12 (((rr R.a 2)^^^(rr R.a 13))^^^(rr R.a 22)) (((R.a &&&R.b)^^^(R.a &&&R.c))^^^(R.b &&&R.c)) ?_
    refine sT [(24,wv ((((rr R.a 2)^^^(rr R.a 13))^^^(rr R.a 22))+(((R.a &&&R.b)^^^(R.a &&&R.c))^^^(R.b &&&R.c))))] fun a i=>rS i<|xA 5 R.d ((((R.h +(((rr R.e 6)^^^(rr R.e 11))^^^(rr R.e 25)))+((R.e &&&R.f)^^^((~~~R.e)&&&R.g)))+(fw.getD k 0))+((sched p 48).getD k 0))<|xA 11 ((((R.h +(((rr R.e 6)^^^(rr R.e 11))^^^(rr R.e 25)))+((R.e &&&R.f)^^^((~~~R.e)&&&R.g)))+(fw.getD k 0))+((sched p 48).getD k 0)) ((((rr R.a 2)^^^(rr R.a 13))^^^(rr R.a 22))+(((R.a &&&R.b)^^^(R.a &&&R.c))^^^(R.b &&&R.c)))<|sE [(12,wv (((((R.h +(((rr R.e 6)^^^(rr R.e 11))^^^(rr R.e 25)))+((R.e &&&R.f)^^^((~~~R.e)&&&R.g)))+(fw.getD k 0))+((sched p 48).getD k 0))+((((rr R.a 2)^^^(rr R.a 13))^^^(rr R.a 22))+(((R.a &&&R.b)^^^(R.a &&&R.c))^^^(R.b &&&R.c))))),(13,wv R.a),(14,wv R.b),(15,wv R.c),(16,wv (R.d +((((R.h +(((rr R.e 6)^^^(rr R.e 11))^^^(rr R.e 25)))+((R.e &&&R.f)^^^((~~~R.e)&&&R.g)))+(fw.getD k 0))+((sched p 48).getD k 0)))),(17,wv R.e),(18,wv R.f),(19,wv R.g)] fun a i=>bK<|tK ?_
    refine rS i<|tA 0 k 1<|sE [(125,nV (k+1))] fun a i=> ?_
    show ∃m',m'<_∧_
    refine⟨_,?_,k+1,(Hi (fw.getD k 0) ((sched p 48).getD k 0) R),rfl,n,l,o,(by omega),(by rw[←O];rfl),m13,i.to⟩
    omega
   ·refine cX 4 (xT (xT (xB ?_)))
    refine tK<|cS<|qP [(198,.agg #[wv R.a,wv R.b,wv R.c,wv R.d,wv R.e,wv R.f,wv R.g,wv R.h]),(199,.int .i64 0)] i fun a i=>cB 6<|cU 9<|ar.step <|qP [(200,.bool true)] i fun a i=> ?_
    refine cS<|cT 200 i<|cN<|tK<|cS<|cB 7<|qP [(25,.int .i64 0),(26,wv R.a)] i fun a i=> ?_
    refine rS i<|tO 2 0 l<|xA 4 s.a R.a <|tV 6 0 [wv (s.a +R.a)] [wv (s.a +R.a),wv s.b,wv s.c,wv s.d,wv s.e,wv s.f,wv s.g,wv s.h] l fun kg C q=> ?_
    replace n:=n.v C
    replace o:=o.y C
    replace l:=q
    refine sE [] fun a i=>bK<|tK<|rP [(199,.int .i64 1)] i fun a i=>tK (ar.step ?_)
    refine qP [(200,.bool true)] i fun a i=>cS<|cT 200 i<|cN<|tK<|cS<|cB 7 ?_
    refine qP [(25,.int .i64 1),(26,wv R.b)] i fun a i=>rS i<|tO 2 1 l<|xA 4 s.b R.b <|tV 6 1 [wv (s.b +R.b)] [wv (s.a +R.a),wv (s.b +R.b),wv s.c,wv s.d,wv s.e,wv s.f,wv s.g,wv s.h] l fun h28 D q=> ?_
    replace n:=n.v D
    replace o:=o.y D
    replace l:=q
    refine sE [] fun a i=>bK<|tK<|rP [(199,.int .i64 2)] i fun a i=>tK (ar.step ?_)
    refine qP [(200,.bool true)] i fun a i=>cS<|cT 200 i<|cN<|tK<|cS<|cB 7 ?_
    refine qP [(25,.int .i64 2),(26,wv R.c)] i fun a i=>rS i<|tO 2 2 l<|xA 4 s.c R.c <|tV 6 2 [wv (s.c +R.c)] [wv (s.a +R.a),wv (s.b +R.b),wv (s.c +R.c),wv s.d,wv s.e,wv s.f,wv s.g,wv s.h] l fun h30 E q=> ?_
    replace n:=n.v E
    replace o:=o.y E
    replace l:=q
    refine sE [] fun a i=>bK<|tK<|rP [(199,.int .i64 3)] i fun a i=>tK (ar.step ?_)
    refine qP [(200,.bool true)] i fun a i=>cS<|cT 200 i<|cN<|tK<|cS<|cB 7 ?_
    refine qP [(25,.int .i64 3),(26,wv R.d)] i fun a i=>rS i<|tO 2 3 l<|xA 4 s.d R.d <|tV 6 3 [wv (s.d +R.d)] [wv (s.a +R.a),wv (s.b +R.b),wv (s.c +R.c),wv (s.d +R.d),wv s.e,wv s.f,wv s.g,wv s.h] l fun h32 F q=> ?_
    replace n:=n.v F
    replace o:=o.y F
    replace l:=q
    refine sE [] fun a i=>bK<|tK<|rP [(199,.int .i64 4)] i fun a i=>tK (ar.step ?_)
    refine qP [(200,.bool true)] i fun a i=>cS<|cT 200 i<|cN<|tK<|cS<|cB 7 ?_
    refine qP [(25,.int .i64 4),(26,wv R.e)] i fun a i=>rS i<|tO 2 4 l<|xA 4 s.e R.e <|tV 6 4 [wv (s.e +R.e)] [wv (s.a +R.a),wv (s.b +R.b),wv (s.c +R.c),wv (s.d +R.d),wv (s.e +R.e),wv s.f,wv s.g,wv s.h] l fun vk G q=> ?_
    replace n:=n.v G
    replace o:=o.y G
    replace l:=q
    refine sE [] fun a i=>bK<|tK<|rP [(199,.int .i64 5)] i fun a i=>tK (ar.step ?_)
    refine qP [(200,.bool true)] i fun a i=>cS<|cT 200 i<|cN<|tK<|cS<|cB 7 ?_
    refine qP [(25,.int .i64 5),(26,wv R.f)] i fun a i=>rS i<|tO 2 5 l<|xA 4 s.f R.f <|tV 6 5 [wv (s.f +R.f)] [wv (s.a +R.a),wv (s.b +R.b),wv (s.c +R.c),wv (s.d +R.d),wv (s.e +R.e),wv (s.f +R.f),wv s.g,wv s.h] l fun Cm H q=> ?_
    replace n:=n.v H
    replace o:=o.y H
    replace l:=q
    refine sE [] fun a i=>bK<|tK<|rP [(199,.int .i64 6)] i fun a i=>tK (ar.step ?_)
    refine qP [(200,.bool true)] i fun a i=>cS<|cT 200 i<|cN<|tK<|cS<|cB 7 ?_
    refine qP [(25,.int .i64 6),(26,wv R.g)] i fun a i=>rS i<|tO 2 6 l<|xA 4 s.g R.g <|tV 6 6 [wv (s.g +R.g)] [wv (s.a +R.a),wv (s.b +R.b),wv (s.c +R.c),wv (s.d +R.d),wv (s.e +R.e),wv (s.f +R.f),wv (s.g +R.g),wv s.h] l fun h38 I q=> ?_
    replace n:=n.v I
    replace o:=o.y I
    replace l:=q
    refine sE [] fun a i=>bK<|tK<|rP [(199,.int .i64 7)] i fun a i=>tK (ar.step ?_)
    refine qP [(200,.bool true)] i fun a i=>cS<|cT 200 i<|cN<|tK<|cS<|cB 7 ?_
    refine qP [(25,.int .i64 7),(26,wv R.h)] i fun a i=>rS i<|tO 2 7 l<|xA 4 s.h R.h <|tV 6 7 [wv (s.h +R.h)] [wv (s.a +R.a),wv (s.b +R.b),wv (s.c +R.c),wv (s.d +R.d),wv (s.e +R.e),wv (s.f +R.f),wv (s.g +R.g),wv (s.h +R.h)] l fun yZ J q=> ?_
    replace n:=n.v J
    replace o:=o.y J
    replace l:=q
    refine sE [] fun a i=>bK<|tK<|rP [(199,.int .i64 8)] i fun a i=>tK (ar.step ?_)
    refine qP [(200,.bool false)] i fun a i=>cS<|cF 200 i<|cX 6 (xT (xT (xB ?_)))
    refine tK<|qS i<|tR 0 l<|bA 1 [wv (s.a +R.a),wv (s.b +R.b),wv (s.c +R.c),wv (s.d +R.d),wv (s.e +R.e),wv (s.f +R.f),wv (s.g +R.g),wv (s.h +R.h)] o fun h42 K q=> ?_
    replace n:=n.v K
    replace l:=l.y K
    replace o:=q
    refine sT [] fun a i=>cR<|rB o i ?_
    have e:k=64:=by omega
    subst e
    subst O
    exact⟨rfl,n⟩
noncomputable def b93:Code:=Tryz.f93.body.getD .skip
set_option maxHeartbeats 4000000 in
theorem vG(h:Heap)(s:S8):Sat Tryz.prog 93 #[.agg #[wv s.a,wv s.b,wv s.c,wv s.d,wv s.e,wv s.f,wv s.g,wv s.h]] h fun v h'=>v=hv (told s)∧Ext h h':=by
 have k:=Ext.refl h
 refine ag Tryz.func93 29 fun a i=>qS i<|tN 0 (pV h.size) #[wv s.a,wv s.b,wv s.c,wv s.d,wv s.e,wv s.f,wv s.g,wv s.h] 145 fun h1 g2 o=> ?_
 replace k:=k.ext g2
 refine tN 1 (pV h1.size) (tk s 0).toArray 39 fun h6 g7 l=> ?_
 have Mh:=ak l
 have Er:=k.size
 replace k:=k.ext g7
 replace o:=o.x g7
 refine sT [(1,pV h.size),(2,pV h1.size)] fun a i=>qS i<|tN 0 (pV h6.size) (tk s 0).toArray 39 fun h11 n j=> ?_
 have Mi:=k.size
 replace k:=k.ext n
 replace o:=o.x n
 replace l:=l.x n
 refine sT [(3,pV h6.size)] fun a i=>cS<|qS i<|tR 0 o<|sT [(7,.agg #[wv s.a,wv s.b,wv s.c,wv s.d,wv s.e,wv s.f,wv s.g,wv s.h]),(8,.int .i64 0)] fun a i=>cB 0<|cU 9 ?_
 refine ar.step <|qP [(9,.bool true)] i fun a i=>cS<|cT 9 i<|cN<|tK<|cS ?_
 refine cB 1<|qP [(4,.int .i64 0),(5,wv s.a)] i fun a i=>qP [(12,.int .i64 0)] i fun a i=>cB 2<|cU 5<|ar.step <|qP [(13,.bool true)] i fun a i=> ?_
 refine cS<|cT 13 i<|cN<|tK<|cS<|cB 3<|qP [(6,.int .i64 0)] i fun a i=> ?_
 refine rS i<|xR 8 s.a 24<|xD 9 (s.a >>>24)<|tV 11 0 [bv (b32 (s.a >>>24))] (tk s 1) j fun h16 p m=> ?_
 replace k:=k.v p
 replace l:=l.y p
 replace j:=m
 refine sE [] fun a i=>bK<|tK<|rP [(12,.int .i64 1)] i fun a i=>tK (ar.step ?_)
 refine qP [(13,.bool true)] i fun a i=>cS<|cT 13 i<|cN<|tK<|cS<|cB 3 ?_
 refine qP [(6,.int .i64 1)] i fun a i=>rS i<|xR 8 s.a 16<|xD 9 (s.a >>>16)<|tV 11 1 [bv (b32 (s.a >>>16))] (tk s 2) j fun h18 q m=> ?_
 replace k:=k.v q
 replace l:=l.y q
 replace j:=m
 refine sE [] fun a i=>bK<|tK<|rP [(12,.int .i64 2)] i fun a i=>tK (ar.step ?_)
 refine qP [(13,.bool true)] i fun a i=>cS<|cT 13 i<|cN<|tK<|cS<|cB 3 ?_
 refine qP [(6,.int .i64 2)] i fun a i=>rS i<|xR 8 s.a 8<|xD 9 (s.a >>>8)<|tV 11 2 [bv (b32 (s.a >>>8))] (tk s 3) j fun h20 r m=> ?_
 replace k:=k.v r
 replace l:=l.y r
 replace j:=m
 refine sE [] fun a i=>bK<|tK<|rP [(12,.int .i64 3)] i fun a i=>tK (ar.step ?_)
 refine qP [(13,.bool true)] i fun a i=>cS<|cT 13 i<|cN<|tK<|cS<|cB 3 ?_
 refine qP [(6,.int .i64 3)] i fun a i=>rS i<|xR 8 s.a 0<|xD 9 (s.a >>>0)<|tV 11 3 [bv (b32 (s.a >>>0))] (tk s 4) j fun h22 t m=> ?_
 replace k:=k.v t
 replace l:=l.y t
 replace j:=m
 refine sE [] fun a i=>bK<|tK<|rP [(12,.int .i64 4)] i fun a i=>tK (ar.step ?_)
 refine qP [(13,.bool false)] i fun a i=>cS<|cF 13 i<|cX 2 (xT (xT (xB ?_)))
 refine bK<|tK<|rP [(8,.int .i64 1)] i fun a i=>tK (ar.step ?_)
 refine qP [(9,.bool true)] i fun a i=>cS<|cT 9 i<|cN<|tK<|cS<|cB 1 ?_
 refine qP [(4,.int .i64 1),(5,wv s.b)] i fun a i=>qP [(12,.int .i64 0)] i fun a i=>cB 2<|cU 5<|ar.step <|qP [(13,.bool true)] i fun a i=>cS ?_
 refine cT 13 i<|cN<|tK<|cS<|cB 3<|qP [(6,.int .i64 0)] i fun a i=>rS i ?_
 refine xR 8 s.b 24<|xD 9 (s.b >>>24)<|tV 11 4 [bv (b32 (s.b >>>24))] (tk s 5) j fun Bv u m=> ?_
 replace k:=k.v u
 replace l:=l.y u
 replace j:=m
 refine sE [] fun a i=>bK<|tK<|rP [(12,.int .i64 1)] i fun a i=>tK (ar.step ?_)
 refine qP [(13,.bool true)] i fun a i=>cS<|cT 13 i<|cN<|tK<|cS<|cB 3 ?_
 refine qP [(6,.int .i64 1)] i fun a i=>rS i<|xR 8 s.b 16<|xD 9 (s.b >>>16)<|tV 11 5 [bv (b32 (s.b >>>16))] (tk s 6) j fun kg w m=> ?_
 replace k:=k.v w
 replace l:=l.y w
 replace j:=m
 refine sE [] fun a i=>bK<|tK<|rP [(12,.int .i64 2)] i fun a i=>tK (ar.step ?_)
 refine qP [(13,.bool true)] i fun a i=>cS<|cT 13 i<|cN<|tK<|cS<|cB 3 ?_
 refine qP [(6,.int .i64 2)] i fun a i=>rS i<|xR 8 s.b 8<|xD 9 (s.b >>>8)<|tV 11 6 [bv (b32 (s.b >>>8))] (tk s 7) j fun h28 z m=> ?_
 replace k:=k.v z
 replace l:=l.y z
 replace j:=m
 refine sE [] fun a i=>bK<|tK<|rP [(12,.int .i64 3)] i fun a i=>tK (ar.step ?_)
 refine qP [(13,.bool true)] i fun a i=>cS<|cT 13 i<|cN<|tK<|cS<|cB 3 ?_
 refine qP [(6,.int .i64 3)] i fun a i=>rS i<|xR 8 s.b 0<|xD 9 (s.b >>>0)<|tV 11 7 [bv (b32 (s.b >>>0))] (tk s 8) j fun h30 A m=> ?_
 replace k:=k.v A
 replace l:=l.y A
 replace j:=m
 refine sE [] fun a i=>bK<|tK<|rP [(12,.int .i64 4)] i fun a i=>tK (ar.step ?_)
 refine qP [(13,.bool false)] i fun a i=>cS<|cF 13 i<|cX 2 (xT (xT (xB ?_)))
 refine bK<|tK<|rP [(8,.int .i64 2)] i fun a i=>tK (ar.step ?_)
 refine qP [(9,.bool true)] i fun a i=>cS<|cT 9 i<|cN<|tK<|cS<|cB 1 ?_
 refine qP [(4,.int .i64 2),(5,wv s.c)] i fun a i=>qP [(12,.int .i64 0)] i fun a i=>cB 2<|cU 5<|ar.step <|qP [(13,.bool true)] i fun a i=>cS ?_
 refine cT 13 i<|cN<|tK<|cS<|cB 3<|qP [(6,.int .i64 0)] i fun a i=>rS i ?_
 refine xR 8 s.c 24<|xD 9 (s.c >>>24)<|tV 11 8 [bv (b32 (s.c >>>24))] (tk s 9) j fun h32 B m=> ?_
 replace k:=k.v B
 replace l:=l.y B
 replace j:=m
 refine sE [] fun a i=>bK<|tK<|rP [(12,.int .i64 1)] i fun a i=>tK (ar.step ?_)
 refine qP [(13,.bool true)] i fun a i=>cS<|cT 13 i<|cN<|tK<|cS<|cB 3 ?_
 refine qP [(6,.int .i64 1)] i fun a i=>rS i<|xR 8 s.c 16<|xD 9 (s.c >>>16)<|tV 11 9 [bv (b32 (s.c >>>16))] (tk s 10) j fun vk C m=> ?_
 replace k:=k.v C
 replace l:=l.y C
 replace j:=m
 refine sE [] fun a i=>bK<|tK<|rP [(12,.int .i64 2)] i fun a i=>tK (ar.step ?_)
 refine qP [(13,.bool true)] i fun a i=>cS<|cT 13 i<|cN<|tK<|cS<|cB 3 ?_
 refine qP [(6,.int .i64 2)] i fun a i=>rS i<|xR 8 s.c 8<|xD 9 (s.c >>>8)<|tV 11 10 [bv (b32 (s.c >>>8))] (tk s 11) j fun Cm D m=> ?_
 replace k:=k.v D
 replace l:=l.y D
 replace j:=m
 refine sE [] fun a i=>bK<|tK<|rP [(12,.int .i64 3)] i fun a i=>tK (ar.step ?_)
 refine qP [(13,.bool true)] i fun a i=>cS<|cT 13 i<|cN<|tK<|cS<|cB 3 ?_
 refine qP [(6,.int .i64 3)] i fun a i=>rS i<|xR 8 s.c 0<|xD 9 (s.c >>>0)<|tV 11 11 [bv (b32 (s.c >>>0))] (tk s 12) j fun h38 E m=> ?_
 replace k:=k.v E
 replace l:=l.y E
 replace j:=m
 refine sE [] fun a i=>bK<|tK<|rP [(12,.int .i64 4)] i fun a i=>tK (ar.step ?_)
 refine qP [(13,.bool false)] i fun a i=>cS<|cF 13 i<|cX 2 (xT (xT (xB ?_)))
 refine bK<|tK<|rP [(8,.int .i64 3)] i fun a i=>tK (ar.step ?_)
 refine qP [(9,.bool true)] i fun a i=>cS<|cT 9 i<|cN<|tK<|cS<|cB 1 ?_
 refine qP [(4,.int .i64 3),(5,wv s.d)] i fun a i=>qP [(12,.int .i64 0)] i fun a i=>cB 2<|cU 5<|ar.step <|qP [(13,.bool true)] i fun a i=>cS ?_
 refine cT 13 i<|cN<|tK<|cS<|cB 3<|qP [(6,.int .i64 0)] i fun a i=>rS i ?_
 refine xR 8 s.d 24<|xD 9 (s.d >>>24)<|tV 11 12 [bv (b32 (s.d >>>24))] (tk s 13) j fun yZ F m=> ?_
 replace k:=k.v F
 replace l:=l.y F
 replace j:=m
 refine sE [] fun a i=>bK<|tK<|rP [(12,.int .i64 1)] i fun a i=>tK (ar.step ?_)
 refine qP [(13,.bool true)] i fun a i=>cS<|cT 13 i<|cN<|tK<|cS<|cB 3 ?_
 refine qP [(6,.int .i64 1)] i fun a i=>rS i<|xR 8 s.d 16<|xD 9 (s.d >>>16)<|tV 11 13 [bv (b32 (s.d >>>16))] (tk s 14) j fun h42 G m=> ?_
 replace k:=k.v G
 replace l:=l.y G
 replace j:=m
 refine sE [] fun a i=>bK<|tK<|rP [(12,.int .i64 2)] i fun a i=>tK (ar.step ?_)
 refine qP [(13,.bool true)] i fun a i=>cS<|cT 13 i<|cN<|tK<|cS<|cB 3 ?_
 refine qP [(6,.int .i64 2)] i fun a i=>rS i<|xR 8 s.d 8<|xD 9 (s.d >>>8)<|tV 11 14 [bv (b32 (s.d >>>8))] (tk s 15) j fun Es H m=> ?_
 replace k:=k.v H
 replace l:=l.y H
 replace j:=m
 refine sE [] fun a i=>bK<|tK<|rP [(12,.int .i64 3)] i fun a i=>tK (ar.step ?_)
 refine qP [(13,.bool true)] i fun a i=>cS<|cT 13 i<|cN<|tK<|cS<|cB 3 ?_
 refine qP [(6,.int .i64 3)] i fun a i=>rS i<|xR 8 s.d 0<|xD 9 (s.d >>>0)<|tV 11 15 [bv (b32 (s.d >>>0))] (tk s 16) j fun h46 I m=> ?_
 replace k:=k.v I
 replace l:=l.y I
 replace j:=m
 refine sE [] fun a i=>bK<|tK<|rP [(12,.int .i64 4)] i fun a i=>tK (ar.step ?_)
 refine qP [(13,.bool false)] i fun a i=>cS<|cF 13 i<|cX 2 (xT (xT (xB ?_)))
 refine bK<|tK<|rP [(8,.int .i64 4)] i fun a i=>tK (ar.step ?_)
 refine qP [(9,.bool true)] i fun a i=>cS<|cT 9 i<|cN<|tK<|cS<|cB 1 ?_
 refine qP [(4,.int .i64 4),(5,wv s.e)] i fun a i=>qP [(12,.int .i64 0)] i fun a i=>cB 2<|cU 5<|ar.step <|qP [(13,.bool true)] i fun a i=>cS ?_
 refine cT 13 i<|cN<|tK<|cS<|cB 3<|qP [(6,.int .i64 0)] i fun a i=>rS i ?_
 refine xR 8 s.e 24<|xD 9 (s.e >>>24)<|tV 11 16 [bv (b32 (s.e >>>24))] (tk s 17) j fun h48 J m=> ?_
 replace k:=k.v J
 replace l:=l.y J
 replace j:=m
 refine sE [] fun a i=>bK<|tK<|rP [(12,.int .i64 1)] i fun a i=>tK (ar.step ?_)
 refine qP [(13,.bool true)] i fun a i=>cS<|cT 13 i<|cN<|tK<|cS<|cB 3 ?_
 refine qP [(6,.int .i64 1)] i fun a i=>rS i<|xR 8 s.e 16<|xD 9 (s.e >>>16)<|tV 11 17 [bv (b32 (s.e >>>16))] (tk s 18) j fun h50 K m=> ?_
 replace k:=k.v K
 replace l:=l.y K
 replace j:=m
 refine sE [] fun a i=>bK<|tK<|rP [(12,.int .i64 2)] i fun a i=>tK (ar.step ?_)
 refine qP [(13,.bool true)] i fun a i=>cS<|cT 13 i<|cN<|tK<|cS<|cB 3 ?_
 refine qP [(6,.int .i64 2)] i fun a i=>rS i<|xR 8 s.e 8<|xD 9 (s.e >>>8)<|tV 11 18 [bv (b32 (s.e >>>8))] (tk s 19) j fun HX L m=> ?_
 replace k:=k.v L
 replace l:=l.y L
 replace j:=m
 refine sE [] fun a i=>bK<|tK<|rP [(12,.int .i64 3)] i fun a i=>tK (ar.step ?_)
 refine qP [(13,.bool true)] i fun a i=>cS<|cT 13 i<|cN<|tK<|cS<|cB 3 ?_
 refine qP [(6,.int .i64 3)] i fun a i=>rS i<|xR 8 s.e 0<|xD 9 (s.e >>>0)<|tV 11 19 [bv (b32 (s.e >>>0))] (tk s 20) j fun Co M m=> ?_
 replace k:=k.v M
 replace l:=l.y M
 replace j:=m
 refine sE [] fun a i=>bK<|tK<|rP [(12,.int .i64 4)] i fun a i=>tK (ar.step ?_)
 refine qP [(13,.bool false)] i fun a i=>cS<|cF 13 i<|cX 2 (xT (xT (xB ?_)))
 refine bK<|tK<|rP [(8,.int .i64 5)] i fun a i=>tK (ar.step ?_)
 refine qP [(9,.bool true)] i fun a i=>cS<|cT 9 i<|cN<|tK<|cS<|cB 1 ?_
 refine qP [(4,.int .i64 5),(5,wv s.f)] i fun a i=>qP [(12,.int .i64 0)] i fun a i=>cB 2<|cU 5<|ar.step <|qP [(13,.bool true)] i fun a i=>cS ?_
 refine cT 13 i<|cN<|tK<|cS<|cB 3<|qP [(6,.int .i64 0)] i fun a i=>rS i ?_
 refine xR 8 s.f 24<|xD 9 (s.f >>>24)<|tV 11 20 [bv (b32 (s.f >>>24))] (tk s 21) j fun D5 N m=> ?_
 replace k:=k.v N
 replace l:=l.y N
 replace j:=m
 refine sE [] fun a i=>bK<|tK<|rP [(12,.int .i64 1)] i fun a i=>tK (ar.step ?_)
 refine qP [(13,.bool true)] i fun a i=>cS<|cT 13 i<|cN<|tK<|cS<|cB 3 ?_
 refine qP [(6,.int .i64 1)] i fun a i=>rS i<|xR 8 s.f 16<|xD 9 (s.f >>>16)<|tV 11 21 [bv (b32 (s.f >>>16))] (tk s 22) j fun Bw O m=> ?_
 replace k:=k.v O
 replace l:=l.y O
 replace j:=m
 refine sE [] fun a i=>bK<|tK<|rP [(12,.int .i64 2)] i fun a i=>tK (ar.step ?_)
 refine qP [(13,.bool true)] i fun a i=>cS<|cT 13 i<|cN<|tK<|cS<|cB 3 ?_
 refine qP [(6,.int .i64 2)] i fun a i=>rS i<|xR 8 s.f 8<|xD 9 (s.f >>>8)<|tV 11 22 [bv (b32 (s.f >>>8))] (tk s 23) j fun h60 P m=> ?_
 replace k:=k.v P
 replace l:=l.y P
 replace j:=m
 refine sE [] fun a i=>bK<|tK<|rP [(12,.int .i64 3)] i fun a i=>tK (ar.step ?_)
 refine qP [(13,.bool true)] i fun a i=>cS<|cT 13 i<|cN<|tK<|cS<|cB 3 ?_
 refine qP [(6,.int .i64 3)] i fun a i=>rS i<|xR 8 s.f 0<|xD 9 (s.f >>>0)<|tV 11 23 [bv (b32 (s.f >>>0))] (tk s 24) j fun Cp Q m=> ?_
 replace k:=k.v Q
 replace l:=l.y Q
 replace j:=m
 refine sE [] fun a i=>bK<|tK<|rP [(12,.int .i64 4)] i fun a i=>tK (ar.step ?_)
 refine qP [(13,.bool false)] i fun a i=>cS<|cF 13 i<|cX 2 (xT (xT (xB ?_)))
 refine bK<|tK<|rP [(8,.int .i64 6)] i fun a i=>tK (ar.step ?_)
 refine qP [(9,.bool true)] i fun a i=>cS<|cT 9 i<|cN<|tK<|cS<|cB 1 ?_
 refine qP [(4,.int .i64 6),(5,wv s.g)] i fun a i=>qP [(12,.int .i64 0)] i fun a i=>cB 2<|cU 5<|ar.step <|qP [(13,.bool true)] i fun a i=>cS ?_
 refine cT 13 i<|cN<|tK<|cS<|cB 3<|qP [(6,.int .i64 0)] i fun a i=>rS i ?_
 refine xR 8 s.g 24<|xD 9 (s.g >>>24)<|tV 11 24 [bv (b32 (s.g >>>24))] (tk s 25) j fun h64 R m=> ?_
 replace k:=k.v R
 replace l:=l.y R
 replace j:=m
 refine sE [] fun a i=>bK<|tK<|rP [(12,.int .i64 1)] i fun a i=>tK (ar.step ?_)
 refine qP [(13,.bool true)] i fun a i=>cS<|cT 13 i<|cN<|tK<|cS<|cB 3 ?_
 refine qP [(6,.int .i64 1)] i fun a i=>rS i<|xR 8 s.g 16<|xD 9 (s.g >>>16)<|tV 11 25 [bv (b32 (s.g >>>16))] (tk s 26) j fun Hj S m=> ?_
 replace k:=k.v S
 replace l:=l.y S
 replace j:=m
 refine sE [] fun a i=>bK<|tK<|rP [(12,.int .i64 2)] i fun a i=>tK (ar.step ?_)
 refine qP [(13,.bool true)] i fun a i=>cS<|cT 13 i<|cN<|tK<|cS<|cB 3 ?_
 refine qP [(6,.int .i64 2)] i fun a i=>rS i<|xR 8 s.g 8<|xD 9 (s.g >>>8)<|tV 11 26 [bv (b32 (s.g >>>8))] (tk s 27) j fun h68 T m=> ?_
 replace k:=k.v T
 replace l:=l.y T
 replace j:=m
 refine sE [] fun a i=>bK<|tK<|rP [(12,.int .i64 3)] i fun a i=>tK (ar.step ?_)
 refine qP [(13,.bool true)] i fun a i=>cS<|cT 13 i<|cN<|tK<|cS<|cB 3 ?_
 refine qP [(6,.int .i64 3)] i fun a i=>rS i<|xR 8 s.g 0<|xD 9 (s.g >>>0)<|tV 11 27 [bv (b32 (s.g >>>0))] (tk s 28) j fun KX U m=> ?_
 replace k:=k.v U
 replace l:=l.y U
 replace j:=m
 refine sE [] fun a i=>bK<|tK<|rP [(12,.int .i64 4)] i fun a i=>tK (ar.step ?_)
 refine qP [(13,.bool false)] i fun a i=>cS<|cF 13 i<|cX 2 (xT (xT (xB ?_)))
 refine bK<|tK<|rP [(8,.int .i64 7)] i fun a i=>tK (ar.step ?_)
 refine qP [(9,.bool true)] i fun a i=>cS<|cT 9 i<|cN<|tK<|cS<|cB 1 ?_
 refine qP [(4,.int .i64 7),(5,wv s.h)] i fun a i=>qP [(12,.int .i64 0)] i fun a i=>cB 2<|cU 5<|ar.step <|qP [(13,.bool true)] i fun a i=>cS ?_
 refine cT 13 i<|cN<|tK<|cS<|cB 3<|qP [(6,.int .i64 0)] i fun a i=>rS i ?_
 refine xR 8 s.h 24<|xD 9 (s.h >>>24)<|tV 11 28 [bv (b32 (s.h >>>24))] (tk s 29) j fun h72 V m=> ?_
 replace k:=k.v V
 replace l:=l.y V
 replace j:=m
 refine sE [] fun a i=>bK<|tK<|rP [(12,.int .i64 1)] i fun a i=>tK (ar.step ?_)
 refine qP [(13,.bool true)] i fun a i=>cS<|cT 13 i<|cN<|tK<|cS<|cB 3 ?_
 refine qP [(6,.int .i64 1)] i fun a i=>rS i<|xR 8 s.h 16<|xD 9 (s.h >>>16)<|tV 11 29 [bv (b32 (s.h >>>16))] (tk s 30) j fun KY W m=> ?_
 replace k:=k.v W
 replace l:=l.y W
 replace j:=m
 refine sE [] fun a i=>bK<|tK<|rP [(12,.int .i64 2)] i fun a i=>tK (ar.step ?_)
 refine qP [(13,.bool true)] i fun a i=>cS<|cT 13 i<|cN<|tK<|cS<|cB 3 ?_
 refine qP [(6,.int .i64 2)] i fun a i=>rS i<|xR 8 s.h 8<|xD 9 (s.h >>>8)<|tV 11 30 [bv (b32 (s.h >>>8))] (tk s 31) j fun KZ X m=> ?_
 replace k:=k.v X
 replace l:=l.y X
 replace j:=m
 refine sE [] fun a i=>bK<|tK<|rP [(12,.int .i64 3)] i fun a i=>tK (ar.step ?_)
 refine qP [(13,.bool true)] i fun a i=>cS<|cT 13 i<|cN<|tK<|cS<|cB 3 ?_
 refine qP [(6,.int .i64 3)] i fun a i=>rS i<|xR 8 s.h 0<|xD 9 (s.h >>>0)<|tV 11 31 [bv (b32 (s.h >>>0))] (tk s 32) j fun HY Y m=> ?_
 replace k:=k.v Y
 replace l:=l.y Y
 replace j:=m
 refine sE [] fun a i=>bK<|tK<|rP [(12,.int .i64 4)] i fun a i=>tK (ar.step ?_)
 refine qP [(13,.bool false)] i fun a i=>cS<|cF 13 i<|cX 2 (xT (xT (xB ?_)))
 refine bK<|tK<|rP [(8,.int .i64 8)] i fun a i=>tK (ar.step ?_)
 refine qP [(9,.bool false)] i fun a i=>cS<|cF 9 i<|cX 0 (xT (xT (xB ?_)))
 refine tK<|qS i<|tR 0 j<|bA 1 (tk s 32) l fun h80 Z m=> ?_
 replace k:=k.v Z
 replace l:=m
 exact sT [] fun a i=>cR<|rB l i<|⟨rfl,k⟩
noncomputable def b91:Code:=Tryz.f91.body.getD .skip
theorem tz(h:Heap):Sat Tryz.prog 91 #[] h fun v h'=>v= .agg (sv H0).toArray ∧Ext h h':=by
 have b:=Ext.refl h
 refine ag Tryz.func91 2 fun a c=>qS c<|tN 0 (pV h.size) #[.int .u32 0,.int .u32 0,.int .u32 0,.int .u32 0,.int .u32 0,.int .u32 0,.int .u32 0,.int .u32 0] 145 fun j e d=> ?_
 have f:=b.size
 replace b:=b.ext e
 refine sT [(0,pV h.size)] fun a c=>qS c<|bA 1 [.int .u32 1779033703,.int .u32 3144134277,.int .u32 1013904242,.int .u32 2773480762,.int .u32 1359893119,.int .u32 2600822924,.int .u32 528734635,.int .u32 1541459225] d fun k g i=> ?_
 replace b:=b.v g
 replace d:=i
 exact sT [] fun a c=>cR<|rB d c<|⟨by kernel_rfl,b⟩
noncomputable def b52:Code:=Tryz.f52.body.getD .skip
theorem sk(h:Heap):Sat Tryz.prog 52 #[] h fun v h'=>∃b,v= .pointer (some ⟨b,0,none⟩)∧qD h' b none H0 [] 0∧h.size ≤b∧Ext h h':=by
 have i:=Ext.refl h
 refine ag Tryz.func52 4 fun a j=>qP [] j fun a j=>qS j<|tG 0 (tz _) ?_
 rintro _ k ⟨rfl,g⟩
 replace i:=i.ext g
 clear g
 refine tN 2 (pV k.size) #[wv H0.a,wv H0.b,wv H0.c,wv H0.d,wv H0.e,wv H0.f,wv H0.g,wv H0.h,.slice none 0 0,.int .u64 0] 149 fun o l m=> ?_
 have n:=i.size
 replace i:=i.ext l
 exact sT [(0,pV k.size)] fun a j=>cR<|rT 0 (pV k.size) j<|⟨_,rfl,⟨none,0,rfl,by simp,m,Own.nil _ _ _⟩,by omega,i⟩
noncomputable def b53:Code:=Tryz.f53.body.getD .skip
theorem mw(h:Heap)(b:Nat)(o:Option Nat)(st:S8)(r bs:List UInt8)(n:Nat)(va:Option Addr)(vc:Nat)(hs:qD h b o st r n)(hr:Row h (.slice va bs.length vc) bs.length 1 (bs.map bv))(hvb:bs=[]∨a6 (.slice va bs.length vc)≠some b)(hb0:0<b)(ho0:o≠some 0)(kt:bl h)(h1:r.length +bs.length ≤1099511627776)(h2:n+bs.length ≤1099511627776):Sat Tryz.prog 53 #[.pointer (some ⟨b,0,none⟩),.slice va bs.length vc] h fun _ h'=>∃o',qD h' b o' (run st (r++bs)) (rem (r++bs)) (n+bs.length)∧(o'=o∨∃g,o'=some g∧h.size ≤g)∧Gr (fun k=>k=b∨some k=o) h h':=by
 obtain⟨ad,cap,ho,hob,hm,own⟩:=hs
 have hb:h[b]? =_:=hm
 have i:=Gr.refl (fun k=>k=b∨some k=o) h
 have Et:=hob
 rw[ho] at hob
 refine ag Tryz.func53 50 fun a j=>qS j<|tO 3 9 hm<|t1 6 (.int .u64 ((bs.length :Nat):Int)) (.int .u64 (IntKind.u64.wrap ((bs.length :Nat):Int))) (congrArg (Value.int .u64) (l5 (by omega)))<|t1 7 (.int .u64 ((n+bs.length :Nat):Int)) (.int .u64 (IntKind.u64.wrap (((n:Nat):Int)+((bs.length :Nat):Int)))) (congrArg (Value.int .u64) (l6 (by omega) (by omega)))<|tV 10 9 [.int .u64 ((n+bs.length :Nat):Int)] [wv st.a,wv st.b,wv st.c,wv st.d,wv st.e,wv st.f,wv st.g,wv st.h,.slice ad r.length cap,.int .u64 ((n+bs.length :Nat):Int)] hm fun h1 A u=> ?_
 replace i:=i.grew A (by rintro _ ⟨⟩;exact .inl (.inl rfl))
 replace kt:=kt.grew A (by simp;omega)
 replace own:=own.kept A (by rw[af];right;exact hob)
 replace hr:=hr.kept' A (hvb.imp (fun e=>by rw[e];rfl) .inr)
 replace hm:=u
 refine sT [] fun a j=>qS j<|tO 4 8 hm<|tF 6 (Does.c9 (t:=32) (E:=5) (sz:=1) (dV:=1) (n:=r.length) (m:=bs.length) (v:= .slice ad r.length cap) (x:= .slice va bs.length vc) (xs:=(r.map bv)) (ys:=(bs.map bv)) (by kernel_rfl) (by kernel_rfl) own hr (aE _) (by unfold maxLen;omega) (by omega)) ?_
 rintro _ I ⟨l,p,rfl,fR,B,q⟩
 clear own
 rw[af,←ho] at B
 rw[af,←ho] at q
 have sz:=i.1
 replace i:=i.grew B (fun k hk=> .inl (.inr hk.symm))
 replace kt:=kt.grew B (fun hk=>by have:=kt.lt;exact ho0 hk.symm)
 replace hm:=Grew.blk B hm Et.symm
 have Eu:l.map (·.block)≠some b:=by
  rcases q with e|e
  ·rw[e];exact Et
  ·rw[e];have:=ak hb;simp;omega
 replace q:l.map (·.block)=o∨∃g,l.map (·.block)=some g∧h.size ≤g:=by
  rcases q with e|e
  ·exact .inl e
  ·exact .inr ⟨_,e,sz⟩
 refine tV 9 8 [.slice l (r.length +bs.length) p] [wv st.a,wv st.b,wv st.c,wv st.d,wv st.e,wv st.f,wv st.g,wv st.h,.slice l (r.length +bs.length) p,.int .u64 ((n+bs.length :Nat):Int)] hm fun J C u=> ?_
 replace i:=i.grew C (by rintro _ ⟨⟩;exact .inl (.inl rfl))
 replace kt:=kt.grew C (by simp;omega)
 replace fR:=fR.kept C (by rw[af];right;exact Eu)
 replace hm:=u
 refine sT [] fun a j=>cB 0 ?_
 simp only[←List.length_append,←List.map_append] at hm fR
 refine cL (fun m a h'=>∃st':S8,∃r':List UInt8,∃ad':Option Addr,∃cap':Nat,m=r'.length ∧(Gr (fun k=>k=b∨some k=o) h h')∧(bl h')∧(run st' r'=run st (r++bs)∧rem r'=rem (r++bs))∧(h'[b]? =some (.cells #[wv st'.a,wv st'.b,wv st'.c,wv st'.d,wv st'.e,wv st'.f,wv st'.g,wv st'.h,.slice ad' r'.length cap',.int .u64 ((n+bs.length :Nat):Int)] 149))∧(Own h' (.slice ad' r'.length cap') 5 r'.length 1 (r'.map bv))∧(ad'.map (·.block)≠some b∧(ad'.map (·.block)=o∨∃g,ad'.map (·.block)=some g∧h.size ≤g))∧(Fr a 50 [(0,.pointer (some ⟨b,0,none⟩))])) ((r++bs).length) ⟨st,(r++bs),l,p,rfl,i,kt,⟨rfl,rfl⟩,hm,fR,⟨Eu,q⟩,j.to⟩ ?_
 clear j a
 clear i
 clear kt
 clear hm
 clear fR
 rintro m a D ⟨st',r',ad',cap',rfl,i,kt,hi,hm,own,ho',j⟩
 refine cS<|qS j<|tO 3 8 hm<|sT [(28,.bool (decide ((64:Int)≤((r'.length :Nat):Int))))] fun a j=>cJ 28 j (fun z=> ?_) fun z=> ?_
 ·have hl:64≤r'.length :=by omega
  obtain⟨gb,off,rfl,hcap⟩:=own.nP (by omega)
  refine cN<|tK<|cB 1<|cS<|cD [0,0,2,6,14,0,32,96,224,480,1022,2047,4095,8191] 3 mixed j<|mP 15 [0,1,2,3] [pV b,pV b,pV b,pV b]<|mQ 31 16 4 0 [wv st'.a,wv st'.b,wv st'.c,wv st'.d,wv st'.e,wv st'.f,wv st'.g,wv st'.h] hm ?_
  refine mP 255 [5,6,7] [pV b,pV b,.pointer (some ⟨b,8,none⟩)]<|mO 511 272 8 8 (.slice (some ⟨gb,off,none⟩) r'.length cap') hm<|mF 1023 9 (.slice (some ⟨gb,off,none⟩) 64 cap') (fun h=>Calm.b7 (a:=(some ⟨gb,off,none⟩)) (len:=r'.length) (cap:=cap') (sz:=1) (x:=(some ⟨gb,off,none⟩)) 0 64 cap' 64 cap' (by kernel_rfl) (.inl ⟨rfl,rfl⟩) (.inr rfl) (.inl ⟨rfl,rfl⟩) (by omega) (by omega) (mu _) (by first|rfl|omega) (by first|rfl|omega) h)<|fZ 2047 2046 10 (mv _ st' ⟨gb,off,none⟩ cap' (r'.take 64) (vF own hl) kt) ?_
  rintro _ F ⟨rfl,g⟩
  replace i:=i.ext g
  replace kt:=kt.ext g
  replace own:=own.ext g
  replace hm:=hm.x g
  clear g
  refine mP 8191 [11,12] [pV b,pV b]<|mV 16383 16383 13 0 [wv ((piece st' (r'.take 64)).a),wv ((piece st' (r'.take 64)).b),wv ((piece st' (r'.take 64)).c),wv ((piece st' (r'.take 64)).d),wv ((piece st' (r'.take 64)).e),wv ((piece st' (r'.take 64)).f),wv ((piece st' (r'.take 64)).g),wv ((piece st' (r'.take 64)).h)] [wv ((piece st' (r'.take 64)).a),wv ((piece st' (r'.take 64)).b),wv ((piece st' (r'.take 64)).c),wv ((piece st' (r'.take 64)).d),wv ((piece st' (r'.take 64)).e),wv ((piece st' (r'.take 64)).f),wv ((piece st' (r'.take 64)).g),wv ((piece st' (r'.take 64)).h),.slice (some ⟨gb,off,none⟩) r'.length cap',.int .u64 ((n+bs.length :Nat):Int)] hm fun G w u=> ?_
  replace i:=i.grew w (by rintro _ ⟨⟩;exact .inl (.inl rfl))
  replace kt:=kt.grew w (by simp;omega)
  replace own:=own.kept w (by rw[af];right;exact ho'.1)
  replace hm:=u
  refine mE [] fun a j=>tK<|rS j<|tO 4 8 hm ?_
  obtain⟨s,dO⟩:∃x,x=if cap'=64 then (some ⟨gb,off,none⟩:Option Addr) else (some ⟨gb,off,none⟩:Option Addr).map (·.add (64*1)):=⟨_,rfl⟩
  have fR:=own.drop 64 hl
  rw[←dO] at fR
  refine tC 5 (.slice s (r'.length - 64) (cap' - 64)) ((fun h=>Calm.b7 (a:=(some ⟨gb,off,none⟩)) (len:=r'.length) (cap:=cap') (sz:=1) (x:=s) 64 r'.length cap' (r'.length - 64) (cap' - 64) (by kernel_rfl) (.inl ⟨rfl,rfl⟩) (.inl ⟨rfl,rfl⟩) (.inr rfl) (by omega) (by omega) dO (by first|rfl|omega) (by first|rfl|omega) h) _)<|tV 8 8 [.slice s (r'.length - 64) (cap' - 64)] [wv ((piece st' (r'.take 64)).a),wv ((piece st' (r'.take 64)).b),wv ((piece st' (r'.take 64)).c),wv ((piece st' (r'.take 64)).d),wv ((piece st' (r'.take 64)).e),wv ((piece st' (r'.take 64)).f),wv ((piece st' (r'.take 64)).g),wv ((piece st' (r'.take 64)).h),.slice s (r'.length - 64) (cap' - 64),.int .u64 ((n+bs.length :Nat):Int)] hm fun H y u=> ?_
  replace i:=i.grew y (by rintro _ ⟨⟩;exact .inl (.inl rfl))
  replace kt:=kt.grew y (by simp;omega)
  replace fR:=fR.kept y (by rw[af,ga dO];right;exact ho'.1)
  replace hm:=u
  refine sE [] fun a j=> ?_
  have e64:r'.length - 64=(r'.drop 64).length :=by simp
  rw[Nat.mul_one,←List.map_drop] at fR
  rw[e64] at hm fR
  refine bK ?_
  show ∃m',m'<_∧_
  refine⟨_,?_,(piece st' (r'.take 64)),(r'.drop 64),s,(cap' - 64),rfl,i,kt,⟨by rw[←hi.1,f_ hl],by rw[←hi.2,f' hl]⟩,hm,fR,⟨by rw[ga dO];exact ho'.1,by rw[ga dO];exact ho'.2⟩,j.to⟩
  omega
 ·refine cX 0 (xT (xT (xB ?_)))
  refine n0 j ?_
  have e1:st'=run st (r++bs):=by rw[←hi.1,run_end (by omega)]
  have e2:r'=rem (r++bs):=by rw[←hi.2,kD (by omega)]
  exact⟨_,⟨ad',cap',rfl,ho'.1,e1▸e2▸hm,e2▸own⟩,ho'.2,i⟩
noncomputable def b54:Code:=Tryz.f54.body.getD .skip
set_option maxHeartbeats 1000000 in
theorem sn(h:Heap)(b:Nat)(o:Option Nat)(st:S8)(r:List UInt8)(n:Nat)(hs:qD h b o st r n)(kt:bl h)(h1:r.length ≤1099511627776)(h2:n≤1099511627776):Sat Tryz.prog 54 #[.pointer (some ⟨b,0,none⟩)] h fun v h'=>v=hv (fin st r n)∧Ext h h':=by
 obtain⟨ad,cap,ho,hob,hm,qE⟩:=hs
 have hb:b<h.size :=ak hm
 have nQ:=kt.lt
 have hbo:∀k,o=some k→k<h.size :=fun k hk=>qE.lt (by rw[af,←ho];exact hk)
 have u:=Ext.refl h
 refine ag Tryz.func54 54 fun a p=>qS p<|tN 0 (pV h.size) #[.int .u8 0,.int .u8 0,.int .u8 0,.int .u8 0,.int .u8 0,.int .u8 0,.int .u8 0,.int .u8 0,.int .u8 0,.int .u8 0,.int .u8 0,.int .u8 0,.int .u8 0,.int .u8 0,.int .u8 0,.int .u8 0,.int .u8 0,.int .u8 0,.int .u8 0,.int .u8 0,.int .u8 0,.int .u8 0,.int .u8 0,.int .u8 0,.int .u8 0,.int .u8 0,.int .u8 0,.int .u8 0,.int .u8 0,.int .u8 0,.int .u8 0,.int .u8 0] 39 fun h1 g2 w=> ?_
 have HZ:=ak w
 have zs5:=u.size
 replace u:=u.ext g2
 replace kt:=kt.ext g2
 replace qE:=qE.ext g2
 replace hm:=hm.x g2
 refine sT [(2,pV h.size)] fun a p=>qS p ?_
 have e1:=Ext.refl h1
 refine tN 0 (.slice (some ⟨h1.size,0,none⟩) 0 0) #[] 5 fun h6 g7 m8=> ?_
 have Mj:=e1.size
 replace u:=u.ext g7
 replace kt:=kt.ext g7
 replace qE:=qE.ext g7
 replace e1:=e1.ext g7
 replace hm:=hm.x g7
 replace w:=w.x g7
 refine tO 4 8 hm ?_
 have i:Own h6 (.slice (some ⟨h1.size,0,none⟩) 0 0) 5 0 1 (([]:List UInt8).map bv):=Own.empty 1 m8
 have aJ:∀k,((some ⟨h1.size,0,none⟩):Option Addr).map (·.block)=some k→h1.size ≤k:=Ce _ (by omega)
 have hsz:=e1.size
 refine tF 5 (Does.c9 (t:=32) (E:=5) (sz:=1) (dV:=1) (n:=0) (m:=r.length) (v:= .slice (some ⟨h1.size,0,none⟩) 0 0) (x:= .slice ad r.length cap) (xs:=([]:List UInt8).map bv) (ys:=r.map bv) (by kernel_rfl) (by kernel_rfl) i qE.row (aE _) (by unfold maxLen;first|omega| (simp only[List.length_append,List.length_cons,List.length_nil,List.length_replicate,bF];omega)) (by first|omega| (simp only[List.length_append,List.length_cons,List.length_nil,List.length_replicate,bF];omega))) ?_
 rintro _ h16 ⟨Cq,P,rfl,s,Q,Cr⟩
 rw[af] at Q Cr
 replace u:=u.grew Q (fun k hk=>by have:=aJ k hk;omega)
 replace kt:=kt.grew Q (fun e=>by have:=aJ _ e.symm;omega)
 replace e1:=e1.grew Q (fun k hk=>by have:=aJ k hk;omega)
 replace hm:=hm.y Q (fun e=>by have:=aJ _ e.symm;omega)
 replace w:=w.y Q (fun e=>by have:=aJ _ e.symm;omega)
 replace i:Own h16 (.slice Cq (r).length P) 5 (r).length 1 (r.map bv):=Own.app s (by first|rfl|simp) (by first| (simp;done)| (simp;omega))
 replace aJ:=dB aJ Cr (by omega)
 clear s Q Cr hsz
 clear qE
 refine sT [(3,.slice Cq (0+r.length) P)] fun a p=> ?_
 have q:(0+r.length :Nat)=r.length :=by first| (simp;done)| (simp;omega)
 rw[q] at p;clear q
 refine qS p<|tN 1 (.slice (some ⟨h16.size,0,none⟩) 1 1) #[.int .u8 128] 5 fun h17 g18 m19=> ?_
 replace u:=u.ext g18
 replace kt:=kt.ext g18
 replace e1:=e1.ext g18
 replace i:=i.ext g18
 replace hm:=hm.x g18
 replace w:=w.x g18
 have dC:=Row.blk (n:=1) (sz:=1) (l:=[bv (128:UInt8)]) m19 rfl
 clear m19
 have hsz:=e1.size
 refine tF 2 (Does.c9 (t:=32) (E:=5) (sz:=1) (dV:=1) (n:=r.length) (m:=1) (v:= .slice Cq r.length P) (x:= .slice (some ⟨h16.size,0,none⟩) 1 1) (xs:=r.map bv) (ys:=([(128:UInt8)]).map bv) (by kernel_rfl) (by kernel_rfl) i dC (aE _) (by unfold maxLen;first|omega| (simp only[List.length_append,List.length_cons,List.length_nil,List.length_replicate,bF];omega)) (by first|omega| (simp only[List.length_append,List.length_cons,List.length_nil,List.length_replicate,bF];omega))) ?_
 rintro _ h27 ⟨zt,G,rfl,s,R,Cs⟩
 rw[af] at R Cs
 replace u:=u.grew R (fun k hk=>by have:=aJ k hk;omega)
 replace kt:=kt.grew R (fun e=>by have:=aJ _ e.symm;omega)
 replace e1:=e1.grew R (fun k hk=>by have:=aJ k hk;omega)
 replace hm:=hm.y R (fun e=>by have:=aJ _ e.symm;omega)
 replace w:=w.y R (fun e=>by have:=aJ _ e.symm;omega)
 replace i:Own h27 (.slice zt ((r++[(128:UInt8)])).length G) 5 ((r++[(128:UInt8)])).length 1 ((r++[(128:UInt8)]).map bv):=Own.app s (by first|rfl|simp) (by first| (simp;done)| (simp;omega))
 replace aJ:=dB aJ Cs (by omega)
 clear s R Cs hsz
 clear dC
 refine sT [(3,.slice zt (r.length +1) G)] fun a p=> ?_
 have q:(r.length +1:Nat)=(r++[(128:UInt8)]).length :=by first| (simp;done)| (simp;omega)
 rw[q] at p;clear q
 refine cS<|cB 0 ?_
 have hz:(r++[(128:UInt8)]).length =r.length +1:=by simp
 have hz0:bF (r.length +1)=(120 - (r.length +1)%64)%64:=rfl
 have hl0:(r++[(128:UInt8)]).length =(r++[128]++List.replicate 0 (0:UInt8)).length :=by simp
 rw[hl0] at p
 have dD:Own h27 (.slice zt (r++[128]++List.replicate 0 (0:UInt8)).length G) 5 (r++[128]++List.replicate 0 (0:UInt8)).length 1 ((r++[128]++List.replicate 0 (0:UInt8)).map bv):=by simpa using i
 refine cL (fun m a h'=>∃j:Nat,∃ad':Option Addr,∃cap':Nat,m=bF (r.length +1) - j∧(Ext h h')∧(Ext h1 h')∧(bl h')∧(h'[b]? =some (.cells #[wv st.a,wv st.b,wv st.c,wv st.d,wv st.e,wv st.f,wv st.g,wv st.h,.slice ad r.length cap,.int .u64 ((n:Nat):Int)] 149))∧(h'[h.size]? =some (.cells #[.int .u8 0,.int .u8 0,.int .u8 0,.int .u8 0,.int .u8 0,.int .u8 0,.int .u8 0,.int .u8 0,.int .u8 0,.int .u8 0,.int .u8 0,.int .u8 0,.int .u8 0,.int .u8 0,.int .u8 0,.int .u8 0,.int .u8 0,.int .u8 0,.int .u8 0,.int .u8 0,.int .u8 0,.int .u8 0,.int .u8 0,.int .u8 0,.int .u8 0,.int .u8 0,.int .u8 0,.int .u8 0,.int .u8 0,.int .u8 0,.int .u8 0,.int .u8 0] 39))∧(j≤bF (r.length +1))∧(Own h' (.slice ad' (r++[128]++List.replicate j 0).length cap') 5 (r++[128]++List.replicate j 0).length 1 ((r++[128]++List.replicate j 0).map bv))∧(∀k,ad'.map (·.block)=some k→h1.size ≤k)∧(Fr a 54 [(0,.pointer (some ⟨b,0,none⟩)),(2,.pointer (some ⟨h.size,0,none⟩)),(3,.slice ad' ((r++[128]++List.replicate j 0).length) cap')])) (bF (r.length +1) - 0) ⟨0,zt,G,rfl,u,e1,kt,hm,w,(by omega),dD,aJ,p.to⟩ ?_
 clear p a
 clear u
 clear e1
 clear kt
 clear hm
 clear w
 clear dD
 clear aJ
 rintro m a h28 ⟨j,ad',cap',rfl,u,e1,kt,hm,w,hj,i,aJ,p⟩
 have hlj:(r++[128]++List.replicate j 0).length =r.length +1+j:=by simp;omega
 refine cS<|qS p<|t1 2 (.int .i64 ((((r++[128]++List.replicate j 0).length)%64:Nat):Int)) (.int .i64 (Int.tmod (((r++[128]++List.replicate j 0).length :Nat):Int) 64)) (congrArg (Value.int .i64) (iX ((r++[128]++List.replicate j 0).length) 64))<|sT [(18,.bool (!decide (((((r++[128]++List.replicate j 0).length)%64:Nat):Int)=(56:Int))))] fun a p=>cI 18 p (fun hc29=> ?_) fun hc29=> ?_
 ·refine cN<|tK<|cB 1<|rS p<|tN 1 (.slice (some ⟨h28.size,0,none⟩) 1 1) #[.int .u8 0] 5 fun h30 y5 m32=> ?_
  replace u:=u.ext y5
  replace e1:=e1.ext y5
  replace kt:=kt.ext y5
  replace i:=i.ext y5
  replace hm:=hm.x y5
  replace w:=w.x y5
  have dC:=Row.blk (n:=1) (sz:=1) (l:=[bv (0:UInt8)]) m32 rfl
  clear m32
  have hsz:=e1.size
  refine tF 2 (Does.c9 (t:=32) (E:=5) (sz:=1) (dV:=1) (n:=(r++[128]++List.replicate j 0).length) (m:=1) (v:= .slice ad' ((r++[128]++List.replicate j 0).length) cap') (x:= .slice (some ⟨h28.size,0,none⟩) 1 1) (xs:=(r++[128]++List.replicate j 0).map bv) (ys:=([(0:UInt8)]).map bv) (by kernel_rfl) (by kernel_rfl) i dC (aE _) (by unfold maxLen;first|omega| (simp only[List.length_append,List.length_cons,List.length_nil,List.length_replicate,bF];omega)) (by first|omega| (simp only[List.length_append,List.length_cons,List.length_nil,List.length_replicate,bF];omega))) ?_
  rintro _ yZ ⟨Ct,S,rfl,s,U,Cu⟩
  rw[af] at U Cu
  replace u:=u.grew U (fun k hk=>by have:=aJ k hk;omega)
  replace e1:=e1.grew U (fun k hk=>by have:=aJ k hk;omega)
  replace kt:=kt.grew U (fun e=>by have:=aJ _ e.symm;omega)
  replace hm:=hm.y U (fun e=>by have:=aJ _ e.symm;omega)
  replace w:=w.y U (fun e=>by have:=aJ _ e.symm;omega)
  replace i:Own yZ (.slice Ct (((r++[128]++List.replicate j 0)++[(0:UInt8)])).length S) 5 (((r++[128]++List.replicate j 0)++[(0:UInt8)])).length 1 (((r++[128]++List.replicate j 0)++[(0:UInt8)]).map bv):=Own.app s (by first|rfl|simp) (by first| (simp;done)| (simp;omega))
  replace aJ:=dB aJ Cu (by omega)
  clear s U Cu hsz
  clear dC
  refine sE [(3,.slice Ct (((r++[128]++List.replicate j 0).length)+1) S)] fun a p=> ?_
  have q:(((r++[128]++List.replicate j 0).length)+1:Nat)=((r++[128]++List.replicate j 0)++[(0:UInt8)]).length :=by first| (simp;done)| (simp;omega)
  rw[q] at p;clear q
  refine bK ?_
  have q:((r++[128]++List.replicate j 0)++[(0:UInt8)]).length =(r++[128]++List.replicate (j+1) (0:UInt8)).length :=by simp[List.replicate_succ']
  rw[q] at p;clear q
  show ∃m',m'<_∧_
  refine⟨_,?_,(j+1),Ct,S,rfl,u,e1,kt,hm,w,(by omega),(by simpa[List.replicate_succ'] using i),aJ,p.to⟩
  omega
 ·refine cX 0 (xT (xT (xB ?_)))
  refine tK<|cS<|qP [(22,.int .i64 0)] p fun a p=>cB 2 ?_
  have ej:j=bF (r.length +1):=by omega
  subst ej
  obtain⟨T0,hT0⟩:∃T:List UInt8,(r++[128]++List.replicate (bF (r.length +1)) 0)=T:=⟨_,rfl⟩
  rw[hT0] at i p hlj
  refine cU 9<|ar.step <|qP [(23,.bool true)] p fun a p=>cS<|cT 23 p<|cN<|tK ?_
  refine cS<|cB 3<|qP [(4,.int .i64 0)] p fun a p=>rS p<|tO 4 9 hm<|t1 5 (.int .u64 ((8*n:Nat):Int)) (.int .u64 (IntKind.u64.wrap (8*((n:Nat):Int)))) (congrArg (Value.int .u64) (l6 (by omega) (by omega)))<|t1 9 (.int .u64 (((8*n)/2^56:Nat):Int)) (.int .u64 (Int.fdiv ((8*n:Nat):Int) (2^56))) (congrArg (Value.int .u64) (bL (8*n) 56)) ?_
  refine t1 10 (bv (UInt8.ofNat ((8*n)/2^56))) (.int .u8 (IntKind.u8.wrap (((8*n)/2^56:Nat):Int))) (bt _)<|tN 11 (.slice (some ⟨h28.size,0,none⟩) 1 1) #[bv (UInt8.ofNat ((8*n)/2^56))] 5 fun vl qF y6=> ?_
  replace u:=u.ext qF
  replace e1:=e1.ext qF
  replace kt:=kt.ext qF
  replace i:=i.ext qF
  replace hm:=hm.x qF
  replace w:=w.x qF
  have dC:=Row.blk (n:=1) (sz:=1) (l:=[bv (UInt8.ofNat ((8*n)/2^56))]) y6 rfl
  clear y6
  have hsz:=e1.size
  refine tF 12 (Does.c9 (t:=32) (E:=5) (sz:=1) (dV:=1) (n:=T0.length) (m:=1) (v:= .slice ad' T0.length cap') (x:= .slice (some ⟨h28.size,0,none⟩) 1 1) (xs:=T0.map bv) (ys:=([UInt8.ofNat ((8*n)/2^56)]).map bv) (by kernel_rfl) (by kernel_rfl) i dC (aE _) (by unfold maxLen;first|omega| (simp only[List.length_append,List.length_cons,List.length_nil,List.length_replicate,bF];omega)) (by first|omega| (simp only[List.length_append,List.length_cons,List.length_nil,List.length_replicate,bF];omega))) ?_
  rintro _ y7 ⟨Cv,V,rfl,s,W,tB⟩
  rw[af] at W tB
  replace u:=u.grew W (fun k hk=>by have:=aJ k hk;omega)
  replace e1:=e1.grew W (fun k hk=>by have:=aJ k hk;omega)
  replace kt:=kt.grew W (fun e=>by have:=aJ _ e.symm;omega)
  replace hm:=hm.y W (fun e=>by have:=aJ _ e.symm;omega)
  replace w:=w.y W (fun e=>by have:=aJ _ e.symm;omega)
  replace i:Own y7 (.slice Cv ((T0++[UInt8.ofNat ((8*n)/2^56)])).length V) 5 ((T0++[UInt8.ofNat ((8*n)/2^56)])).length 1 ((T0++[UInt8.ofNat ((8*n)/2^56)]).map bv):=Own.app s (by first|rfl|simp) (by first| (simp;done)| (simp;omega))
  replace aJ:=dB aJ tB (by omega)
  clear s W tB hsz
  clear dC
  obtain⟨T1,hT1⟩:∃T:List UInt8,(T0++[UInt8.ofNat ((8*n)/2^56)])=T:=⟨_,rfl⟩
  rw[hT1] at i
  have H2:T1.length =T0.length +1:=by rw[←hT1];simp
  refine sE [(3,.slice Cv (T0.length +1) V)] fun a p=> ?_
  have q:(T0.length +1:Nat)=T1.length :=by first| (rw[←hT1];simp;done)| (simp;done)| (simp;omega)
  rw[q] at p;clear q
  refine bK<|tK<|rP [(22,.int .i64 1)] p fun a p=>tK (ar.step ?_)
  refine qP [(23,.bool true)] p fun a p=>cS<|cT 23 p<|cN<|tK<|cS<|cB 3 ?_
  refine qP [(4,.int .i64 1)] p fun a p=>rS p<|tO 4 9 hm<|t1 5 (.int .u64 ((8*n:Nat):Int)) (.int .u64 (IntKind.u64.wrap (8*((n:Nat):Int)))) (congrArg (Value.int .u64) (l6 (by omega) (by omega)))<|t1 9 (.int .u64 (((8*n)/2^48:Nat):Int)) (.int .u64 (Int.fdiv ((8*n:Nat):Int) (2^48))) (congrArg (Value.int .u64) (bL (8*n) 48))<|t1 10 (bv (UInt8.ofNat ((8*n)/2^48))) (.int .u8 (IntKind.u8.wrap (((8*n)/2^48:Nat):Int))) (bt _)<|tN 11 (.slice (some ⟨y7.size,0,none⟩) 1 1) #[bv (UInt8.ofNat ((8*n)/2^48))] 5 fun HX D6 K0=> ?_
  replace u:=u.ext D6
  replace e1:=e1.ext D6
  replace kt:=kt.ext D6
  replace i:=i.ext D6
  replace hm:=hm.x D6
  replace w:=w.x D6
  have dC:=Row.blk (n:=1) (sz:=1) (l:=[bv (UInt8.ofNat ((8*n)/2^48))]) K0 rfl
  clear K0
  have hsz:=e1.size
  refine tF 12 (Does.c9 (t:=32) (E:=5) (sz:=1) (dV:=1) (n:=T1.length) (m:=1) (v:= .slice Cv T1.length V) (x:= .slice (some ⟨y7.size,0,none⟩) 1 1) (xs:=T1.map bv) (ys:=([UInt8.ofNat ((8*n)/2^48)]).map bv) (by kernel_rfl) (by kernel_rfl) i dC (aE _) (by unfold maxLen;first|omega| (simp only[List.length_append,List.length_cons,List.length_nil,List.length_replicate,bF];omega)) (by first|omega| (simp only[List.length_append,List.length_cons,List.length_nil,List.length_replicate,bF];omega))) ?_
  rintro _ Cp ⟨Cw,X,rfl,s,Y,Cx⟩
  rw[af] at Y Cx
  replace u:=u.grew Y (fun k hk=>by have:=aJ k hk;omega)
  replace e1:=e1.grew Y (fun k hk=>by have:=aJ k hk;omega)
  replace kt:=kt.grew Y (fun e=>by have:=aJ _ e.symm;omega)
  replace hm:=hm.y Y (fun e=>by have:=aJ _ e.symm;omega)
  replace w:=w.y Y (fun e=>by have:=aJ _ e.symm;omega)
  replace i:Own Cp (.slice Cw ((T1++[UInt8.ofNat ((8*n)/2^48)])).length X) 5 ((T1++[UInt8.ofNat ((8*n)/2^48)])).length 1 ((T1++[UInt8.ofNat ((8*n)/2^48)]).map bv):=Own.app s (by first|rfl|simp) (by first| (simp;done)| (simp;omega))
  replace aJ:=dB aJ Cx (by omega)
  clear s Y Cx hsz
  clear dC
  obtain⟨T2,hT2⟩:∃T:List UInt8,(T1++[UInt8.ofNat ((8*n)/2^48)])=T:=⟨_,rfl⟩
  rw[hT2] at i
  have H3:T2.length =T1.length +1:=by rw[←hT2];simp
  refine sE [(3,.slice Cw (T1.length +1) X)] fun a p=> ?_
  have q:(T1.length +1:Nat)=T2.length :=by first| (rw[←hT2];simp;done)| (simp;done)| (simp;omega)
  rw[q] at p;clear q
  refine bK<|tK<|rP [(22,.int .i64 2)] p fun a p=>tK (ar.step ?_)
  refine qP [(23,.bool true)] p fun a p=>cS<|cT 23 p<|cN<|tK<|cS<|cB 3 ?_
  refine qP [(4,.int .i64 2)] p fun a p=>rS p<|tO 4 9 hm<|t1 5 (.int .u64 ((8*n:Nat):Int)) (.int .u64 (IntKind.u64.wrap (8*((n:Nat):Int)))) (congrArg (Value.int .u64) (l6 (by omega) (by omega)))<|t1 9 (.int .u64 (((8*n)/2^40:Nat):Int)) (.int .u64 (Int.fdiv ((8*n:Nat):Int) (2^40))) (congrArg (Value.int .u64) (bL (8*n) 40))<|t1 10 (bv (UInt8.ofNat ((8*n)/2^40))) (.int .u8 (IntKind.u8.wrap (((8*n)/2^40:Nat):Int))) (bt _)<|tN 11 (.slice (some ⟨Cp.size,0,none⟩) 1 1) #[bv (UInt8.ofNat ((8*n)/2^40))] 5 fun h63 vH K1=> ?_
  replace u:=u.ext vH
  replace e1:=e1.ext vH
  replace kt:=kt.ext vH
  replace i:=i.ext vH
  replace hm:=hm.x vH
  replace w:=w.x vH
  have dC:=Row.blk (n:=1) (sz:=1) (l:=[bv (UInt8.ofNat ((8*n)/2^40))]) K1 rfl
  clear K1
  have hsz:=e1.size
  refine tF 12 (Does.c9 (t:=32) (E:=5) (sz:=1) (dV:=1) (n:=T2.length) (m:=1) (v:= .slice Cw T2.length X) (x:= .slice (some ⟨Cp.size,0,none⟩) 1 1) (xs:=T2.map bv) (ys:=([UInt8.ofNat ((8*n)/2^40)]).map bv) (by kernel_rfl) (by kernel_rfl) i dC (aE _) (by unfold maxLen;first|omega| (simp only[List.length_append,List.length_cons,List.length_nil,List.length_replicate,bF];omega)) (by first|omega| (simp only[List.length_append,List.length_cons,List.length_nil,List.length_replicate,bF];omega))) ?_
  rintro _ zu ⟨tD,Z,rfl,s,tE,tL⟩
  rw[af] at tE tL
  replace u:=u.grew tE (fun k hk=>by have:=aJ k hk;omega)
  replace e1:=e1.grew tE (fun k hk=>by have:=aJ k hk;omega)
  replace kt:=kt.grew tE (fun e=>by have:=aJ _ e.symm;omega)
  replace hm:=hm.y tE (fun e=>by have:=aJ _ e.symm;omega)
  replace w:=w.y tE (fun e=>by have:=aJ _ e.symm;omega)
  replace i:Own zu (.slice tD ((T2++[UInt8.ofNat ((8*n)/2^40)])).length Z) 5 ((T2++[UInt8.ofNat ((8*n)/2^40)])).length 1 ((T2++[UInt8.ofNat ((8*n)/2^40)]).map bv):=Own.app s (by first|rfl|simp) (by first| (simp;done)| (simp;omega))
  replace aJ:=dB aJ tL (by omega)
  clear s tE tL hsz
  clear dC
  obtain⟨T3,zv⟩:∃T:List UInt8,(T2++[UInt8.ofNat ((8*n)/2^40)])=T:=⟨_,rfl⟩
  rw[zv] at i
  have H4:T3.length =T2.length +1:=by rw[←zv];simp
  refine sE [(3,.slice tD (T2.length +1) Z)] fun a p=> ?_
  have q:(T2.length +1:Nat)=T3.length :=by first| (rw[←zv];simp;done)| (simp;done)| (simp;omega)
  rw[q] at p;clear q
  refine bK<|tK<|rP [(22,.int .i64 3)] p fun a p=>tK (ar.step ?_)
  refine qP [(23,.bool true)] p fun a p=>cS<|cT 23 p<|cN<|tK<|cS<|cB 3 ?_
  refine qP [(4,.int .i64 3)] p fun a p=>rS p<|tO 4 9 hm<|t1 5 (.int .u64 ((8*n:Nat):Int)) (.int .u64 (IntKind.u64.wrap (8*((n:Nat):Int)))) (congrArg (Value.int .u64) (l6 (by omega) (by omega)))<|t1 9 (.int .u64 (((8*n)/2^32:Nat):Int)) (.int .u64 (Int.fdiv ((8*n:Nat):Int) (2^32))) (congrArg (Value.int .u64) (bL (8*n) 32))<|t1 10 (bv (UInt8.ofNat ((8*n)/2^32))) (.int .u8 (IntKind.u8.wrap (((8*n)/2^32:Nat):Int))) (bt _)<|tN 11 (.slice (some ⟨zu.size,0,none⟩) 1 1) #[bv (UInt8.ofNat ((8*n)/2^32))] 5 fun KY vm D7=> ?_
  replace u:=u.ext vm
  replace e1:=e1.ext vm
  replace kt:=kt.ext vm
  replace i:=i.ext vm
  replace hm:=hm.x vm
  replace w:=w.x vm
  have dC:=Row.blk (n:=1) (sz:=1) (l:=[bv (UInt8.ofNat ((8*n)/2^32))]) D7 rfl
  clear D7
  have hsz:=e1.size
  refine tF 12 (Does.c9 (t:=32) (E:=5) (sz:=1) (dV:=1) (n:=T3.length) (m:=1) (v:= .slice tD T3.length Z) (x:= .slice (some ⟨zu.size,0,none⟩) 1 1) (xs:=T3.map bv) (ys:=([UInt8.ofNat ((8*n)/2^32)]).map bv) (by kernel_rfl) (by kernel_rfl) i dC (aE _) (by unfold maxLen;first|omega| (simp only[List.length_append,List.length_cons,List.length_nil,List.length_replicate,bF];omega)) (by first|omega| (simp only[List.length_append,List.length_cons,List.length_nil,List.length_replicate,bF];omega))) ?_
  rintro _ h84 ⟨Cy,vI,rfl,s,Cz,CB⟩
  rw[af] at Cz CB
  replace u:=u.grew Cz (fun k hk=>by have:=aJ k hk;omega)
  replace e1:=e1.grew Cz (fun k hk=>by have:=aJ k hk;omega)
  replace kt:=kt.grew Cz (fun e=>by have:=aJ _ e.symm;omega)
  replace hm:=hm.y Cz (fun e=>by have:=aJ _ e.symm;omega)
  replace w:=w.y Cz (fun e=>by have:=aJ _ e.symm;omega)
  replace i:Own h84 (.slice Cy ((T3++[UInt8.ofNat ((8*n)/2^32)])).length vI) 5 ((T3++[UInt8.ofNat ((8*n)/2^32)])).length 1 ((T3++[UInt8.ofNat ((8*n)/2^32)]).map bv):=Own.app s (by first|rfl|simp) (by first| (simp;done)| (simp;omega))
  replace aJ:=dB aJ CB (by omega)
  clear s Cz CB hsz
  clear dC
  obtain⟨T4,zw⟩:∃T:List UInt8,(T3++[UInt8.ofNat ((8*n)/2^32)])=T:=⟨_,rfl⟩
  rw[zw] at i
  have H5:T4.length =T3.length +1:=by rw[←zw];simp
  refine sE [(3,.slice Cy (T3.length +1) vI)] fun a p=> ?_
  have q:(T3.length +1:Nat)=T4.length :=by first| (rw[←zw];simp;done)| (simp;done)| (simp;omega)
  rw[q] at p;clear q
  refine bK<|tK<|rP [(22,.int .i64 4)] p fun a p=>tK (ar.step ?_)
  refine qP [(23,.bool true)] p fun a p=>cS<|cT 23 p<|cN<|tK<|cS<|cB 3 ?_
  refine qP [(4,.int .i64 4)] p fun a p=>rS p<|tO 4 9 hm<|t1 5 (.int .u64 ((8*n:Nat):Int)) (.int .u64 (IntKind.u64.wrap (8*((n:Nat):Int)))) (congrArg (Value.int .u64) (l6 (by omega) (by omega)))<|t1 9 (.int .u64 (((8*n)/2^24:Nat):Int)) (.int .u64 (Int.fdiv ((8*n:Nat):Int) (2^24))) (congrArg (Value.int .u64) (bL (8*n) 24))<|t1 10 (bv (UInt8.ofNat ((8*n)/2^24))) (.int .u8 (IntKind.u8.wrap (((8*n)/2^24:Nat):Int))) (bt _)<|tN 11 (.slice (some ⟨h84.size,0,none⟩) 1 1) #[bv (UInt8.ofNat ((8*n)/2^24))] 5 fun Hk vJ K2=> ?_
  replace u:=u.ext vJ
  replace e1:=e1.ext vJ
  replace kt:=kt.ext vJ
  replace i:=i.ext vJ
  replace hm:=hm.x vJ
  replace w:=w.x vJ
  have dC:=Row.blk (n:=1) (sz:=1) (l:=[bv (UInt8.ofNat ((8*n)/2^24))]) K2 rfl
  clear K2
  have hsz:=e1.size
  refine tF 12 (Does.c9 (t:=32) (E:=5) (sz:=1) (dV:=1) (n:=T4.length) (m:=1) (v:= .slice Cy T4.length vI) (x:= .slice (some ⟨h84.size,0,none⟩) 1 1) (xs:=T4.map bv) (ys:=([UInt8.ofNat ((8*n)/2^24)]).map bv) (by kernel_rfl) (by kernel_rfl) i dC (aE _) (by unfold maxLen;first|omega| (simp only[List.length_append,List.length_cons,List.length_nil,List.length_replicate,bF];omega)) (by first|omega| (simp only[List.length_append,List.length_cons,List.length_nil,List.length_replicate,bF];omega))) ?_
  rintro _ h95 ⟨CC,vK,rfl,s,CD,CE⟩
  rw[af] at CD CE
  replace u:=u.grew CD (fun k hk=>by have:=aJ k hk;omega)
  replace e1:=e1.grew CD (fun k hk=>by have:=aJ k hk;omega)
  replace kt:=kt.grew CD (fun e=>by have:=aJ _ e.symm;omega)
  replace hm:=hm.y CD (fun e=>by have:=aJ _ e.symm;omega)
  replace w:=w.y CD (fun e=>by have:=aJ _ e.symm;omega)
  replace i:Own h95 (.slice CC ((T4++[UInt8.ofNat ((8*n)/2^24)])).length vK) 5 ((T4++[UInt8.ofNat ((8*n)/2^24)])).length 1 ((T4++[UInt8.ofNat ((8*n)/2^24)]).map bv):=Own.app s (by first|rfl|simp) (by first| (simp;done)| (simp;omega))
  replace aJ:=dB aJ CE (by omega)
  clear s CD CE hsz
  clear dC
  obtain⟨T5,zx⟩:∃T:List UInt8,(T4++[UInt8.ofNat ((8*n)/2^24)])=T:=⟨_,rfl⟩
  rw[zx] at i
  have H6:T5.length =T4.length +1:=by rw[←zx];simp
  refine sE [(3,.slice CC (T4.length +1) vK)] fun a p=> ?_
  have q:(T4.length +1:Nat)=T5.length :=by first| (rw[←zx];simp;done)| (simp;done)| (simp;omega)
  rw[q] at p;clear q
  refine bK<|tK<|rP [(22,.int .i64 5)] p fun a p=>tK (ar.step ?_)
  refine qP [(23,.bool true)] p fun a p=>cS<|cT 23 p<|cN<|tK<|cS<|cB 3 ?_
  refine qP [(4,.int .i64 5)] p fun a p=>rS p<|tO 4 9 hm<|t1 5 (.int .u64 ((8*n:Nat):Int)) (.int .u64 (IntKind.u64.wrap (8*((n:Nat):Int)))) (congrArg (Value.int .u64) (l6 (by omega) (by omega)))<|t1 9 (.int .u64 (((8*n)/2^16:Nat):Int)) (.int .u64 (Int.fdiv ((8*n:Nat):Int) (2^16))) (congrArg (Value.int .u64) (bL (8*n) 16))<|t1 10 (bv (UInt8.ofNat ((8*n)/2^16))) (.int .u8 (IntKind.u8.wrap (((8*n)/2^16:Nat):Int))) (bt _)<|tN 11 (.slice (some ⟨h95.size,0,none⟩) 1 1) #[bv (UInt8.ofNat ((8*n)/2^16))] 5 fun Ev y8 vL=> ?_
  replace u:=u.ext y8
  replace e1:=e1.ext y8
  replace kt:=kt.ext y8
  replace i:=i.ext y8
  replace hm:=hm.x y8
  replace w:=w.x y8
  have dC:=Row.blk (n:=1) (sz:=1) (l:=[bv (UInt8.ofNat ((8*n)/2^16))]) vL rfl
  clear vL
  have hsz:=e1.size
  refine tF 12 (Does.c9 (t:=32) (E:=5) (sz:=1) (dV:=1) (n:=T5.length) (m:=1) (v:= .slice CC T5.length vK) (x:= .slice (some ⟨h95.size,0,none⟩) 1 1) (xs:=T5.map bv) (ys:=([UInt8.ofNat ((8*n)/2^16)]).map bv) (by kernel_rfl) (by kernel_rfl) i dC (aE _) (by unfold maxLen;first|omega| (simp only[List.length_append,List.length_cons,List.length_nil,List.length_replicate,bF];omega)) (by first|omega| (simp only[List.length_append,List.length_cons,List.length_nil,List.length_replicate,bF];omega))) ?_
  rintro _ zy ⟨vM,H,rfl,s,A,vN⟩
  rw[af] at A vN
  replace u:=u.grew A (fun k hk=>by have:=aJ k hk;omega)
  replace e1:=e1.grew A (fun k hk=>by have:=aJ k hk;omega)
  replace kt:=kt.grew A (fun e=>by have:=aJ _ e.symm;omega)
  replace hm:=hm.y A (fun e=>by have:=aJ _ e.symm;omega)
  replace w:=w.y A (fun e=>by have:=aJ _ e.symm;omega)
  replace i:Own zy (.slice vM ((T5++[UInt8.ofNat ((8*n)/2^16)])).length H) 5 ((T5++[UInt8.ofNat ((8*n)/2^16)])).length 1 ((T5++[UInt8.ofNat ((8*n)/2^16)]).map bv):=Own.app s (by first|rfl|simp) (by first| (simp;done)| (simp;omega))
  replace aJ:=dB aJ vN (by omega)
  clear s A vN hsz
  clear dC
  obtain⟨T6,zz⟩:∃T:List UInt8,(T5++[UInt8.ofNat ((8*n)/2^16)])=T:=⟨_,rfl⟩
  rw[zz] at i
  have H7:T6.length =T5.length +1:=by rw[←zz];simp
  refine sE [(3,.slice vM (T5.length +1) H)] fun a p=> ?_
  have q:(T5.length +1:Nat)=T6.length :=by first| (rw[←zz];simp;done)| (simp;done)| (simp;omega)
  rw[q] at p;clear q
  refine bK<|tK<|rP [(22,.int .i64 6)] p fun a p=>tK (ar.step ?_)
  refine qP [(23,.bool true)] p fun a p=>cS<|cT 23 p<|cN<|tK<|cS<|cB 3 ?_
  refine qP [(4,.int .i64 6)] p fun a p=>rS p<|tO 4 9 hm<|t1 5 (.int .u64 ((8*n:Nat):Int)) (.int .u64 (IntKind.u64.wrap (8*((n:Nat):Int)))) (congrArg (Value.int .u64) (l6 (by omega) (by omega)))<|t1 9 (.int .u64 (((8*n)/2^8:Nat):Int)) (.int .u64 (Int.fdiv ((8*n:Nat):Int) (2^8))) (congrArg (Value.int .u64) (bL (8*n) 8))<|t1 10 (bv (UInt8.ofNat ((8*n)/2^8))) (.int .u8 (IntKind.u8.wrap (((8*n)/2^8:Nat):Int))) (bt _)<|tN 11 (.slice (some ⟨zy.size,0,none⟩) 1 1) #[bv (UInt8.ofNat ((8*n)/2^8))] 5 fun H8 D Ew=> ?_
  replace u:=u.ext D
  replace e1:=e1.ext D
  replace kt:=kt.ext D
  replace i:=i.ext D
  replace hm:=hm.x D
  replace w:=w.x D
  have dC:=Row.blk (n:=1) (sz:=1) (l:=[bv (UInt8.ofNat ((8*n)/2^8))]) Ew rfl
  clear Ew
  have hsz:=e1.size
  refine tF 12 (Does.c9 (t:=32) (E:=5) (sz:=1) (dV:=1) (n:=T6.length) (m:=1) (v:= .slice vM T6.length H) (x:= .slice (some ⟨zy.size,0,none⟩) 1 1) (xs:=T6.map bv) (ys:=([UInt8.ofNat ((8*n)/2^8)]).map bv) (by kernel_rfl) (by kernel_rfl) i dC (aE _) (by unfold maxLen;first|omega| (simp only[List.length_append,List.length_cons,List.length_nil,List.length_replicate,bF];omega)) (by first|omega| (simp only[List.length_append,List.length_cons,List.length_nil,List.length_replicate,bF];omega))) ?_
  rintro _ vO ⟨vP,I,rfl,s,B,vQ⟩
  rw[af] at B vQ
  replace u:=u.grew B (fun k hk=>by have:=aJ k hk;omega)
  replace e1:=e1.grew B (fun k hk=>by have:=aJ k hk;omega)
  replace kt:=kt.grew B (fun e=>by have:=aJ _ e.symm;omega)
  replace hm:=hm.y B (fun e=>by have:=aJ _ e.symm;omega)
  replace w:=w.y B (fun e=>by have:=aJ _ e.symm;omega)
  replace i:Own vO (.slice vP ((T6++[UInt8.ofNat ((8*n)/2^8)])).length I) 5 ((T6++[UInt8.ofNat ((8*n)/2^8)])).length 1 ((T6++[UInt8.ofNat ((8*n)/2^8)]).map bv):=Own.app s (by first|rfl|simp) (by first| (simp;done)| (simp;omega))
  replace aJ:=dB aJ vQ (by omega)
  clear s B vQ hsz
  clear dC
  obtain⟨T7,zA⟩:∃T:List UInt8,(T6++[UInt8.ofNat ((8*n)/2^8)])=T:=⟨_,rfl⟩
  rw[zA] at i
  have H9:T7.length =T6.length +1:=by rw[←zA];simp
  refine sE [(3,.slice vP (T6.length +1) I)] fun a p=> ?_
  have q:(T6.length +1:Nat)=T7.length :=by first| (rw[←zA];simp;done)| (simp;done)| (simp;omega)
  rw[q] at p;clear q
  refine bK<|tK<|rP [(22,.int .i64 7)] p fun a p=>tK (ar.step ?_)
  refine qP [(23,.bool true)] p fun a p=>cS<|cT 23 p<|cN<|tK<|cS<|cB 3 ?_
  refine qP [(4,.int .i64 7)] p fun a p=>rS p<|tO 4 9 hm<|t1 5 (.int .u64 ((8*n:Nat):Int)) (.int .u64 (IntKind.u64.wrap (8*((n:Nat):Int)))) (congrArg (Value.int .u64) (l6 (by omega) (by omega)))<|t1 9 (.int .u64 (((8*n)/2^0:Nat):Int)) (.int .u64 (Int.fdiv ((8*n:Nat):Int) (2^0))) (congrArg (Value.int .u64) (bL (8*n) 0))<|t1 10 (bv (UInt8.ofNat ((8*n)/2^0))) (.int .u8 (IntKind.u8.wrap (((8*n)/2^0:Nat):Int))) (bt _)<|tN 11 (.slice (some ⟨vO.size,0,none⟩) 1 1) #[bv (UInt8.ofNat ((8*n)/2^0))] 5 fun H_ F Ex=> ?_
  replace u:=u.ext F
  replace e1:=e1.ext F
  replace kt:=kt.ext F
  replace i:=i.ext F
  replace hm:=hm.x F
  replace w:=w.x F
  have dC:=Row.blk (n:=1) (sz:=1) (l:=[bv (UInt8.ofNat ((8*n)/2^0))]) Ex rfl
  clear Ex
  have hsz:=e1.size
  refine tF 12 (Does.c9 (t:=32) (E:=5) (sz:=1) (dV:=1) (n:=T7.length) (m:=1) (v:= .slice vP T7.length I) (x:= .slice (some ⟨vO.size,0,none⟩) 1 1) (xs:=T7.map bv) (ys:=([UInt8.ofNat ((8*n)/2^0)]).map bv) (by kernel_rfl) (by kernel_rfl) i dC (aE _) (by unfold maxLen;first|omega| (simp only[List.length_append,List.length_cons,List.length_nil,List.length_replicate,bF];omega)) (by first|omega| (simp only[List.length_append,List.length_cons,List.length_nil,List.length_replicate,bF];omega))) ?_
  rintro _ z ⟨J,K,rfl,s,C,vR⟩
  rw[af] at C vR
  replace u:=u.grew C (fun k hk=>by have:=aJ k hk;omega)
  replace e1:=e1.grew C (fun k hk=>by have:=aJ k hk;omega)
  replace kt:=kt.grew C (fun e=>by have:=aJ _ e.symm;omega)
  replace hm:=hm.y C (fun e=>by have:=aJ _ e.symm;omega)
  replace w:=w.y C (fun e=>by have:=aJ _ e.symm;omega)
  replace i:Own z (.slice J ((T7++[UInt8.ofNat ((8*n)/2^0)])).length K) 5 ((T7++[UInt8.ofNat ((8*n)/2^0)])).length 1 ((T7++[UInt8.ofNat ((8*n)/2^0)]).map bv):=Own.app s (by first|rfl|simp) (by first| (simp;done)| (simp;omega))
  replace aJ:=dB aJ vR (by omega)
  clear s C vR hsz
  clear dC
  obtain⟨T8,zB⟩:∃T:List UInt8,(T7++[UInt8.ofNat ((8*n)/2^0)])=T:=⟨_,rfl⟩
  rw[zB] at i
  have H':T8.length =T7.length +1:=by rw[←zB];simp
  refine sE [(3,.slice J (T7.length +1) K)] fun a p=> ?_
  have q:(T7.length +1:Nat)=T8.length :=by first| (rw[←zB];simp;done)| (simp;done)| (simp;omega)
  rw[q] at p;clear q
  refine bK<|tK<|rP [(22,.int .i64 8)] p fun a p=>tK (ar.step ?_)
  refine qP [(23,.bool false)] p fun a p=>cS<|cF 23 p<|cX 2 (xT (xT (xB ?_)))
  refine tK<|qS p<|tQ 3 0 [wv st.a,wv st.b,wv st.c,wv st.d,wv st.e,wv st.f,wv st.g,wv st.h] hm ?_
  have hne0:J.map (·.block)≠some (z.size):=by intro e;have:=i.lt (k:=z.size) (by rw[af];exact e);omega
  refine tN 4 (pV z.size) #[.int .u32 0,.int .u32 0,.int .u32 0,.int .u32 0,.int .u32 0,.int .u32 0,.int .u32 0,.int .u32 0] 145 fun Mk M zC=> ?_
  have K7:=u.size
  have K9:=e1.size
  replace u:=u.ext M
  replace e1:=e1.ext M
  replace kt:=kt.ext M
  replace i:=i.ext M
  replace w:=w.x M
  refine bA 5 [wv st.a,wv st.b,wv st.c,wv st.d,wv st.e,wv st.f,wv st.g,wv st.h] zC fun CF N zq=> ?_
  replace u:=u.v N
  replace e1:=e1.grew N (by rintro _ ⟨⟩;omega)
  replace kt:=kt.grew N (by simp;omega)
  replace i:=i.kept N (by rw[af];right;first|exact hne0| (intro e;have:=aJ _ e;omega))
  replace w:=w.y N
  replace zC:=zq
  refine sT [(5,pV z.size)] fun a p=>cS<|cB 4 ?_
  subst zB zA zz zx zw zv hT2 hT1 hT0
  have vS:(((((((((r++[128]++List.replicate (bF (r.length +1)) 0)++[UInt8.ofNat ((8*n)/2^56)])++[UInt8.ofNat ((8*n)/2^48)])++[UInt8.ofNat ((8*n)/2^40)])++[UInt8.ofNat ((8*n)/2^32)])++[UInt8.ofNat ((8*n)/2^24)])++[UInt8.ofNat ((8*n)/2^16)])++[UInt8.ofNat ((8*n)/2^8)])++[UInt8.ofNat ((8*n)/2^0)])=padded r n:=by simp[padded,vE]
  rw[vS] at p i
  have hp0:=lj r n
  clear vS
  refine cL (fun m a h'=>∃st':S8,∃e':List UInt8,∃ad':Option Addr,∃cap':Nat,m=e'.length ∧(Ext h h')∧(Ext h1 h')∧(bl h')∧(h'[h.size]? =some (.cells #[.int .u8 0,.int .u8 0,.int .u8 0,.int .u8 0,.int .u8 0,.int .u8 0,.int .u8 0,.int .u8 0,.int .u8 0,.int .u8 0,.int .u8 0,.int .u8 0,.int .u8 0,.int .u8 0,.int .u8 0,.int .u8 0,.int .u8 0,.int .u8 0,.int .u8 0,.int .u8 0,.int .u8 0,.int .u8 0,.int .u8 0,.int .u8 0,.int .u8 0,.int .u8 0,.int .u8 0,.int .u8 0,.int .u8 0,.int .u8 0,.int .u8 0,.int .u8 0] 39))∧(run st' e'=run st (padded r n))∧(e'.length %64=0)∧(h'[z.size]? =some (.cells #[wv st'.a,wv st'.b,wv st'.c,wv st'.d,wv st'.e,wv st'.f,wv st'.g,wv st'.h] 145))∧(Own h' (.slice ad' e'.length cap') 5 e'.length 1 (e'.map bv))∧(∀k,ad'.map (·.block)=some k→h1.size ≤k)∧(ad'.map (·.block)≠some (z.size))∧(Fr a 54 [(2,.pointer (some ⟨h.size,0,none⟩)),(3,.slice ad' e'.length cap'),(5,.pointer (some ⟨z.size,0,none⟩))])) ((padded r n).length) ⟨st,(padded r n),J,K,rfl,u,e1,kt,w,rfl,hp0,zC,i,aJ,hne0,p.to⟩ ?_
  clear p a
  clear u
  clear e1
  clear kt
  clear w
  clear hp0
  clear zC
  clear i
  clear aJ
  clear hne0
  rintro m a Ml ⟨st',e',ad',cap',rfl,u,e1,kt,w,hi,hmod,m5,i,aJ,hne,p⟩
  refine cS<|qP [(45,.bool (decide ((0:Int)<((e'.length :Nat):Int))))] p fun a p=>cJ 45 p (fun oQ=> ?_) fun oQ=> ?_
  ·have hl:64≤e'.length :=by omega
   obtain⟨gb,off,rfl,hcap⟩:=i.nP (by omega)
   refine cN<|tK<|cB 5<|cS<|cD [0,0,2,7,15] 12 mixed p<|mR 1 1 0 m5<|mP 3 [1] [.slice (some ⟨gb,off,none⟩) e'.length cap'] ?_
   refine mF 7 2 (.slice (some ⟨gb,off,none⟩) 64 cap') (fun h=>Calm.b7 (a:=(some ⟨gb,off,none⟩)) (len:=e'.length) (cap:=cap') (sz:=1) (x:=(some ⟨gb,off,none⟩)) 0 64 cap' 64 cap' (by kernel_rfl) (.inl ⟨rfl,rfl⟩) (.inr rfl) (.inl ⟨rfl,rfl⟩) (by omega) (by omega) (mu _) (by first|rfl|omega) (by first|rfl|omega) h)<|fZ 15 15 3 (mv _ st' ⟨gb,off,none⟩ cap' (e'.take 64) (vF i hl) kt) ?_
   rintro _ Mm ⟨rfl,g⟩
   replace u:=u.ext g
   replace e1:=e1.ext g
   replace kt:=kt.ext g
   replace i:=i.ext g
   replace w:=w.x g
   replace m5:=m5.x g
   clear g
   refine mV 31 31 4 0 [wv ((piece st' (e'.take 64)).a),wv ((piece st' (e'.take 64)).b),wv ((piece st' (e'.take 64)).c),wv ((piece st' (e'.take 64)).d),wv ((piece st' (e'.take 64)).e),wv ((piece st' (e'.take 64)).f),wv ((piece st' (e'.take 64)).g),wv ((piece st' (e'.take 64)).h)] [wv ((piece st' (e'.take 64)).a),wv ((piece st' (e'.take 64)).b),wv ((piece st' (e'.take 64)).c),wv ((piece st' (e'.take 64)).d),wv ((piece st' (e'.take 64)).e),wv ((piece st' (e'.take 64)).f),wv ((piece st' (e'.take 64)).g),wv ((piece st' (e'.take 64)).h)] m5 fun Mn O zq=> ?_
   replace u:=u.v O
   replace e1:=e1.grew O (by rintro _ ⟨⟩;omega)
   replace kt:=kt.grew O (by simp;omega)
   replace i:=i.kept O (by rw[af];right;first|exact hne| (intro e;have:=aJ _ e;omega))
   replace w:=w.y O
   replace m5:=zq
   refine mE [] fun a p=>tK<|rS p ?_
   obtain⟨Ey,dO⟩:∃x,x=if cap'=64 then (some ⟨gb,off,none⟩:Option Addr) else (some ⟨gb,off,none⟩:Option Addr).map (·.add (64*1)):=⟨_,rfl⟩
   have L:=i.drop 64 hl
   rw[←dO] at L
   refine tC 1 (.slice Ey (e'.length - 64) (cap' - 64)) ((fun h=>Calm.b7 (a:=(some ⟨gb,off,none⟩)) (len:=e'.length) (cap:=cap') (sz:=1) (x:=Ey) 64 e'.length cap' (e'.length - 64) (cap' - 64) (by kernel_rfl) (.inl ⟨rfl,rfl⟩) (.inl ⟨rfl,rfl⟩) (.inr rfl) (by omega) (by omega) dO (by first|rfl|omega) (by first|rfl|omega) h) _)<|sE [(3,.slice Ey (e'.length - 64) (cap' - 64))] fun a p=> ?_
   have e64:e'.length - 64=(e'.drop 64).length :=by simp
   rw[Nat.mul_one,←List.map_drop] at L
   rw[e64] at p L
   refine bK ?_
   show ∃m',m'<_∧_
   refine⟨_,?_,(piece st' (e'.take 64)),(e'.drop 64),Ey,(cap' - 64),rfl,u,e1,kt,w,(by rw[←hi,f_ hl]),(by rw[List.length_drop];omega),m5,L,(by intro k hk;rw[ga dO] at hk;exact aJ k hk),(by rw[ga dO];exact hne),p.to⟩
   omega
  ·refine cX 4 (xT (xT (xB ?_)))
   refine tK<|qS p<|tR 0 m5<|tG 1 (vG _ st') ?_
   rintro _ Mo ⟨rfl,g⟩
   replace u:=u.ext g
   replace kt:=kt.ext g
   replace i:=i.ext g
   replace w:=w.x g
   clear g
   have est:st'=run st (padded r n):=by rw[←hi,run_end (by omega)]
   refine tV 2 0 ((told st').map bv) ((told st').map bv) w (fun Ia vT zq=> ?_) (h1:=(aE _))
   replace u:=u.v vT
   clear e1
   replace kt:=kt.grew vT (by simp;omega)
   replace i:=i.kept vT (by rw[af];right;intro e;have:=aJ _ e;omega)
   replace w:=zq
   exact sT [] fun a p=>cR<|aI [.cell 2 39] [.agg (((told st').map bv).toArray)] (.agg (((told st').map bv).toArray)) rfl p ⟨⟨_,rfl,Loads.all (vs:=(told st').map bv) (by kernel_rfl) w⟩,trivial⟩ rfl<|⟨by rw[est];rfl,u⟩
noncomputable def Mp:Code:=Tryz.f112.body.getD .skip
theorem zD(h:Heap)(l:List UInt8)(va:Option Addr)(vc:Nat)(hr:Row h (.slice va l.length vc) l.length 1 (l.map bv))(hlt:l=[]∨∀k,a6 (.slice va l.length vc)=some k→k<h.size)(kt:bl h)(hn:l.length ≤1099511627776):Sat Tryz.prog 112 #[.slice va l.length vc] h fun v h'=>v=hv (sha l)∧Ext h h':=by
 have c:=Ext.refl h
 have m:=kt.lt
 refine ag Tryz.func112 10 fun a f=>qS f<|tN 0 (pV h.size) #[.int .u8 0,.int .u8 0,.int .u8 0,.int .u8 0,.int .u8 0,.int .u8 0,.int .u8 0,.int .u8 0,.int .u8 0,.int .u8 0,.int .u8 0,.int .u8 0,.int .u8 0,.int .u8 0,.int .u8 0,.int .u8 0,.int .u8 0,.int .u8 0,.int .u8 0,.int .u8 0,.int .u8 0,.int .u8 0,.int .u8 0,.int .u8 0,.int .u8 0,.int .u8 0,.int .u8 0,.int .u8 0,.int .u8 0,.int .u8 0,.int .u8 0,.int .u8 0] 39 fun h1 j d=> ?_
 have n:=ak d
 have o:=c.size
 replace c:=c.ext j
 replace kt:=kt.ext j
 replace hr:=hr.ext j
 refine sT [(2,pV h.size)] fun a f=>qS f<|tG 0 (sk _) ?_
 rintro _ r ⟨b,rfl,hs,hbl,g⟩
 replace c:=c.ext g
 replace kt:=kt.ext g
 replace hr:=hr.ext g
 replace d:=d.x g
 clear g
 refine sT [(3,pV b)] fun a f=>qS f<|tG 2 (mw _ b none H0 [] l 0 va vc hs hr (hlt.imp id fun hlt e=>by have:=hlt _ e;omega) (by omega) (by simp) kt (by simpa using hn) (by omega)) ?_
 rintro _ p ⟨o',hs',ho',g⟩
 simp only[List.nil_append,Nat.zero_add] at hs'
 have hF':∀k,(k=b∨some k=none)→_≤k:=fun k hk=>hk.elim (fun e=>e▸hbl) (fun e=>by cases e)
 replace kt:=kt.gr g (by simp;omega)
 replace d:=g.blk d (by simp;omega)
 replace c:=Gr.dj c g (fun k hk=>by have:=hF' k hk;omega)
 clear hs hr hF'
 refine sT [] fun a f=>qS f ?_
 have hrl:=nO l.length l (Nat.le_refl _)
 refine tG 1 ((sn _ b o' _ _ _ hs' kt (by omega) (by omega)).mono (R':=fun v h'=>v=hv (sha l)∧Ext p h') fun v h' e=>⟨e.1.trans (by rw[si]),e.2⟩) ?_
 rintro _ s ⟨rfl,g⟩
 replace c:=c.ext g
 replace kt:=kt.ext g
 replace d:=d.x g
 clear g
 refine tV 2 0 ((sha l).map bv) ((sha l).map bv) d (fun t i q=> ?_) (h1:=(aE _))
 replace c:=c.v i
 replace kt:=kt.grew i (by simp;omega)
 replace d:=q
 exact sT [] fun a f=>cR<|aI [.cell 2 39] [.agg (((sha l).map bv).toArray)] (.agg (((sha l).map bv).toArray)) rfl f ⟨⟨_,rfl,Loads.all (vs:=(sha l).map bv) (by kernel_rfl) d⟩,trivial⟩ rfl<|⟨rfl,c⟩
end Go.Proofs.YtegkejcglfgpmaaGreatDoor
end
section
namespace Go.aN
open Go Go.aj
def oR(h:Heap)(b:Nat)(o:Option Nat)(l:List UInt8):Prop:=qD h b o (run H0 l) (rem l) l.length
theorem oR.ext{h h':Heap}{b:Nat}{o:Option Nat}{l:List UInt8}(s:oR h b o l)(g:Ext h h'):oR h' b o l:=qD.ext s g
theorem oR.lt{h:Heap}{b:Nat}{o:Option Nat}{l:List UInt8}(s:oR h b o l):b<h.size ∧∀k,o=some k→k<h.size :=qD.lt s
theorem Gr.own{F:Nat→Prop}{h h':Heap}{v:Value}{E:TypeId}{n sz:Nat}{xs:List Value}(g:Gr F h h')(w:Own h v E n sz xs)(hne:∀k,a6 v=some k→¬F k):Own h' v E n sz xs:=by
  refine⟨w.1,w.2.imp id ?_⟩
  rintro⟨b,off,cap,l,e,hg,r⟩
  exact⟨b,off,cap,l,e,g.blk hg (hne b (by rw[e];rfl)),r⟩
theorem vU(l:List UInt8):(rem l).length ≤l.length :=(nO l.length l (Nat.le_refl _)).2.1
theorem Ib{P:Program}{ops:Array Oper}{base:Nat→Value}{vals:aR}{i:Nat}{n:Nat}{l r:List UInt8}(hx:Ep P ops base vals i=some (false,(l.map bv).toArray,(r.map bv).toArray,n))(hl:l.length =n)(hr:r.length =n)(h:Heap):
    Go.aj.Calm P ops base vals i h (.bool (!decide (l=r))):=by
  have:=Calm.Mf hx hl hr h
  rwa [show(decide (l=r)==false)= !decide (l=r) by cases decide (l=r)<;>rfl] at this
def Sep(lo hi:Nat)(l:List (Option Nat)):Prop:=(∀x∈l,∀k,x=some k→lo≤k∧k<hi)∧l.Pairwise fun x y=>∀k,x=some k→y≠some k
theorem Sep.nil(lo hi:Nat):Sep lo hi []:=⟨by simp,List.Pairwise.nil⟩
theorem Sep.up{lo n m:Nat}{l:List (Option Nat)}(s:Sep lo n l)(h:n≤m):Sep lo m l:=⟨fun x hx k e=>⟨(s.1 x hx k e).1,Nat.lt_of_lt_of_le (s.1 x hx k e).2 h⟩,s.2⟩
theorem Sep.cons{lo n m:Nat}{l:List (Option Nat)}{x:Option Nat}(s:Sep lo n l)(h:n≤m)(h0:lo≤n)(hx:∀k,x=some k→n≤k∧k<m):Sep lo m (x::l):=
  ⟨fun y hy k e=>by
    rcases List.mem_cons.1 hy with rfl|hy
    · have:=hx k e;exact⟨by omega,this.2⟩
    · exact(s.up h).1 y hy k e,
   List.pairwise_cons.2 ⟨fun y hy k e ey=>by have:=(s.1 y hy k ey).2;have:=(hx k e).1;omega,s.2⟩⟩
theorem Sep.new{lo n m:Nat}{l:List (Option Nat)}(s:Sep lo n l)(h0:lo≤n)(h:n<m):Sep lo m (some n::l):=
  s.cons (Nat.le_of_lt h) h0 (fun k e=>by cases e;exact⟨Nat.le_refl _,h⟩)
theorem Sep.none{lo n:Nat}{l:List (Option Nat)}(s:Sep lo n l)(h0:lo≤n):Sep lo n (none::l):=s.cons (Nat.le_refl _) h0 (fun k e=>by cases e)
theorem Sep.ne{lo n:Nat}{l:List (Option Nat)}(s:Sep lo n l){i j:Nat}{x y:Option Nat}(hx:l[i]? =some x)(hy:l[j]? =some y)(hij:i≠j)(k:Nat)(e:x=some k):y≠some k:=by
  obtain⟨hi,rfl⟩:=List.getElem?_eq_some_iff.1 hx
  obtain⟨hj,rfl⟩:=List.getElem?_eq_some_iff.1 hy
  rcases Nat.lt_or_gt_of_ne hij with h|h
  · exact List.pairwise_iff_getElem.1 s.2 i j hi hj h k e
  · intro e';exact List.pairwise_iff_getElem.1 s.2 j i hj hi h k e' e
theorem Sep.ap{lo n:Nat}{l:List (Option Nat)}(s:Sep lo n l)(i j:Nat){x y:Option Nat}(hx:l[i]? =some x:=by rfl)(hy:l[j]? =some y:=by rfl)(hij:i≠j:=by decide):x=Option.none ∨x≠y:=by
  cases x with
  |none=>exact .inl rfl
  |some k=>exact .inr fun e=>s.ne hx hy hij k rfl e.symm
theorem Sep.bp{lo n:Nat}{l:List (Option Nat)}(s:Sep lo n l)(i j:Nat){b:Nat}{y:Option Nat}(hx:l[i]? =some (some b):=by rfl)(hy:l[j]? =some y:=by rfl)(hij:i≠j:=by decide):some b≠y:=fun e=>s.ne hx hy hij b rfl e.symm
theorem Sep.gF{lo n:Nat}{l:List (Option Nat)}(s:Sep lo n l)(i j m:Nat){x o:Option Nat}{b:Nat}(hx:l[i]? =some x)(hb:l[j]? =some (some b))(ho:l[m]? =some o)(hij:i≠j)(him:i≠m):∀k,x=some k→¬(k=b∨some k=o):=by
  rintro k e (rfl|e')
  · exact s.ne hx hb hij _ e rfl
  · exact s.ne hx ho him _ e e'.symm
theorem Sep.low{lo n:Nat}{l:List (Option Nat)}(s:Sep lo n l)(i:Nat){x:Option Nat}(hx:l[i]? =some x):∀k,x=some k→lo≤k:=by
  obtain⟨hi,rfl⟩:=List.getElem?_eq_some_iff.1 hx
  exact fun k e=>(s.1 _ (List.getElem_mem hi) k e).1
theorem Sep.qG{lo n:Nat}{l:List (Option Nat)}(s:Sep lo n l)(j m:Nat){o:Option Nat}{b:Nat}(hb:l[j]? =some (some b))(ho:l[m]? =some o):∀k,(k=b∨some k=o)→lo≤k:=by
  rintro k (rfl|e)
  · exact s.low j hb _ rfl
  · exact s.low m ho _ e.symm
theorem Sep.zero{lo n:Nat}{l:List (Option Nat)}(s:Sep lo n l)(i:Nat){x:Option Nat}(hx:l[i]? =some x)(h0:0<lo):some 0≠x:=fun e=>by have:=s.low i hx 0 e.symm;omega
theorem Sep.mB{lo n:Nat}{l:List (Option Nat)}(s:Sep lo n l)(j m:Nat){o:Option Nat}{b:Nat}(hb:l[j]? =some (some b))(ho:l[m]? =some o)(h0:0<lo):¬(0=b∨some 0=o):=fun h=>by have:=s.qG j m hb ho 0 h;omega
theorem Sep.set{lo n m:Nat}{l:List (Option Nat)}(s:Sep lo n l)(h:n≤m)(h0:lo≤n)(i:Nat){x y:Option Nat}(hx:l[i]? =some x)(hy:y=x∨y=Option.none ∨∃g,y=some g∧n≤g)(hlt:∀k,y=some k→k<m):Sep lo m (l.set i y):=by
  obtain⟨hi,rfl⟩:=List.getElem?_eq_some_iff.1 hx
  have up:=s.up h
  refine⟨fun z hz k e=> ?_, ?_⟩
  · rcases List.mem_or_eq_of_mem_set hz with hz | rfl
    · exact up.1 z hz k e
    · rcases hy with rfl | rfl | ⟨g, rfl, hg⟩
      · exact up.1 _ (List.getElem_mem hi) k e
      · cases e
      · cases e;exact⟨by omega,hlt _ rfl⟩
  · rw [List.pairwise_iff_getElem]
    intro a b ha hb hab k e e'
    simp only[List.length_set] at ha hb
    rw[List.getElem_set] at e e'
    have old:=List.pairwise_iff_getElem.1 s.2 a b ha hb hab k
    split at e<;>split at e'
    · omega
    · rcases hy with rfl | rfl | ⟨g, rfl, hg⟩
      · subst i;exact old e e'
      · cases e
      · cases e;have:=(s.1 _ (List.getElem_mem (l:=l) (by omega)) _ e').2;omega
    · rcases hy with rfl | rfl | ⟨g, rfl, hg⟩
      · subst i;exact old e e'
      · cases e'
      · cases e';have:=(s.1 _ (List.getElem_mem (l:=l) (by omega)) _ e).2;omega
    · exact old e e'
end Go.aN
namespace Go.Proofs.YtegkejcglfgpmaaGreatDoor
open Go Go.aj Go.aN
theorem Bx(h:Heap):Sat Tryz.prog 52 #[] h fun v h'=>∃b,v= .pointer (some ⟨b,0,none⟩)∧oR h' b none []∧h.size ≤b∧Ext h h':=sk h
theorem kE(h:Heap)(b:Nat)(o:Option Nat)(l bs:List UInt8)(va:Option Addr)(vc:Nat)(hs:oR h b o l)(hr:Row h (.slice va bs.length vc) bs.length 1 (bs.map bv))(hvb:bs=[]∨a6 (.slice va bs.length vc)≠some b)(hb0:0<b)(ho0:o≠some 0)(kt:bl h)(h1:l.length +bs.length ≤1099511627776):
    Sat Tryz.prog 53 #[.pointer (some ⟨b,0,none⟩), .slice va bs.length vc] h fun _ h'=>∃o',oR h' b o' (l++bs)∧(o'=o∨∃g,o'=some g∧h.size ≤g)∧Gr (fun k=>k=b∨some k=o) h h':=by
  have hl:=vU l
  refine(mw h b o _ _ bs _ va vc hs hr hvb hb0 ho0 kt (by omega) h1).mono fun v h' ⟨o',s,e,g⟩=>⟨o', ?_,e,g⟩
  unfold oR
  rw[iF l.length H0 l bs (Nat.le_refl _),lh l.length l bs (Nat.le_refl _),List.length_append]
  exact s
theorem so(h:Heap)(b:Nat)(o:Option Nat)(l bs:List UInt8)(n:Nat)(va:Option Addr)(vc:Nat)(hs:oR h b o l)(hr:Row h (.slice va n vc) n 1 (bs.map bv))(hn:bs.length =n)(hvb:bs=[]∨a6 (.slice va n vc)≠some b)(hb0:0<b)(ho0:o≠some 0)(kt:bl h)(h1:l.length +bs.length ≤1099511627776):
    Sat Tryz.prog 53 #[.pointer (some ⟨b,0,none⟩), .slice va n vc] h fun _ h'=>∃o',oR h' b o' (l++bs)∧(o'=o∨∃g,o'=some g∧h.size ≤g)∧Gr (fun k=>k=b∨some k=o) h h':=by
  subst hn;exact kE h b o l bs va vc hs hr hvb hb0 ho0 kt h1
theorem By(h:Heap)(b:Nat)(o:Option Nat)(l:List UInt8)(hs:oR h b o l)(kt:bl h)(h1:l.length ≤1099511627776):
    Sat Tryz.prog 54 #[.pointer (some ⟨b,0,none⟩)] h fun v h'=>v=hv (sha l)∧Ext h h':=by
  have hl:=vU l
  exact(sn h b o _ _ _ hs kt (by omega) h1).mono fun v h' ⟨e,g⟩=>⟨e.trans (by rw[si]),g⟩
end Go.Proofs.YtegkejcglfgpmaaGreatDoor
namespace Go.aN
open Go Go.aj
theorem Sep.nw{lo:Nat}{h h':Heap}{l:List (Option Nat)}{o:Obj}(s:Sep lo h.size l)(h0:lo≤h.size)(m:h'[h.size]? =some o):Sep lo h'.size (some h.size ::l):=s.new h0 (ak m)
theorem Sep.l{lo n:Nat}{l:List (Option Nat)}(s:Sep lo n l)(i:Nat){x:Option Nat}(hx:l[i]? =some x:=by rfl):∀k,x=some k→lo≤k:=s.low i hx
theorem Sep.co{lo:Nat}{h h':Heap}{l:List (Option Nat)}{ad:Option Addr}{n c m sz:Nat}{E:TypeId}{xs:List Value}(s:Sep lo h.size l)(g:Ext h h')(hge:∀k,ad.map (fun(x:Addr)=>x.block)=some k→h.size ≤k)(w:Own h' (.slice ad n c) E m sz xs)(h0:lo≤h.size):Sep lo h'.size (ad.map (fun(x:Addr)=>x.block)::l):=
  s.cons g.size h0 fun k e=>⟨hge k e,w.lt (by rw[af];exact e)⟩
theorem Sep.sa{lo:Nat}{h h':Heap}{l:List (Option Nat)}{a ad:Option Addr}{o:Option Nat}{n c m sz:Nat}{E:TypeId}{xs:List Value}(s:Sep lo h.size l)(g:Grew o h h')(i:Nat)(hb:ad.map (fun(x:Addr)=>x.block)=a.map (fun(x:Addr)=>x.block)∨ad.map (fun(x:Addr)=>x.block)=some h.size)(w:Own h' (.slice ad n c) E m sz xs)(h0:lo≤h.size)(hx:l[i]? =some (a.map (fun(x:Addr)=>x.block)):=by rfl):Sep lo h'.size (l.set i (ad.map (fun(x:Addr)=>x.block))):=
  s.set g.1 h0 i hx (hb.imp id fun e=> .inr ⟨_,e,Nat.le_refl _⟩) fun k e=>w.lt (by rw[af];exact e)
abbrev Sl:=Option Addr×Nat×List UInt8
def SV(t:Sl):Value:= .slice t.1 t.2.2.length t.2.1
def Rws(h:Heap)(va:Option Addr)(vc:Nat)(sl:List Sl):Prop:=
  Row h (.slice va sl.length vc) sl.length 1 (sl.map SV)∧∀t∈sl,Row h (.slice t.1 t.2.2.length t.2.1) t.2.2.length 1 (t.2.2.map bv)∧(t.2.2 =[]∨∀k,a6 (.slice t.1 t.2.2.length t.2.1)=some k→k<h.size)
def flat(sl:List Sl):List UInt8:=sl.flatMap (·.2.2)
end Go.aN
end
section
namespace Go.Proofs.YtegkejcglfgpmaaGreatDoor.sq
theorem one_le{H:Type}(d:DataW H):1≤Rows.uptoBulk d:=by
  cases d with
  |lit l=>cases l<;>simp[Rows.uptoBulk]
  |nil=>simp[Rows.uptoBulk]
  |ptr d=>simp[Rows.uptoBulk]
  |slice elems spare=>simp[Rows.uptoBulk]
  |agg parts=>simp[Rows.uptoBulk]
  |iface t d=>simp[Rows.uptoBulk]
  |map entries=>simp[Rows.uptoBulk]
  |held h=>simp[Rows.uptoBulk]
theorem length_le{H:Type}(l:List (DataW H)):l.length ≤Rows.uptoBulkAll l:=by
  induction l with
  |nil=>simp[Rows.uptoBulkAll]
  |cons x r ih=>have:=one_le x;simp only[Rows.uptoBulkAll,List.length_cons];omega
theorem oS{H:Type}(elems spare:List (DataW H)):elems.length +spare.length +1≤Rows.uptoBulk (.slice elems spare):=by
  have h1:=length_le elems
  have h2:=length_le spare
  simp only[Rows.uptoBulk]
  omega
theorem bound{H:Type}{l:List (DataW H)}(hk:Rows.uptoSmall H l=true):Rows.uptoBulkAll l≤1048576:=by
  simpa[Rows.uptoSmall] using hk
end Go.Proofs.YtegkejcglfgpmaaGreatDoor.sq
end
section
namespace Go.Proofs.YtegkejcglfgpmaaGreatDoor
open Go.ChangeShapes Go.WideShapes Go.ChangeAt Go.RowKit
theorem own:ownKnob Tryz.prog.godebug =none:=by kernel_rfl
theorem gTab:Tryz.prog.globalNamed "muniment/sha.k" =some 0:=by kernel_rfl
theorem vV:(Tryz.prog.globals[0]?).map (·.type)=some 173:=by kernel_rfl
theorem vW:Tryz.prog.cellsOf 173=64:=by kernel_rfl
theorem tM:Tryz.prog.cellsOf 143=1:=by kernel_rfl
theorem laidOut:laidOutB Tryz.prog =true:=by kernel_rfl
theorem CG:Tryz.prog.underlying 173=some (.array 64 143):=by kernel_rfl
theorem zE:Tryz.prog.underlying 143=some (.int .u32):=by kernel_rfl
theorem zF{W:World}(h:laidMetH Tryz.prog [("muniment/sha.k",Rows.laid_muniment_sha_k)] W):aN.bl W.heap :=by
  have t:Lib.TabIs Tryz.prog W "muniment/sha.k" .u32 (aN.fw.map fun x=>(x.toNat :Int)):=
    Lib.tabIs_of_head (rest:=[]) gTab vV CG zE tM vW h
  intro j hj
  have hl:j<aN.fw.length :=hj
  rw[←aj.dZ rfl,t.cell gTab j (by rw[List.length_map];exact hl)]
  simp[List.getD,hl,aN.wv]
theorem vX{W W':World}(s:aj.Same W W')(e:aj.Ext W.heap W'.heap):Below W.heap.size W W':=
  ⟨s.os,s.tape,s.output,e.size,fun k hk=>e.get k hk (by simp)⟩
section
variable {H:Type} {enc:TypeId×Value→H}
theorem iw{P:Program}(hl:laidOutB P=true){W W':World}{sp:Nat→Bool}(hb:Below W.heap.size W W'):∀{ts:List TypeId} {vs:List Value} {ds:List (DataW H)} {ps:List MemPlace},
    (∀t∈ts,P.readableRec t=true∧t<P.types.size)→DataW.TrodAll enc P W 0 (fun _=>true) true ts vs ds ps→(∀x∈ps,x.block <W.heap.size)→(∀x∈ps,sp x.block =true)→DataW.TrodAll enc P W' 0 sp true ts vs ds ps
  | [], vs, ds, ps, _, h, _, _ => by
    obtain⟨rfl,rfl,rfl⟩:=trodAll_nil h
    rfl
  | t :: ts, vs, ds, ps, ht, h, hlt, hs => by
    obtain⟨v,vs1,d,ds1,p,q,rfl,rfl,rfl,h1,h2⟩:=trodAll_cons h
    have ht0:=ht t (List.mem_cons_self ..)
    exact trodAll_cons_mk (WideElems.Trod_stays hl ht0.1 ht0.2 h1 (fun x hx=>hb.same (hlt x (List.mem_append_left _ hx))) (fun x hx=>hs x (List.mem_append_left _ hx)))<|iw hl hb (fun t h=>ht t (List.mem_cons_of_mem _ h)) h2 (fun x hx=>hlt x (List.mem_append_right _ hx)) (fun x hx=>hs x (List.mem_append_right _ hx))
theorem vY{P:Program}{f:Func}{s:ChangeSpec}{W W':World}{args:Array Value}{ds gs:List (DataW H)}{before:List MemPlace}{tb:TypeId}
    (hl:laidOutB P=true) (hres:f.resultTypes = #[tb]) (htb:P.underlying tb=some .bool) (hts:∀t∈f.params.toList,P.readableRec t=true∧t<P.types.size) (hv:s.vars =[])
    (h1:(s.fn H (ds++gs)).results =[.lit (.bool true)]) (h2:(s.fn H (ds++gs)).args =ds) (h3:(s.fn H (ds++gs)).vars =[])
    (hW:DataW.Whole enc P f.params.toList s.vars false W args.toList ds gs before) (hb:Below W.heap.size W W'):s.post enc P f false true false false W args (.bool true) W':=by
  have hlt:∀x∈before,x.block <W.heap.size :=hW.lt
  have hW0:=hW
  obtain⟨p,q,hA,hV,rfl,_,_⟩:=hW
  rw[hv] at hV
  obtain⟨rfl,rfl⟩:=trodVars_none hV
  have hr:∀(b:Nat) (sp:Nat→Bool) (hd:Bool),DataW.TrodAll enc P W' b sp hd f.resultTypes.toList ((Value.bool true).resultList f.resultTypes.size) (s.fn H (ds++[])).results []:=by
    intro b sp hd
    rw[hres,h1]
    exact trodAll_cons_mk (shut_bool htb true) trodAll_mk0
  refine⟨ds,[],_,[],p,[],hW0,hr _ _ _, ?_, ?_,hb.frame _,fun h=>by cases h⟩
  · rw [h2]
    exact iw hl hb hts hA (fun x hx=>hlt x (List.mem_append_left _ hx)) (fun x hx=>by simpa using hlt x (List.mem_append_left _ hx))
  · rw[hv,h3];rfl
end
def BR(h:aj.Heap)(s:aN.Sl):Prop:=aj.Row h (.slice s.1 s.2.2.length s.2.1) s.2.2.length 1 (s.2.2.map aN.bv)∧(s.2.2 =[]∨∀k,aj.a6 (.slice s.1 s.2.2.length s.2.1)=some k→k<h.size)
theorem Ez{n:Int}(hw:(Lit.int .u8 n).wf =true):Value.int .u8 n=aN.bv (UInt8.ofNat n.toNat):=by
  simp only[Lit.wf,Bool.and_eq_true,decide_eq_true_eq] at hw
  have h0:(0:Int)≤n∧n≤255:=by simpa[IntKind.min,IntKind.max,IntKind.signed,IntKind.bits] using hw
  unfold aN.bv
  congr 1
  rw[UInt8.toNat_ofNat',Nat.mod_eq_of_lt (by omega)]
  omega
section
variable {H:Type} {enc:TypeId×Value→H}
theorem open_bytes {P : Program} {W : World} {t e : TypeId} {fuel : Nat} {cs : List Value} {x : DataW H × List MemPlace} (ht : P.underlying t = some (.slice e)) (he : P.underlying e = some (.int .u8)) (hc : P.cellsOf e = 1)
    (h:DataW.trod enc P W 0 (fun _=>true) true fuel t cs=some x):∃s:aN.Sl,cs=[.slice s.1 s.2.2.length s.2.1]∧BR W.heap s∧s.2.2.length +1≤Rows.uptoBulk x.1 :=by
  rcases open_ints ht he hc h with⟨rfl,rfl⟩|⟨a,len,cap,zs,rfl,_,hle,_,hzl,rfl,hcell,hwf⟩
  · exact⟨(none,0,[]),rfl,⟨aj.Row.nil W.heap 1, .inl rfl⟩,by simp[Rows.uptoBulk]⟩
  · have Mq : zs.length = cap := hzl
    have hlen:((zs.take len).map fun z:Int=>UInt8.ofNat z.toNat).length =len:=by simp;omega
    refine⟨(some a,cap,(zs.take len).map fun z:Int=>UInt8.ofNat z.toNat),by rw[hlen],⟨⟨by simp, .inr ⟨a,cap,rfl,by rw[hlen];exact hle,fun j u hu=> ?_⟩⟩, ?_⟩, ?_⟩
    · rw [List.getElem?_map, List.getElem?_map] at hu
      have hj:j<len:=by
        apply Nat.lt_of_not_le
        intro hh
        rw[List.getElem?_eq_none (by simp;omega)] at hu
        cases hu
      have hjz:j<zs.length :=by omega
      rw[List.getElem?_take_of_lt hj,List.getElem?_eq_getElem hjz] at hu
      simp only[Option.map_some,Option.some.injEq] at hu
      subst hu
      rw[←Ez (hwf _ (List.getElem_mem hjz)), ←aj.dZ rfl,hcell j hjz]
      simp[List.getD,hjz]
    · by_cases h0 : len = 0
      · left;subst h0;simp
      · right
        intro k hk
        have:=hcell 0 (by omega)
        rw[aj.dZ rfl] at this
        have:=aj.fX this
        rw[aj.add_block] at this
        simp only[aj.a6,Option.some.injEq] at hk
        omega
    · have := sq.oS (H := H) (lits .u8 (zs.take len)) (lits .u8 (zs.drop len))
      simp only[lits,List.length_map] at this
      simp only[lits]
      have h2:(zs.take len).length =len:=by simp;omega
      have h3:((zs.take len).map fun z:Int=>UInt8.ofNat z.toNat).length =len:=hlen
      show((zs.take len).map fun z:Int=>UInt8.ofNat z.toNat).length +1≤_
      rw[h3]
      omega
end
end Go.Proofs.YtegkejcglfgpmaaGreatDoor
end
section
namespace Go.Proofs
open Go.Shelf
def Tryz.sortL_ren :Go.Shelf.Ren :=⟨fun|6=>73|15=>90|14=>110|28=>117|29=>118|20=>125|21=>126|22=>127|23=>128|24=>129|25=>130|26=>131|27=>132|46=>141|47=>142|48=>143|49=>144|50=>145|57=>147|n=>n,fun|22=>42|24=>9|25=>132|3=>3|39=>142|0=>0|53=>143|55=>147|4=>4|46=>185|45=>184|50=>136|5=>5|9=>9|66=>195|70=>199|76=>201|77=>202|n=>n,fun|n=>n⟩
theorem Tryz.sortL :Go.Proofs.SlLaysF.n6 Tryz.prog Tryz.sortL_ren :={
  mixed:=by kernel_rfl
  f6:=⟨Tryz.f73.name,by decide,Tryz.func73.trans (congrArg some (by kernel_rfl))⟩
  f14:=⟨Tryz.f110.name,by decide,Tryz.func110.trans (congrArg some (by kernel_rfl))⟩
  f15:=Tryz.func90.trans (congrArg some (by kernel_rfl))
  f20:=⟨Tryz.f125.name,by decide,Tryz.func125.trans (congrArg some (by kernel_rfl))⟩
  f21:=⟨Tryz.f126.name,by decide,Tryz.func126.trans (congrArg some (by kernel_rfl))⟩
  f22:=⟨Tryz.f127.name,by decide,Tryz.func127.trans (congrArg some (by kernel_rfl))⟩
  f23:=⟨Tryz.f128.name,by decide,Tryz.func128.trans (congrArg some (by kernel_rfl))⟩
  f24:=⟨Tryz.f129.name,by decide,Tryz.func129.trans (congrArg some (by kernel_rfl))⟩
  f25:=⟨Tryz.f130.name,by decide,Tryz.func130.trans (congrArg some (by kernel_rfl))⟩
  f26:=⟨Tryz.f131.name,by decide,Tryz.func131.trans (congrArg some (by kernel_rfl))⟩
  f27:=⟨Tryz.f132.name,by decide,Tryz.func132.trans (congrArg some (by kernel_rfl))⟩
  f28:=Tryz.func117.trans (congrArg some (by kernel_rfl))
  f29:=Tryz.func118.trans (congrArg some (by kernel_rfl))
  f46:=⟨Tryz.f141.name,by decide,Tryz.func141.trans (congrArg some (by kernel_rfl))⟩
  f47:=Tryz.func142.trans (congrArg some (by kernel_rfl))
  f48:=Tryz.func143.trans (congrArg some (by kernel_rfl))
  f49:=⟨Tryz.f144.name,by decide,Tryz.func144.trans (congrArg some (by kernel_rfl))⟩
  f50:=⟨Tryz.f145.name,by decide,Tryz.func145.trans (congrArg some (by kernel_rfl))⟩
  f57:=⟨Tryz.f147.name,by decide,Tryz.func147.trans (congrArg some (by kernel_rfl))⟩
  t0:=Tryz.underlying0
  a0:=Tryz.isAgg0
  z0:=Tryz.sizeOf0
  v0:=Tryz.zeroValue0
  t3:=Tryz.underlying3
  a3:=Tryz.isAgg3
  z3:=Tryz.sizeOf3
  v3:=Tryz.zeroValue3
  t4:=Tryz.underlying4
  a4:=Tryz.isAgg4
  z4:=Tryz.sizeOf4
  v4:=Tryz.zeroValue4
  t5:=Tryz.underlying5
  a5:=Tryz.isAgg5
  z5:=Tryz.sizeOf5
  v5:=Tryz.zeroValue5
  t9:=Tryz.underlying9
  a9:=Tryz.isAgg9
  z9:=Tryz.sizeOf9
  v9:=Tryz.zeroValue9
  t22:=Tryz.underlying42
  a22:=Tryz.isAgg42
  z22:=Tryz.sizeOf42
  v22:=Tryz.zeroValue42
  a24:=Tryz.isAgg9
  z24:=Tryz.sizeOf9
  t25:=Tryz.underlying132
  a25:=Tryz.isAgg132
  z25:=Tryz.sizeOf132
  v25:=Tryz.zeroValue132
  t39:=Tryz.underlying142
  a39:=Tryz.isAgg142
  z39:=Tryz.sizeOf142
  v39:=Tryz.zeroValue142
  t45:=Tryz.underlying184
  a45:=Tryz.isAgg184
  z45:=Tryz.sizeOf184
  v45:=Tryz.zeroValue184
  t46:=Tryz.underlying185
  a46:=Tryz.isAgg185
  z46:=Tryz.sizeOf185
  v46:=Tryz.zeroValue185
  t50:=Tryz.underlying136
  a50:=Tryz.isAgg136
  z50:=Tryz.sizeOf136
  v50:=Tryz.zeroValue136
  t53:=Tryz.underlying143
  a53:=Tryz.isAgg143
  z53:=Tryz.sizeOf143
  v53:=Tryz.zeroValue143
  t55:=Tryz.underlying147
  a55:=Tryz.isAgg147
  z55:=Tryz.sizeOf147
  v55:=Tryz.zeroValue147
  t66:=Tryz.underlying195
  a66:=Tryz.isAgg195
  z66:=Tryz.sizeOf195
  v66:=Tryz.zeroValue195
  t70:=Tryz.underlying199
  a70:=Tryz.isAgg199
  z70:=Tryz.sizeOf199
  v70:=Tryz.zeroValue199
  t76:=Tryz.underlying201
  a76:=Tryz.isAgg201
  z76:=Tryz.sizeOf201
  v76:=Tryz.zeroValue201
  t77:=Tryz.underlying202
  a77:=Tryz.isAgg202
  z77:=Tryz.sizeOf202
  v77:=Tryz.zeroValue202 }
def Tryz.vZ :Go.Shelf.Ren :=⟨fun|106=>74|213=>111|265=>133|n=>n,fun|9=>9|3=>3|n=>n,fun|n=>n⟩
theorem Tryz.cmpL :Go.Proofs.Lays.n106 Tryz.prog Tryz.vZ :={
  mixed:=by kernel_rfl
  f106:=Tryz.func74.trans (congrArg some (by kernel_rfl))
  f213:=Tryz.func111.trans (congrArg some (by kernel_rfl))
  f265:=Tryz.func133.trans (congrArg some (by kernel_rfl))
  t3:=Tryz.underlying3
  a3:=Tryz.isAgg3
  z3:=Tryz.sizeOf3
  v3:=Tryz.zeroValue3
  t9:=Tryz.underlying9
  a9:=Tryz.isAgg9
  z9:=Tryz.sizeOf9
  v9:=Tryz.zeroValue9 }
end Go.Proofs
end
