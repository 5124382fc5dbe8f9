/- The walks and the plain laws, part 1: Lane, ShaMath, HashEq, ShaA, ShaB, ShaC, ShaD, ShaE, StL, Args, Bulk, End, Read, Shelf. Conditions: those that each theorem names. -/
import Derived.Test.YtegkejcglfgpmaaGreatDoorCards
import Derived.Test.YtegkejcglfgpmaaGreatDoorTie
import Derived.Orders
import Derived.Below
import Derived.KernelRfl
import Derived.Laws.AppendOwn
import Derived.LoopN
import Derived.Laws.Cells
import Derived.Test.YtegkejcglfgpmaaGreatDoorRows
import Derived.WalkKit
import Derived.ProofKit
import Derived.OpenShut
import Derived.Deep.DeepHandedRow
import Derived.Deep.Slices
import Derived.Lib.LaidTab
import Derived.Carry
import Derived.Shelf.SlSortCmp.NoneTotal
import Derived.Shelf.Small.Strs
import Derived.Test.YtegkejcglfgpmaaGreatDoorProg
import Derived.Laws.IdiomRangeMap
import Derived.Maps.RangeRun
import Derived.Lib.Bytealg
import Derived.Laws.BytesString
import Derived.Lib.AppendStr
import Derived.ChangeShapes
import Derived.Lib.ConvBytes
section
namespace Go.ai
open Go
abbrev Heap:=Array Obj
structure Same(w w':World):Prop where
  os:w'.os =w.os
  tape:w'.tape =w.tape
  output:w'.output =w.output
theorem Same.refl(w:World):Same w w:=⟨rfl,rfl,rfl⟩
theorem Same.trans{a b c:World}(h:Same a b)(k:Same b c):Same a c:=⟨k.os.trans h.os,k.tape.trans h.tape,k.output.trans h.output⟩
def Sat(P:Program)(f:FuncId)(args:Array Value)(h:Heap)(R:Value→Heap→Prop):Prop:=
  ∀w:World,w.heap =h→Calls P f args w fun e w'=>∃v,e= .returned v∧Same w w'∧R v w'.heap
theorem Sat.mono{P:Program}{f:FuncId}{args:Array Value}{h:Heap}{R R':Value→Heap→Prop}(s:Sat P f args h R)(hr:∀v h',R v h'→R' v h'):Sat P f args h R':=
  fun w hw=>(s w hw).mono fun _ _ ⟨v,e,sm,r⟩=>⟨v,e,sm,hr _ _ r⟩
def lk : List (Nat × Value) → Nat → Value → Value
  |[],_,d=>d
  | (k, v) :: r, i, d => match Nat.beq k i with
    |true=>v
    |false=>lk r i d
structure Fr(a:Act)(n:Nat)(L:List (Nat×Value)):Prop where
  defers:a.defers =[]
  size:a.tmps.size =n
  get:∀t,a.tmps.getD t undef=lk L t (a.tmps.getD t undef)
def ev(base:Nat→Value):Operand→Value
  | .tmp t=>base t
  | .const v=>v
  | .global g=> .pointer (some ⟨g,0,none⟩)
  | .func f=> .func (.func f) #[] #[]
def dst(ops:Array Oper)(i:Nat):Option Tmp:=(ops[i]?).bind (·.dst)
def df (p : Nat → Bool) : Nat → Option Nat
  |0=>none
  | k + 1 => match p k with
    |true=>some k
    |false=>df p k
theorem dN{p:Nat→Bool}:∀{k i:Nat},df p k=some i→i<k∧p i=true∧∀j,i<j→j<k→p j=false
  |0,_,h=>by simp[df] at h
  | k + 1, i, h => by
    unfold df at h
    split at h
    · rename_i hp
      obtain rfl:k=i:=by simpa using h
      exact⟨by omega,hp,fun j h1 h2=>by omega⟩
    · rename_i hp
      obtain⟨h1,h2,h3⟩:=dN h
      refine⟨by omega,h2,fun j h4 h5=> ?_⟩
      by_cases e:j=k
      · subst e;exact hp
      · exact h3 j h4 (by omega)
theorem lB{p:Nat→Bool}:∀{k:Nat},df p k=none→∀j,j<k→p j=false
  |0,_,j,hj=>by omega
  | k + 1, h, j, hj => by
    unfold df at h
    split at h
    · simp at h
    · rename_i hp
      by_cases e:j=k
      · subst e;exact hp
      · exact lB h j (by omega)
theorem mS{p:Nat→Bool}{k i:Nat}(h1:i<k)(h2:p i=true)(h3:∀j,i<j→j<k→p j=false):df p k=some i:=by
  cases h:df p k with
  |none=>have:=lB h i h1;simp[h2] at this
  | some j =>
    obtain⟨a,b,c⟩:=dN h
    rcases Nat.lt_trichotomy i j with hl|he|hl
    · have:=h3 j hl a;simp[b] at this
    · rw[he]
    · have:=c i hl h1;simp[h2] at this
theorem fF{p:Nat→Bool}{k:Nat}(h:∀j,j<k→p j=false):df p k=none:=by
  cases e:df p k with
  |none=>rfl
  |some j=>obtain⟨a,b,_⟩:=dN e;have:=h j a;simp[b] at this
abbrev aQ:=Nat→Value
def aS(vals:aQ)(i:Nat)(v:Value):aQ:=fun k=>match Nat.beq k i with|true=>v|false=>vals k
theorem h_(vals:aQ)(i:Nat)(v:Value):aS vals i v i=v:=by simp[aS]
theorem jh{vals:aQ}{i k:Nat}{v:Value}(h:k≠i):aS vals i v k=vals k:=by
  have:Nat.beq k i=false:=by
    cases e:Nat.beq k i with
    |false=>rfl
    |true=>exact absurd (Nat.eq_of_beq_eq_true e) h
  simp[aS,this]
def cE(ops:Array Oper)(base:Nat→Value)(vals:aQ)(j t:Nat):Value:=
  match df (fun i=>dst ops i==some t) j with
  |some i=>vals i
  |none=>base t
def dC(ops:Array Oper)(base:Nat→Value)(vals:aQ)(s:Nat→Bool)(t:Nat):Value:=
  match df (fun i=>s i&&dst ops i==some t) ops.size with
  |some i=>vals i
  |none=>base t
def env(ops:Array Oper)(base:Nat→Value)(vals:aQ)(j:Nat):Operand→Value:=ev (cE ops base vals j)
def cj (ops : Array Oper) (e : Operand → Value) (o : Oper) : Bool :=
  match o.guard with
  |none=>true
  | some (g, want) => (match dst ops g with
    |some t=>(match e (.tmp t) with| .bool b=>some b|_=>none)
    |none=>none)==some want
def mT (P : Program) (e : Operand → Value) (o : Oper) (h : Heap) (R : Value → Heap → Prop) : Prop :=
  ∀ w : World, w.heap = h → match (execOp e o).run P w with
    | .ok (.value v) w'=>Same w w'∧R v w'.heap
    | .ok .skip w'=>Same w w'∧R undef w'.heap
    | .ok (.enter f args) w'=>Same w w'∧Sat P f args w'.heap R
    |_=>False
def AL(P:Program)(e:Operand→Value)(o:Oper)(h:Heap)(v:Value):Prop:=mT P e o h fun v' h'=>v'=v∧h'=h
def Good (P : Program) (ops : Array Oper) (base : Nat → Value) (vals : aQ) (h : Heap) (j : Nat) : Prop :=
  ∃ o, ops[j]? = some o ∧ ((cj ops (env ops base vals j) o = true ∧ AL P (env ops base vals j) o h (vals j)) ∨
    (cj ops (env ops base vals j) o=false∧vals j=undef))
def fW(A:List Nat)(j:Nat):Nat:=A.getD j 0
def oo(A:List Nat)(j:Nat)(o:Oper):Bool:=
  let es:=o.after.toList.filter fun e=>Region.binds .any e
  es.all (fun e=>Nat.blt e.on j)&&
  (let u:=es.foldl (fun m e=>m|||2^e.on |||fW A e.on) 0
   fW A j==u)
def oq(ops:Array Oper)(A:List Nat)(j:Nat)(oj:Oper):Nat→List Oper→Bool
  |_,[]=>true
  |i,oi::r=>(Nat.ble j i||oi.apart ops oj||(fW A j).testBit i)&&oq ops A j oj (i+1) r
def sX(ops:Array Oper)(A:List Nat)(n:Nat):Nat→List Oper→Bool
  |_,[]=>true
  |j,o::r=>oo A j o&&oq ops A j o 0 ops.toList &&(match o.dst with|some d=>Nat.blt d n|none=>true)&&
      (match o.op with| .select .. =>false|_=>true)&&sX ops A n (j+1) r
def eC(ops:Array Oper)(A:List Nat)(n:Nat):Bool:=sX ops A n 0 ops.toList
structure AM(ops:Array Oper)(A:List Nat)(n:Nat)(j:Nat)(o:Oper):Prop where
  edge:∀e∈o.after,Region.binds .any e=true→e.on <j
  up:∀i,(fW A j).testBit i=true→∃e∈o.after,Region.binds .any e=true∧(e.on =i∨(fW A e.on).testBit i=true)
  has:∀e∈o.after,Region.binds .any e=true→(fW A j).testBit e.on =true
  pair:∀i oi,ops[i]? =some oi→i<j→oi.apart ops o=true∨(fW A j).testBit i=true
  dst:∀d,o.dst =some d→d<n
  sel:∀cs b,o.op ≠ .select cs b
theorem ji(A:List Nat)(i:Nat):∀(es:List Edge) (m:Nat),
    (es.foldl (fun m e=>m|||2^e.on |||fW A e.on) m).testBit i=true→m.testBit i=true∨∃e∈es,e.on =i∨(fW A e.on).testBit i=true
  |[],m,h=> .inl h
  | e :: es, m, h => by
    rcases ji A i es _ h with h|⟨e',he,h⟩
    · simp only [Nat.testBit_or, Nat.testBit_two_pow, Bool.or_eq_true, decide_eq_true_eq] at h
      rcases h with(h|h)|h
      · exact .inl h
      · exact .inr ⟨e,List.mem_cons_self, .inl h⟩
      · exact .inr ⟨e,List.mem_cons_self, .inr h⟩
    · exact .inr ⟨e',List.mem_cons_of_mem _ he,h⟩
theorem gE(A:List Nat)(i:Nat):∀(es:List Edge) (m:Nat),m.testBit i=true→(es.foldl (fun m e=>m|||2^e.on |||fW A e.on) m).testBit i=true
  |[],_,h=>h
  |_::es,_,h=>gE A i es _ (by simp[Nat.testBit_or,h])
theorem jj(A:List Nat):∀(es:List Edge) (m:Nat) (e:Edge),e∈es→(es.foldl (fun m e=>m|||2^e.on |||fW A e.on) m).testBit e.on =true
  | e' :: es, m, e, h => by
    rcases List.mem_cons.1 h with h|h
    · subst h;exact gE A e.on es _ (by simp[Nat.testBit_or])
    · exact jj A es _ e h
theorem ot{A:List Nat}{j:Nat}{o:Oper}(h:oo A j o=true):
    (∀e∈o.after,Region.binds .any e=true→e.on <j)∧
    (∀i,(fW A j).testBit i=true→∃e∈o.after,Region.binds .any e=true∧(e.on =i∨(fW A e.on).testBit i=true))∧
    (∀e∈o.after,Region.binds .any e=true→(fW A j).testBit e.on =true):=by
  simp only[oo,Bool.and_eq_true,beq_iff_eq] at h
  obtain⟨h1,h2⟩:=h
  refine⟨?_, ?_,fun e he hb=>by rw[h2];exact jj A _ 0 e (List.mem_filter.2 ⟨by simpa using he,hb⟩)⟩
  · intro e he hb
    have:=List.all_eq_true.1 h1 e (List.mem_filter.2 ⟨by simpa using he,hb⟩)
    simpa using this
  · intro i hi
    have h3:=hi
    rw[h2] at h3
    rcases ji A i _ _ h3 with h3|⟨e,he,h3⟩
    · simp at h3
    · obtain ⟨h4, h5⟩ := List.mem_filter.1 he
      exact⟨e,by simpa using h4,h5,h3⟩
theorem kF{ops:Array Oper}{A:List Nat}{j:Nat}{oj:Oper}:∀{l:List Oper} {k:Nat},(∀i,l[i]? =ops[k+i]?)→oq ops A j oj k l=true→
    ∀i oi,k≤i→ops[i]? =some oi→i<j→oi.apart ops oj=true∨(fW A j).testBit i=true
  | [], k, hl, _, i, oi, hk, hi, _ => by
    have:=hl (i - k);rw[show k+(i - k)=i by omega,hi] at this;simp at this
  | o :: l, k, hl, h, i, oi, hk, hi, hij => by
    simp only[oq,Bool.and_eq_true] at h
    by_cases e:i=k
    · subst e
      have h0:some o=ops[i]? :=by simpa using hl 0
      rw[hi] at h0
      obtain rfl:o=oi:=Option.some.inj h0
      have h1:=h.1
      simp only[Bool.or_eq_true,Nat.ble_eq] at h1
      rcases h1 with(h1|h1)|h1
      · omega
      · exact .inl h1
      · exact .inr h1
    · exact kF (l:=l) (k:=k+1) (fun q=>by have:=hl (q+1);simpa[Nat.add_assoc,Nat.add_comm 1 q] using this) h.2 i oi (by omega) hi hij
theorem lC{ops:Array Oper}{A:List Nat}{n:Nat}:∀{l:List Oper} {k:Nat},(∀i,l[i]? =ops[k+i]?)→sX ops A n k l=true→
    ∀j o,k≤j→ops[j]? =some o→AM ops A n j o
  | [], k, hl, _, i, oi, hk, hi => by
    have:=hl (i - k);rw[show k+(i - k)=i by omega,hi] at this;simp at this
  | o :: l, k, hl, h, j, oj, hk, hj => by
    simp only[sX,Bool.and_eq_true] at h
    obtain⟨⟨⟨⟨h1,h2⟩,h3⟩,h4⟩,h5⟩:=h
    by_cases e:j=k
    · subst e
      have h0:some o=ops[j]? :=by simpa using hl 0
      rw[hj] at h0
      obtain rfl:o=oj:=Option.some.inj h0
      obtain⟨e1,e2,e3⟩:=ot h1
      refine⟨e1,e2,e3,fun i oi hi hij=>kF (l:=ops.toList) (k:=0) (fun q=>by simp) h2 i oi (by omega) hi hij,fun d hd=> ?_,fun cs b hs=> ?_⟩
      · rw[hd] at h3;simpa using h3
      · rw[hs] at h4;simp at h4
    · exact lC (l:=l) (k:=k+1) (fun q=>by have:=hl (q+1);simpa[Nat.add_assoc,Nat.add_comm 1 q] using this) h5 j oj (by omega) hj
theorem cd{ops:Array Oper}{A:List Nat}{n:Nat}(h:eC ops A n=true){j:Nat}{o:Oper}(ho:ops[j]? =some o):AM ops A n j o:=
  lC (l:=ops.toList) (k:=0) (fun i=>by simp) h j o (by omega) ho
end Go.ai
namespace Go.ai
open Go
theorem ib{p q:Nat→Bool}:∀{k:Nat},(∀i,i<k→p i=q i)→df p k=df q k
  |0,_=>rfl
  | k + 1, h => by
    unfold df
    rw[h k (by omega),ib (k:=k) fun i hi=>h i (by omega)]
theorem ni{p:Nat→Bool}{j:Nat}:∀{k:Nat},j≤k→(∀i,j≤i→i<k→p i=false)→df p k=df p j
  | 0, hj, _ => by obtain rfl : j = 0 := by omega
                   rfl
  | k + 1, hj, h => by
    by_cases e:j=k+1
    · rw[e]
    · conv => lhs; unfold df
      rw[h k (by omega) (by omega)]
      exact ni (k:=k) (by omega) fun i h1 h2=>h i h1 (by omega)
section
variable {P:Program} {ops:Array Oper} {A:List Nat} {n:Nat} {base:Nat→Value}
abbrev jk(listed:Array Bool)(i:Nat):Bool:=listed.getD i false
def dK(ops:Array Oper)(L:Nat→Bool):Prop:=∀j o,ops[j]? =some o→L j=true→∀e∈o.after,Region.binds .any e=true→L e.on =true
theorem eh(hok:eC ops A n=true){L:Nat→Bool}(hc:dK ops L):∀(m j:Nat) (o:Oper),j≤m→ops[j]? =some o→
    (∀e∈o.after,Region.binds .any e=true→L e.on =true)→∀i,(fW A j).testBit i=true→L i=true
  | m, j, o, hm, ho, hp, i, hi => by
    obtain⟨e,he,hb,h⟩:=(cd hok ho).up i hi
    have hlt:=(cd hok ho).edge e he hb
    rcases h with h|h
    · exact h▸hp e he hb
    · have hj := (Array.getElem?_eq_some_iff.1 ho).1
      obtain⟨oe,hoe⟩:∃oe,ops[e.on]? =some oe:=⟨_,Array.getElem?_eq_getElem (by omega)⟩
      match m,hm with
      |0,hm=>omega
      |m+1,hm=>exact eh hok hc m e.on oe (by omega) hoe (fun e' he' hb'=>hc e.on oe hoe (hp e he hb) e' he' hb') i h
theorem dx{x y:Oper}{d:Nat}(hx:x.dst =some d)(hy:d∈y.looksAt ops):x.apart ops y=false:=by
  cases h:x.apart ops y with
  |false=>rfl
  |true=>exact absurd hy ((Oper.apart_spec h).1 d hx)
theorem fu{x y:Oper}{d:Nat}(hx:y.dst =some d)(hy:d∈x.looksAt ops):x.apart ops y=false:=by
  cases h:x.apart ops y with
  |false=>rfl
  |true=>exact absurd hy ((Oper.apart_spec h).2.2 d hx)
theorem fg{x y:Oper}{d:Nat}(hx:x.dst =some d)(hy:y.dst =some d):x.apart ops y=false:=by
  cases h:x.apart ops y with
  |false=>rfl
  |true=>exact absurd hy ((Oper.apart_spec h).2.1 d hx)
theorem qO{i:Nat}{o:Oper}(ho:ops[i]? =some o):dst ops i=o.dst :=by simp[dst,ho]
theorem ie{i t:Nat}(h:(dst ops i==some t)=true):∃o,ops[i]? =some o∧o.dst =some t:=by
  simp only[beq_iff_eq] at h
  unfold dst at h
  cases ho:ops[i]? with
  |none=>simp[ho] at h
  |some o=>exact⟨o,rfl,by simpa[ho] using h⟩
theorem lD (hok : eC ops A n = true) {vals : aQ} {L : Nat → Bool} (hc : dK ops L) {j : Nat} {o : Oper} (ho : ops[j]? = some o) (hn : L j = false)
    (hp:∀e∈o.after,Region.binds .any e=true→L e.on =true) {t:Nat} (ht:t∈o.looksAt ops):dC ops base vals L t=cE ops base vals j t:=by
  have hj:=(Array.getElem?_eq_some_iff.1 ho).1
  have hup:=eh hok hc j j o (Nat.le_refl _) ho hp
  have h1:∀i,j≤i→i<ops.size →(L i&&dst ops i==some t)=false:=by
    intro i hi hs
    cases hL:L i with
    |false=>rfl
    | true =>
      cases hd:(dst ops i==some t) with
      |false=>rfl
      | true =>
        exfalso
        obtain⟨oi,hoi,hd'⟩:=ie hd
        have hne:i≠j:=fun e=>by rw[e,hn] at hL;cases hL
        rcases(cd hok hoi).pair j o ho (by omega) with h|h
        · rw[fu hd' ht] at h;cases h
        · have := eh hok hc i i oi (Nat.le_refl _) hoi (fun e he hb => hc i oi hoi hL e he hb) j h
          rw[hn] at this;cases this
  have h2:∀i,i<j→(L i&&dst ops i==some t)=(dst ops i==some t):=by
    intro i hi
    cases hd:(dst ops i==some t) with
    |false=>simp
    | true =>
      obtain⟨oi,hoi,hd'⟩:=ie hd
      rcases(cd hok ho).pair i oi hoi hi with h|h
      · rw[dx hd' ht] at h;cases h
      · rw[hup i h];rfl
  unfold dC cE
  rw[ni (p:=fun i=>L i&&dst ops i==some t) (Nat.le_of_lt hj) h1,ib h2]
structure lE(ops:Array Oper)(n:Nat)(base:Nat→Value)(P:Program)(w0:World)(D X Wd:Nat)(vals:aQ)(h:Heap)(listed:Array Bool)(a:Act)(w:World):Prop where
  size:listed.size =ops.size
  sub:∀i,jk listed i=true→D.testBit i=true
  sup:∀i,i<ops.size →X.testBit i=true→jk listed i=true
  closed:dK ops (jk listed)
  defers:a.defers =[]
  iJ:a.tmps.size =n
  frame:∀t,a.tmps.getD t undef=dC ops base vals (jk listed) t
  pend:∀j,j<ops.size →D.testBit j=true→jk listed j=false→(Wd.testBit j=true→Good P ops base vals h j)∧(Wd.testBit j=false→∀h',Good P ops base vals h' j)
  heap:w.heap =h
  same:Same w0 w
def Ba(listed:Array Bool):Nat:=listed.countP (fun b=> !b)
def ou(P:Program)(ops:Array Oper)(A:List Nat)(n:Nat)(base:Nat→Value)(w0:World)(Q:Exit→Act→World→Prop)(D X Wd:Nat)(vals:aQ)(h:Heap):Prop:=
  eC ops A n=true→dK ops (fun i=>D.testBit i)→∀fuel listed a w,lE ops n base P w0 D X Wd vals h listed a w→Ba listed≤fuel→wpAny P .any ops Q fuel listed a w
theorem lF(hok:eC ops A n=true){vals:aQ}{a:Act}{L:Nat→Bool}(hc:dK ops L)(hf:∀t,a.tmps.getD t undef=dC ops base vals L t){j:Nat}{o:Oper}(ho:ops[j]? =some o)(hn:L j=false)
    (hp:∀e∈o.after,Region.binds .any e=true→L e.on =true):
    execOp a.eval o=execOp (env ops base vals j) o∧Region.wanted o (yielded ops a.tmps)=cj ops (env ops base vals j) o:=by
  constructor
  · refine execOp_congr o (cd hok ho).sel fun x hx => ?_
    cases x with
    | tmp t =>
      show a.tmps.getD t undef=cE ops base vals j t
      rw[hf t]
      exact lD hok hc ho hn hp (List.mem_append_left _ (List.mem_filterMap.2 ⟨.tmp t,by simpa using hx,rfl⟩))
    |const v=>rfl
    |global g=>rfl
    |func f=>rfl
  · unfold Region.wanted cj
    cases hg:o.guard with
    |none=>rfl
    | some gw =>
      obtain⟨g,want⟩:=gw
      simp only
      congr 1
      unfold yielded
      cases hd:(ops[g]?).bind (·.dst) with
      |none=>simp[dst,hd]
      | some t =>
        have h1:=lD (base:=base) (vals:=vals) hok hc ho hn hp (t:=t) (List.mem_append_right _ (by simp[hg,hd]))
        have h2:env ops base vals j (.tmp t)=a.tmps.getD t undef:=by rw[hf t];exact h1.symm
        simp only[dst,hd,h2,Option.bind_some]
        cases ht:a.tmps[t]? with
        |none=>simp[ht,undef]
        |some v=>cases v<;>simp[ht]
theorem eU{listed:Array Bool}{i k:Nat}(hi:i<listed.size):jk (listed.setIfInBounds i true) k=(jk listed k||decide (k=i)):=by
  by_cases e:k=i
  · subst e;simp[jk,hi]
  · simp[jk,Array.getElem?_setIfInBounds_ne (Ne.symm e),e]
theorem sY{listed:Array Bool}{i:Nat}(hi:i<listed.size)(hn:jk listed i=false):Ba (listed.setIfInBounds i true)+1=Ba listed:=by
  unfold Ba
  have hv:listed[i]=false:=by simpa[jk,hi] using hn
  have hs:listed.setIfInBounds i true=listed.set i true hi:=by simp[Array.setIfInBounds,hi]
  have hpos:0<listed.countP (fun b=> !b):=Array.countP_pos_iff.2 ⟨listed[i],Array.getElem_mem hi,by simp[hv]⟩
  rw[hs,Array.countP_set hi]
  simp[hv]
  omega
theorem nj(hok:eC ops A n=true){vals:aQ}{a:Act}{L L':Nat→Bool}(hc:dK ops L)(hf:∀t,a.tmps.getD t undef=dC ops base vals L t)(hts:a.tmps.size =n)
    {j:Nat} {o:Oper} (ho:ops[j]? =some o) (hn:L j=false) (hL:∀k,L' k=(L k||decide (k=j))) (t:Nat):
    (a.put o.dst (vals j)).tmps.getD t undef=dC ops base vals L' t:=by
  have hj:=(Array.getElem?_eq_some_iff.1 ho).1
  have same:∀t,o.dst ≠some t→dC ops base vals L' t=dC ops base vals L t:=by
    intro t ht
    unfold dC
    rw[ib (q:=fun i=>L i&&dst ops i==some t)]
    intro i hi
    rw[hL]
    by_cases e:i=j
    · subst e
      have:(dst ops i==some t)=false:=by rw[qO ho];simp[ht]
      simp[this]
    · simp[e]
  cases hd:o.dst with
  |none=>rw[same t (by simp[hd]), ←hf t];simp[Act.put]
  | some d =>
    have hdn:=(cd hok ho).dst d hd
    by_cases e:t=d
    · subst e
      have hl : df (fun i => L' i && dst ops i == some t) ops.size = some j := by
        refine mS hj ?_ ?_
        · rw[hL,qO ho,hd];simp
        · intro i hi hs
          rw[hL]
          cases hLi:L i with
          | false => have : i ≠ j := by omega
                     simp[this]
          | true =>
            cases hdi:(dst ops i==some t) with
            |false=>simp
            | true =>
              exfalso
              obtain⟨oi,hoi,hd'⟩:=ie hdi
              rcases(cd hok hoi).pair j o ho hi with h|h
              · rw[fg hd hd'] at h;cases h
              · have := eh hok hc i i oi (Nat.le_refl _) hoi (fun e he hb => hc i oi hoi hLi e he hb) j h
                rw[hn] at this;cases this
      unfold dC
      rw[hl]
      simp[Act.put,hts,hdn]
    · rw [same t (by rw [hd]; simpa using fun h => e h.symm), ← hf t]
      simp[Act.put,Array.getElem?_setIfInBounds_ne (fun h=>e h.symm :d≠t)]
end
end Go.ai
namespace Go.ai
open Go
section
variable {P:Program} {ops:Array Oper} {A:List Nat} {n:Nat} {base:Nat→Value} {w0:World} {Q:Exit→Act→World→Prop} {D X Wd:Nat} {vals:aQ} {h:Heap}
theorem kO(vals:aQ)(i:Nat)(v:Value):cE ops base (aS vals i v) i=cE ops base vals i:=by
  funext t
  unfold cE
  cases e:df (fun k=>dst ops k==some t) i with
  |none=>rfl
  |some k=>have:=(dN e).1;simp only;exact jh (by omega)
theorem iK(vals:aQ)(i:Nat)(v:Value):env ops base (aS vals i v) i=env ops base vals i:=by
  unfold env;rw[kO]
theorem kf(hok:eC ops A n=true){i j:Nat}{v:Value}{o:Oper}(ho:ops[j]? =some o)(hna:(fW A j).testBit i=false){t:Nat}(ht:t∈o.looksAt ops):
    cE ops base (aS vals i v) j t=cE ops base vals j t:=by
  unfold cE
  cases e:df (fun k=>dst ops k==some t) j with
  |none=>rfl
  | some k =>
    simp only
    obtain⟨h1,h2,_⟩:=dN e
    refine jh fun hk=> ?_
    subst hk
    obtain⟨ok,hok',hd⟩:=ie h2
    rcases(cd hok ho).pair k ok hok' h1 with h|h
    · rw[dx hd ht] at h;cases h
    · rw[hna] at h;cases h
theorem qQ{e e':Operand→Value}{o:Oper}{R:Value→Heap→Prop}(he:execOp e o=execOp e' o)(hh:mT P e o h R):mT P e' o h R:=by
  unfold mT at*;rwa [he] at hh
theorem uK(hok:eC ops A n=true){e e':Operand→Value}{j:Nat}{o:Oper}(ho:ops[j]? =some o)(hc:∀v,e (.const v)=e' (.const v))(hg:∀v,e (.global v)=e' (.global v))(hf:∀v,e (.func v)=e' (.func v))
    (ht:∀t,t∈o.looksAt ops→e (.tmp t)=e' (.tmp t)):execOp e o=execOp e' o∧cj ops e o=cj ops e' o:=by
  constructor
  · refine execOp_congr o (cd hok ho).sel fun x hx => ?_
    cases x with
    |tmp t=>exact ht t (List.mem_append_left _ (List.mem_filterMap.2 ⟨.tmp t,by simpa using hx,rfl⟩))
    |const v=>exact hc v
    |global g=>exact hg g
    |func f=>exact hf f
  · unfold cj
    cases hg:o.guard with
    |none=>rfl
    | some gw =>
      obtain⟨g,want⟩:=gw
      simp only
      cases hd:dst ops g with
      |none=>rfl
      |some t=>simp only;rw[ht t (List.mem_append_right _ (by unfold dst at hd;simp[hg,hd]))]
theorem ig(hok:eC ops A n=true){i j:Nat}{v:Value}(hne:j≠i)(hna:(fW A j).testBit i=false)(hg:Good P ops base vals h j):Good P ops base (aS vals i v) h j:=by
  obtain⟨o,ho,hg⟩:=hg
  obtain⟨e1,e2⟩:=uK (e:=env ops base vals j) (e':=env ops base (aS vals i v) j) hok ho (fun _=>rfl) (fun _=>rfl) (fun _=>rfl)
    (fun t ht=>(kf (base:=base) (vals:=vals) (v:=v) hok ho hna ht).symm)
  refine⟨o,ho, ?_⟩
  rw[jh hne, ←e2]
  exact hg.imp (fun⟨a,b⟩=>⟨a,qQ e1 b⟩) id
theorem lG{L:Nat→Bool}{i:Nat}{v:Value}(hn:L i=false)(t:Nat):dC ops base (aS vals i v) L t=dC ops base vals L t:=by
  unfold dC
  cases e:df (fun k=>L k&&dst ops k==some t) ops.size with
  |none=>rfl
  | some k =>
    simp only
    have:=(dN e).2.1
    refine jh fun hk=> ?_
    subst hk
    simp[hn] at this
theorem lH{i:Nat}{o:Oper}{a:Act}{w:World}{R:Value→Heap→Prop}{K:Act→World→Prop}{e:Operand→Value}(ho:ops[i]? =some o)(he:execOp a.eval o=execOp e o)
    (hw:Region.wanted o (yielded ops a.tmps)=true) (hh:w.heap =h) (hf:mT P e o h R) (hK:∀v w',Same w w'→R v w'.heap →K (a.put o.dst v) w'):wpOp P ops Q i K a w:=by
  unfold wpOp
  simp only[ho,hw,if_true]
  refine .inl ?_
  have:=hf w hh
  unfold Oper.wp
  rw[he]
  generalize (execOp e o).run P w=r at this⊢
  cases r with
  |halt x w'=>exact this.elim
  | ok x w' =>
    cases x<;>simp only at this<;>simp only[Oper.upon]<;>first|exact this.elim |skip
    · exact hK _ _ this.1 this.2
    · exact hK _ _ this.1 this.2
    · refine (this.2 w' rfl).mono fun e w'' ⟨v, he, hs, hr⟩ => ?_
      subst he
      exact hK _ _ (this.1.trans hs) hr
theorem nm{i:Nat}{o:Oper}{a:Act}{w:World}{K:Act→World→Prop}(ho:ops[i]? =some o)
    (hw:Region.wanted o (yielded ops a.tmps)=false) (hK:K (a.put o.dst undef) w):wpOp P ops Q i K a w:=by
  unfold wpOp
  simp only[ho,hw]
  exact hK
theorem lI{listed:Array Bool}{i:Nat}{o:Oper}(hc:dK ops (jk listed))(hi:i<listed.size)(ho:ops[i]? =some o)(hp:∀e∈o.after,Region.binds .any e=true→jk listed e.on =true):
    dK ops (jk (listed.setIfInBounds i true)):=by
  intro j oj hj hl e he hb
  rw[eU hi] at hl⊢
  simp only[Bool.or_eq_true,decide_eq_true_eq] at hl⊢
  rcases hl with hl|hl
  · exact .inl (hc j oj hj hl e he hb)
  · subst hl
    rw[ho] at hj
    obtain rfl:o=oj:=Option.some.inj hj
    exact .inl (hp e he hb)
theorem jl(hok:eC ops A n=true){listed:Array Bool}{a:Act}{w:World}(st:lE ops n base P w0 D X Wd vals h listed a w){i:Nat}(hi:i∈Region.ready .any ops listed)
    (hD:D.testBit i=true) {K:Act→World→Prop} (hK:∀a' w',lE ops n base P w0 D X Wd vals h (listed.setIfInBounds i true) a' w'→K a' w'):wpOp P ops Q i K a w:=by
  obtain⟨hun,o,ho,hp⟩:=mem_ready.1 hi
  have hlt:=(Array.getElem?_eq_some_iff.1 ho).1
  have hil:i<listed.size :=by rw[st.size];exact hlt
  have hnl:jk listed i=false:=by simpa[jk,hil] using hun
  obtain⟨he,hw⟩:=lF hok st.closed st.frame ho hnl hp
  have hg:Good P ops base vals h i:=by
    obtain⟨h1,h2⟩:=st.pend i hlt hD hnl
    cases hW:Wd.testBit i with
    |true=>exact h1 hW
    |false=>exact h2 hW h
  obtain⟨o',ho',hg⟩:=hg
  obtain rfl:o'=o:=Option.some.inj (ho'.symm.trans ho)
  have next:∀w',Same w w'→w'.heap =h→lE ops n base P w0 D X Wd vals h (listed.setIfInBounds i true) (a.put o'.dst (vals i)) w':=fun w' hs hh=>
    { size := by simp [st.size]
      sub:=fun k hk=>by
        rw[eU hil] at hk
        simp only[Bool.or_eq_true,decide_eq_true_eq] at hk
        rcases hk with hk|hk
        · exact st.sub k hk
        · exact hk▸hD
      sup:=fun k hk hx=>by rw[eU hil,st.sup k hk hx];rfl
      closed:=lI st.closed hil ho hp
      defers:=by cases hd:o'.dst <;>simp[Act.put,st.defers]
      iJ:=by cases hd:o'.dst <;>simp[Act.put,st.iJ]
      frame:=nj hok st.closed st.frame st.iJ ho hnl fun k=>eU hil
      pend:=fun j hj uL hl=>st.pend j hj uL (by rw[eU hil] at hl;simp only[Bool.or_eq_false_iff] at hl;exact hl.1)
      heap:=hh
      same:=st.same.trans hs}
  rcases hg with⟨hw',hc⟩|⟨hw',hv⟩
  · refine lH ho he (hw.trans hw') st.heap hc fun v w' hs hr => ?_
    rw[hr.1]
    exact hK _ _ (next w' hs hr.2)
  · refine nm ho (hw.trans hw') ?_
    rw[←hv]
    exact hK _ _ (next w (Same.refl w) st.heap)
theorem iL (hok : eC ops A n = true) {listed : Array Bool} (hs : listed.size = ops.size) (hr : Region.ready .any ops listed = []) : ∀ (i : Nat), i < ops.size → jk listed i = true := by
  intro i
  induction i using Nat.strongRecOn with
  | _ i ih =>
    intro hi
    cases hl:jk listed i with
    |true=>rfl
    | false =>
      exfalso
      have ho:ops[i]? =some ops[i]:=Array.getElem?_eq_getElem hi
      have:i∈Region.ready .any ops listed:=mem_ready.2 ⟨by simp only[jk] at hl;simpa[hs,hi] using hl,_,ho,fun e he hb=>by
        have h1:=(cd hok ho).edge e he hb
        exact ih e.on h1 (by omega)⟩
      rw[hr] at this
      cases this
theorem ph{listed:Array Bool}(h:Ba listed≤0)(i:Nat)(hi:i<listed.size):jk listed i=true:=by
  unfold Ba at h
  have h0:listed.countP (fun b=> !b)=0:=by omega
  have:=Array.countP_eq_zero.1 h0 listed[i] (Array.getElem_mem hi)
  simpa[jk,hi] using this
theorem fh{listed:Array Bool}{i:Nat}(hs:listed.size =ops.size)(hi:i∈Region.ready .any ops listed):i<ops.size ∧jk listed i=false:=by
  obtain⟨hun,o,ho,_⟩:=mem_ready.1 hi
  have hlt:=(Array.getElem?_eq_some_iff.1 ho).1
  exact⟨hlt,by simpa[jk,hs,hlt] using hun⟩
theorem ou.done(hD:∀i,i<ops.size →D.testBit i=true)
    (hQ:∀a w,a.defers =[]→a.tmps.size =n→(∀t,a.tmps.getD t undef=dC ops base vals (fun _=>true) t)→Same w0 w→w.heap =h→Q .normal a w):
    ou P ops A n base w0 Q D X Wd vals h:=by
  intro hok _ fuel
  have fin:∀listed a w,lE ops n base P w0 D X Wd vals h listed a w→(∀i,i<ops.size →jk listed i=true)→Q .normal a w:=by
    intro listed a w st hall
    refine hQ a w st.defers st.iJ (fun t=> ?_) st.same st.heap
    rw[st.frame t]
    unfold dC
    rw[ib (q:=fun i=>true&&dst ops i==some t)]
    intro i hi
    rw[hall i hi]
  induction fuel with
  | zero =>
    intro listed a w st hu
    have hall:=fun i (hi:i<ops.size)=>ph hu i (by rw[st.size];exact hi)
    refine⟨List.eq_nil_iff_forall_not_mem.2 fun i hi=> ?_,fin listed a w st hall⟩
    obtain⟨h1,h2⟩:=fh st.size hi
    rw[hall i h1] at h2;cases h2
  | succ fuel ih =>
    intro listed a w st hu
    refine⟨fun hr=>fin listed a w st (iL hok st.size hr),fun i hi=> ?_⟩
    obtain⟨h1,h2⟩:=fh st.size hi
    refine jl hok st hi (hD i h1) fun a' w' st'=>ih _ a' w' st' ?_
    have:=sY (i:=i) (by rw[st.size];exact h1) h2
    omega
def bl(ops:Array Oper)(A:List Nat)(D i:Nat):Bool:=Nat.blt i ops.size && !(D.testBit i)&&((fW A i|||D)==D)
theorem fw(hok:eC ops A n=true){i:Nat}(hc:bl ops A D i=true):∃o,ops[i]? =some o∧D.testBit i=false∧∀e∈o.after,Region.binds .any e=true→D.testBit e.on =true:=by
  simp only[bl,Bool.and_eq_true,beq_iff_eq,Bool.not_eq_true'] at hc
  obtain⟨⟨h1,h2⟩,h3⟩:=hc
  have hi:i<ops.size :=by simpa using h1
  refine⟨_,Array.getElem?_eq_getElem hi,h2,fun e he hb=> ?_⟩
  have:=(cd hok (Array.getElem?_eq_getElem hi)).has e he hb
  rw[←h3,Nat.testBit_or,this];rfl
theorem iQ(hok:eC ops A n=true){i:Nat}(hcl:dK ops (fun k=>D.testBit k))(hc:bl ops A D i=true):dK ops (fun k=>(D|||2^i).testBit k):=by
  obtain⟨o,ho,_,hp⟩:=fw hok hc
  intro j oj hj hl e he hb
  simp only[Nat.testBit_or,Bool.or_eq_true,Nat.testBit_two_pow,decide_eq_true_eq] at hl⊢
  rcases hl with hl|hl
  · exact .inl (hcl j oj hj hl e he hb)
  · subst hl
    obtain rfl:o=oj:=Option.some.inj (ho.symm.trans hj)
    exact .inl (hp e he hb)
theorem s_(hok:eC ops A n=true){i j:Nat}(hcl:dK ops (fun k=>D.testBit k))(hj:j<ops.size)(uL:D.testBit j=true)(hDi:D.testBit i=false):(fW A j).testBit i=false:=by
  cases h:(fW A j).testBit i with
  |false=>rfl
  | true =>
    have ho:ops[j]? =some ops[j]:=Array.getElem?_eq_getElem hj
    have:=eh hok hcl j j ops[j] (Nat.le_refl _) ho (fun e he hb=>hcl j _ ho uL e he hb) i h
    simp[hDi] at this
theorem ta(hok:eC ops A n=true)(hcl:dK ops (fun k=>D.testBit k)){i:Nat}{v:Value}{kP:Nat}(hc:bl ops A D i=true)
    (hWd:∀k,k≠i→kP.testBit k=Wd.testBit k) (hg:(kP.testBit i=true→Good P ops base (aS vals i v) h i)∧(kP.testBit i=false→∀h',Good P ops base (aS vals i v) h' i))
    {listed:Array Bool} {a:Act} {w:World} (st:lE ops n base P w0 D X Wd vals h listed a w):lE ops n base P w0 (D|||2^i) X kP (aS vals i v) h listed a w:=by
  obtain⟨o,ho,hDi,hp⟩:=fw hok hc
  have hnl:jk listed i=false:=by
    cases hl:jk listed i with
    |false=>rfl
    |true=>rw[st.sub i hl] at hDi;cases hDi
  exact
    { size := st.size
      sub:=fun k hk=>by rw[Nat.testBit_or,st.sub k hk];rfl
      sup:=st.sup
      closed:=st.closed
      defers:=st.defers
      iJ:=st.iJ
      frame:=fun t=>by rw[lG hnl];exact st.frame t
      pend:=fun j hj uL hl=>by
        by_cases e:j=i
        · subst e;exact hg
        · have uM : D.testBit j = true := by
            simp only[Nat.testBit_or,Bool.or_eq_true,Nat.testBit_two_pow,decide_eq_true_eq] at uL
            rcases uL with h|h
            · exact h
            · exact absurd h.symm e
          obtain⟨h1,h2⟩:=st.pend j hj uM hl
          have hna:=s_ (i:=i) hok hcl hj uM hDi
          rw[hWd j e]
          exact⟨fun hw=>ig hok e hna (h1 hw),fun hw h'=>ig hok e hna (h2 hw h')⟩
      heap:=st.heap
      same:=st.same }
theorem ou.reg{i:Nat}{v:Value}(hc:bl ops A D i=true)(hW:Wd.testBit i=false)(hg:∀h',Good P ops base (aS vals i v) h' i)
    (hs:ou P ops A n base w0 Q (D|||2^i) X Wd (aS vals i v) h):ou P ops A n base w0 Q D X Wd vals h:=by
  intro hok hcl fuel listed a w st hu
  exact hs hok (iQ hok hcl hc) fuel listed a w (ta hok hcl hc (fun _ _=>rfl) ⟨fun h=>(by rw[hW] at h;cases h),fun _=>hg⟩ st) hu
theorem ou.DB{i:Nat}{v:Value}(hc:bl ops A D i=true)(hg:Good P ops base (aS vals i v) h i)
    (hs:ou P ops A n base w0 Q (D|||2^i) X (Wd|||2^i) (aS vals i v) h):ou P ops A n base w0 Q D X Wd vals h:=by
  intro hok hcl fuel listed a w st hu
  refine hs hok (iQ hok hcl hc) fuel listed a w (ta hok hcl hc (fun k hk=> ?_) ⟨fun _=>hg,fun h=> ?_⟩ st) hu
  · simp[Nat.testBit_or,Ne.symm hk]
  · simp[Nat.testBit_or] at h
def nexts(ops:Array Oper)(A:List Nat)(D:Nat):List Nat:=(List.range ops.size).filter fun i=>bl ops A D i
theorem ou.eff (hex : ∃ i, i ∈ nexts ops A D) (hs : ∀ i, i ∈ nexts ops A D → ∃ o R, ops[i]? = some o ∧ cj ops (env ops base vals i) o = true ∧ mT P (env ops base vals i) o h R ∧
      ∀ v h', R v h' → (∀ j, j < ops.size → (Wd &&& ((X ||| fW A i) ^^^ (Wd ||| X ||| fW A i))).testBit j = true → D.testBit j = true → Good P ops base vals h' j) ∧
        ou P ops A n base w0 Q (D|||2^i) (X|||fW A i|||2^i) Wd (aS vals i v) h'):ou P ops A n base w0 Q D X Wd vals h:=by
  intro hok hcl fuel
  induction fuel with
  | zero =>
    intro listed a w st hu
    exfalso
    obtain⟨i,hi⟩:=hex
    obtain⟨o,ho,hDi,_⟩:=fw hok (List.mem_filter.1 hi).2
    have:=ph hu i (by rw[st.size];exact(Array.getElem?_eq_some_iff.1 ho).1)
    rw[st.sub i this] at hDi;cases hDi
  | succ fuel ih =>
    intro listed a w st hu
    refine⟨fun hr=> ?_,fun i hi=> ?_⟩
    · exfalso
      obtain⟨i,hi⟩:=hex
      obtain⟨o,ho,hDi,_⟩:=fw hok (List.mem_filter.1 hi).2
      have:=iL hok st.size hr i (Array.getElem?_eq_some_iff.1 ho).1
      rw[st.sub i this] at hDi;cases hDi
    · obtain ⟨h1, h2⟩ := fh st.size hi
      have hil:i<listed.size :=by rw[st.size];exact h1
      have hun:=sY hil h2
      cases hDi:D.testBit i with
      |true=>exact jl hok st hi hDi fun a' w' st'=>ih _ a' w' st' (by omega)
      | false =>
        obtain⟨_,o,ho,hp⟩:=mem_ready.1 hi
        have Bb:=eh hok st.closed i i o (Nat.le_refl _) ho hp
        have hcan:bl ops A D i=true:=by
          have hb:Nat.blt i ops.size =true:=by simpa using h1
          simp only[bl,hb,hDi,Bool.not_false,Bool.true_and,beq_iff_eq]
          apply Nat.eq_of_testBit_eq
          intro k
          rw[Nat.testBit_or]
          cases hk:(fW A i).testBit k with
          |false=>simp
          |true=>rw[st.sub k (Bb k hk)];rfl
        obtain⟨o',R,ho',hw,hf,hR⟩:=hs i (List.mem_filter.2 ⟨List.mem_range.2 h1,hcan⟩)
        obtain rfl:o'=o:=Option.some.inj (ho'.symm.trans ho)
        obtain⟨he,hwe⟩:=lF hok st.closed st.frame ho h2 hp
        refine lH ho he (hwe.trans hw) st.heap hf fun v w' hsm hr=> ?_
        obtain⟨Cg,DC⟩:=hR v w'.heap hr
        refine DC hok (iQ hok hcl hcan) fuel _ _ w' ?_ (by omega)
        exact
          { size := by simp [st.size]
            sub:=fun k hk=>by
              rw[eU hil] at hk
              simp only[Bool.or_eq_true,decide_eq_true_eq] at hk
              rw[Nat.testBit_or,Nat.testBit_two_pow]
              rcases hk with hk|hk
              · rw[st.sub k hk];rfl
              · simp[hk]
            sup:=fun k hk hx=>by
              rw[eU hil]
              simp only[Nat.testBit_or,Nat.testBit_two_pow,Bool.or_eq_true,decide_eq_true_eq] at hx⊢
              rcases hx with(hx|hx)|hx
              · exact .inl (st.sup k hk hx)
              · exact .inl (Bb k hx)
              · exact .inr hx.symm
            closed:=lI st.closed hil ho hp
            defers:=by cases hd:o'.dst <;>simp[Act.put,st.defers]
            iJ:=by cases hd:o'.dst <;>simp[Act.put,st.iJ]
            frame:=fun t=>by
              have hv:v=aS vals i v i:=(h_ vals i v).symm
              conv=>lhs;rw[hv]
              exact nj hok st.closed (fun t=>by rw[lG h2];exact st.frame t) st.iJ ho h2 (fun k=>eU hil) t
            pend:=fun j hj uL hl=>by
              rw[eU hil] at hl
              simp only[Bool.or_eq_false_iff,decide_eq_false_iff_not] at hl
              have uM:D.testBit j=true:=by
                simp only[Nat.testBit_or,Bool.or_eq_true,Nat.testBit_two_pow,decide_eq_true_eq] at uL
                rcases uL with h|h
                · exact h
                · exact absurd h.symm hl.2
              have hna:=s_ (i:=i) hok hcl hj uM hDi
              obtain⟨q1,q2⟩:=st.pend j hj uM hl.1
              refine⟨fun hW=>ig hok hl.2 hna (Cg j hj ?_ uM),fun hW h'=>ig hok hl.2 hna (q2 hW h')⟩
              have hX:X.testBit j=false:=by
                cases hx:X.testBit j with
                |false=>rfl
                |true=>rw[st.sup j hj hx] at hl;cases hl.1
              have hA:(fW A i).testBit j=false:=by
                cases hx:(fW A i).testBit j with
                |false=>rfl
                |true=>rw[Bb j hx] at hl;cases hl.1
              simp[Nat.testBit_and,Nat.testBit_or,Nat.testBit_xor,hW,hX,hA]
            heap:=rfl
            same:=st.same.trans hsm}
end
end Go.ai
namespace Go.ai
open Go
def jm(P:Program){α:Type}:Sem α→Option α
  | .pure a=>some a
  | .program k=>jm P (k P)
  | .mark _ k=>jm P k
  |_=>none
theorem fM{P:Program}{α:Type}:∀{s:Sem α} {a:α},jm P s=some a→∀w,s.run P w= .ok a w
  | .pure a,b,h,w=>by simp only[jm,Option.some.injEq] at h;subst h;rfl
  | .program k,b,h,w=>fM (s:=k P) h w
  | .mark _ k,b,h,w=>fM (s:=k) h w
def reads (P : Program) {α : Type} : Sem α → List Value → Option (α × List Addr)
  | .pure a,[]=>some (a,[])
  | .program k,l=>reads P (k P) l
  | .mark _ k,l=>reads P k l
  | .load _ ad k, v :: l => match reads P (k v) l with
    |some (a,r)=>some (a,ad::r)
    |none=>none
  |_,_=>none
def hcell(h:Heap)(a:Addr):Option Value:=
  match h[a.block]? with
  |some (.cells c _ _)=>if a.spot.isSome then none else c[a.off]?
  |_=>none
theorem eD{w:World}{h:Heap}(e:w.heap =h)(a:Addr):w.cell? a=hcell h a:=by subst e;rfl
def Cells(h:Heap):List Addr→List Value→Prop
  |[],[]=>True
  |a::r,v::l=>hcell h a=some v∧Cells h r l
  |_,_=>False
section
variable {P:Program} {ops:Array Oper} {A:List Nat} {n:Nat} {base:Nat→Value} {D X Wd:Nat} {vals:aQ} {h:Heap} {K:Exit→Act→Heap→Prop}
def nextVal:Option Next→Option Value
  |some (.value v)=>some v
  |some .skip =>some undef
  |_=>none
def aN (P : Program) (ops : Array Oper) (base : Nat → Value) (vals : aQ) (i : Nat) : Option Value :=
  match ops[i]? with
  | some o => match cj ops (env ops base vals i) o with
    |false=>some undef
    |true=>nextVal (jm P (execOp (env ops base vals i) o))
  |none=>none
theorem gG{e:Operand→Value}{o:Oper}{v:Value}(hv:nextVal (jm P (execOp e o))=some v)(h:Heap):AL P e o h v:=by
  intro w hw
  cases hc:jm P (execOp e o) with
  |none=>simp[hc,nextVal] at hv
  | some x =>
    rw[fM hc w]
    rw[hc] at hv
    cases x<;>simp only[nextVal,Option.some.injEq] at hv<;>first| (cases hv;done)|skip
    · exact⟨Same.refl w,hv,hw⟩
    · exact⟨Same.refl w,hv,hw⟩
theorem gv{i:Nat}{v:Value}(hv:aN P ops base vals i=some v)(h':Heap):Good P ops base (aS vals i v) h' i:=by
  unfold aN at hv
  cases ho:ops[i]? with
  |none=>simp[ho] at hv
  | some o =>
    refine⟨o,ho, ?_⟩
    rw[iK,h_]
    simp only[ho] at hv
    cases hw:cj ops (env ops base vals i) o with
    |false=>simp only[hw,Option.some.injEq] at hv;exact .inr ⟨rfl,hv.symm⟩
    |true=>simp only[hw] at hv;exact .inl ⟨rfl,gG hv h'⟩
structure Does(P:Program)(ops:Array Oper)(base:Nat→Value)(vals:aQ)(i:Nat)(h:Heap)(R:Value→Heap→Prop):Prop where
  does:∃o,ops[i]? =some o∧cj ops (env ops base vals i) o=true∧mT P (env ops base vals i) o h R
abbrev Calm(P:Program)(ops:Array Oper)(base:Nat→Value)(vals:aQ)(i:Nat)(h:Heap)(v:Value):Prop:=Does P ops base vals i h fun v' h'=>v'=v∧h'=h
theorem Calm.good{i:Nat}{v:Value}(hc:Calm P ops base vals i h v):Good P ops base (aS vals i v) h i:=by
  obtain⟨o,ho,hw,hf⟩:=hc.does
  refine⟨o,ho, .inl ?_⟩
  rw[iK,h_]
  exact⟨hw,hf⟩
def aF(P:Program)(ops:Array Oper)(A:List Nat)(n:Nat)(base:Nat→Value)(K:Exit→Act→Heap→Prop)(D X Wd:Nat)(vals:aQ)(h:Heap):Prop:=
  ∀w0,ou P ops A n base w0 (fun e a w=>Same w0 w∧K e a w.heap) D X Wd vals h
def wb:aQ→List Nat→List Value→aQ
  |vals,i::is,v::vs=>wb (aS vals i v) is vs
  |vals,_,_=>vals
def eE (P : Program) (ops : Array Oper) (A : List Nat) (base : Nat → Value) : List Nat → List Value → Nat → aQ → Nat → Option (List (Option Value) × Nat)
  |[],[],D,_,_=>some ([],D)
  | i :: is, v :: vs, D, vals, Wd => match bl ops A D i && !(Wd.testBit i) with
    | true => match eE P ops A base is vs (D ||| 2 ^ i) (aS vals i v) Wd with
      |some (r,D')=>some (aN P ops base vals i::r,D')
      |none=>none
    |false=>none
  |_,_,_,_,_=>none
theorem aF.Ch{is:List Nat}{vs:List Value}{D':Nat}(hp:eE P ops A base is vs D vals Wd=some (vs.map some,D'))
    (hs:aF P ops A n base K D' X Wd (wb vals is vs) h):aF P ops A n base K D X Wd vals h:=by
  induction is generalizing vs D vals with
  | nil =>
    cases vs with
    |nil=>simp only[eE,List.map_nil,Option.some.injEq,Prod.mk.injEq,true_and] at hp;subst hp;exact hs
    |cons v vs=>simp[eE] at hp
  | cons i is ih =>
    cases vs with
    |nil=>simp[eE] at hp
    | cons v vs =>
      simp only[eE] at hp
      cases hc:(bl ops A D i&& !(Wd.testBit i)) with
      |false=>simp[hc] at hp
      | true =>
        simp only[hc] at hp
        cases hr:eE P ops A base is vs (D|||2^i) (aS vals i v) Wd with
        |none=>simp[hr] at hp
        | some x =>
          obtain⟨r,D''⟩:=x
          simp only[hr,Option.some.injEq,Prod.mk.injEq,List.map_cons,List.cons.injEq] at hp
          obtain⟨⟨h1,h2⟩,h3⟩:=hp
          subst h2;subst h3
          simp only[Bool.and_eq_true,Bool.not_eq_true'] at hc
          intro w0
          exact ou.reg hc.1 hc.2 (fun h'=>gv h1 h') (ih hr hs w0)
theorem aF.dO{i:Nat}{v v':Value}{D':Nat}(hc:(bl ops A D i&& !(Wd.testBit i))=true)(hD:D|||2^i=D')(hv:aN P ops base vals i=some v')(e:v'=v)
    (hs:aF P ops A n base K D' X Wd (aS vals i v) h):aF P ops A n base K D X Wd vals h:=by
  subst e;subst hD
  simp only[Bool.and_eq_true,Bool.not_eq_true'] at hc
  intro w0
  exact ou.reg hc.1 hc.2 (fun h'=>gv hv h') (hs w0)
theorem aF.free{i:Nat}{v:Value}{D':Nat}(hc:(bl ops A D i&& !(Wd.testBit i))=true)(hD:D|||2^i=D')(hv:∀h',Calm P ops base vals i h' v)
    (hs:aF P ops A n base K D' X Wd (aS vals i v) h):aF P ops A n base K D X Wd vals h:=by
  subst hD
  simp only[Bool.and_eq_true,Bool.not_eq_true'] at hc
  intro w0
  exact ou.reg hc.1 hc.2 (fun h'=>(hv h').good) (hs w0)
theorem aF.look{i:Nat}{v:Value}{D' kP:Nat}(hc:bl ops A D i=true)(hD:D|||2^i=D')(hW:Wd|||2^i=kP)(hv:Calm P ops base vals i h v)
    (hs:aF P ops A n base K D' X kP (aS vals i v) h):aF P ops A n base K D X Wd vals h:=by
  subst hD;subst hW
  intro w0
  exact ou.DB hc hv.good (hs w0)
def gH(ops:Array Oper)(A:List Nat)(D X Wd i:Nat):List Nat:=(List.range ops.size).filter fun j=>(Wd&&&((X|||fW A i)^^^(Wd|||X|||fW A i))).testBit j&&D.testBit j
theorem aF.eff{i:Nat}{R:Value→Heap→Prop}{D' X':Nat}(hn:nexts ops A D=[i])(hD:D|||2^i=D')(hX:X|||fW A i|||2^i=X')(pend:List Nat)(hp:gH ops A D X Wd i=pend)(hd:Does P ops base vals i h R)
    (hs:∀v h',R v h'→(∀j∈pend,Good P ops base vals h' j)∧aF P ops A n base K D' X' Wd (aS vals i v) h'):aF P ops A n base K D X Wd vals h:=by
  subst hD;subst hX;subst hp
  intro w0
  refine ou.eff ⟨i,by rw[hn];simp⟩ fun k hk=> ?_
  rw[hn] at hk
  obtain rfl:k=i:=by simpa using hk
  obtain⟨o,ho,hw,hf⟩:=hd.does
  refine⟨o,R,ho,hw,hf,fun v h' hr=> ?_⟩
  obtain⟨h1,h2⟩:=hs v h' hr
  exact⟨fun j hj hb uL=>h1 j (List.mem_filter.2 ⟨List.mem_range.2 hj,by rw[hb,uL];rfl⟩),h2 w0⟩
theorem aF.wc{i:Nat}{R:Value→Heap→Prop}{D' X':Nat}(hn:nexts ops A D=[i])(hD:D|||2^i=D')(hX:X|||fW A i|||2^i=X')(hp:gH ops A D X Wd i=[])(hd:Does P ops base vals i h R)
    (hs:∀v h',R v h'→aF P ops A n base K D' X' Wd (aS vals i v) h'):aF P ops A n base K D X Wd vals h:=
  aF.eff hn hD hX [] hp hd fun v h' hr=>⟨fun j hj=>by simp at hj,hs v h' hr⟩
theorem aF.ov{is:List Nat}(hn:nexts ops A D=is)(hne:is≠[])
    (hs:∀i∈is,∃R,Does P ops base vals i h R∧∀v h',R v h'→(∀j∈gH ops A D X Wd i,Good P ops base vals h' j)∧aF P ops A n base K (D|||2^i) (X|||fW A i|||2^i) Wd (aS vals i v) h'):aF P ops A n base K D X Wd vals h:=by
  subst hn
  intro w0
  refine ou.eff (List.exists_mem_of_ne_nil _ hne) fun i hi=> ?_
  obtain⟨R,hd,hr⟩:=hs i hi
  obtain⟨o,ho,hw,hf⟩:=hd.does
  refine⟨o,R,ho,hw,hf,fun v h' hr'=> ?_⟩
  obtain⟨h1,h2⟩:=hr v h' hr'
  exact⟨fun j hj hb uL=>h1 j (List.mem_filter.2 ⟨List.mem_range.2 hj,by rw[hb,uL];rfl⟩),h2 w0⟩
theorem qR{f g:Nat→Value}(hf:∀t,f t=g t):∀(ts:List Nat) (t:Nat),f t=lk (ts.map fun t=>(t,g t)) t (f t)
  |[],_=>rfl
  | k :: ts, t => by
    simp only[List.map_cons,lk]
    cases e:Nat.beq k t with
    |false=>exact qR hf ts t
    |true=>simp only;rw[hf t,Nat.eq_of_beq_eq_true e]
end
end Go.ai
namespace Go.ai
open Go
section
variable {P:Program} {ops:Array Oper} {n:Nat} {base:Nat→Value} {vals:aQ} {h:Heap} {K:Exit→Act→Heap→Prop}
/-! ### regions in the text's order -/
def lJ(ops:Array Oper)(n:Nat):Bool:=ops.toList.all fun o=>match o.dst with|some d=>Nat.blt d n|none=>true
def we(P:Program)(ops:Array Oper)(n:Nat)(base:Nat→Value)(w0:World)(Q:Exit→Act→World→Prop)(k:Nat)(vals:aQ)(h:Heap):Prop:=
  lJ ops n=true→∀a w,a.defers =[]→a.tmps.size =n→(∀t,a.tmps.getD t undef=cE ops base vals k t)→Same w0 w→w.heap =h→wpOps P ops Q (List.range' k (ops.size - k)) a w
def aP(P:Program)(ops:Array Oper)(n:Nat)(base:Nat→Value)(K:Exit→Act→Heap→Prop)(k:Nat)(vals:aQ)(h:Heap):Prop:=
  ∀w0,we P ops n base w0 (fun e a w=>Same w0 w∧K e a w.heap) k vals h
theorem qT{k:Nat}{o:Oper}(ho:ops[k]? =some o)(v:Value)(t:Nat):cE ops base (aS vals k v) (k+1) t=if o.dst =some t then v else cE ops base vals k t:=by
  unfold cE
  conv=>lhs;unfold df
  rw[qO ho]
  by_cases e:o.dst =some t
  · simp[e,h_]
  · have : (o.dst == some t) = false := by simp [e]
    simp only[this,e,if_false]
    cases hl:df (fun i=>dst ops i==some t) k with
    |none=>rfl
    |some i=>have:=(dN hl).1;exact jh (by omega)
theorem wg{a:Act}{k:Nat}(hf:∀t,a.tmps.getD t undef=cE ops base vals k t):a.eval =env ops base vals k:=by
  funext x
  cases x with
  |tmp t=>exact hf t
  |const v=>rfl
  |global g=>rfl
  |func f=>rfl
theorem lK{a:Act}{k:Nat}{o:Oper}(hf:∀t,a.tmps.getD t undef=cE ops base vals k t):Region.wanted o (yielded ops a.tmps)=cj ops (env ops base vals k) o:=by
  unfold Region.wanted cj
  cases hg:o.guard with
  |none=>rfl
  | some gw =>
    obtain⟨g,want⟩:=gw
    simp only
    congr 1
    unfold yielded
    cases hd:(ops[g]?).bind (·.dst) with
    |none=>simp[dst,hd]
    | some t =>
      have h2:env ops base vals k (.tmp t)=a.tmps.getD t undef:=(hf t).symm
      simp only[dst,hd,h2,Option.bind_some]
      cases ht:a.tmps[t]? with
      |none=>simp[ht,undef]
      |some v=>cases v<;>simp[ht]
theorem pj{a:Act}{k:Nat}{o:Oper}(hok:lJ ops n=true)(ho:ops[k]? =some o)(hts:a.tmps.size =n)(hf:∀t,a.tmps.getD t undef=cE ops base vals k t)(v:Value)(t:Nat):
    (a.put o.dst v).tmps.getD t undef=cE ops base (aS vals k v) (k+1) t:=by
  rw[qT ho]
  cases hd:o.dst with
  |none=>simp[Act.put, ←hf t]
  | some d =>
    have hdn:d<n:=by
      have:=List.all_eq_true.1 hok o (by simpa using Array.mem_of_getElem? ho)
      simpa[hd] using this
    by_cases e:d=t
    · subst e;simp[Act.put,hts,hdn]
    · have : ¬ (some d = some t) := by simpa using e
      rw[if_neg this, ←hf t]
      simp[Act.put,Array.getElem?_setIfInBounds_ne e]
theorem nq{w0:World}{Q:Exit→Act→World→Prop}{k:Nat}{o:Oper}(ho:ops[k]? =some o)(hw:cj ops (env ops base vals k) o=true){R:Value→Heap→Prop}(hf:mT P (env ops base vals k) o h R)
    (hs:∀v h',R v h'→we P ops n base w0 Q (k+1) (aS vals k v) h'):we P ops n base w0 Q k vals h:=by
  intro hok a w hd hts hfr hsm hh
  have hlt:=(Array.getElem?_eq_some_iff.1 ho).1
  rw[show ops.size - k=(ops.size - (k+1))+1 by omega,List.range'_succ,wpOps_cons]
  exact lH ho (by rw[wg hfr]) (by rw[lK hfr];exact hw) hh hf fun v w' DD hr=>hs v _ hr hok _ w' (by cases o.dst <;>simp[Act.put,hd]) (by cases o.dst <;>simp[Act.put,hts]) (pj hok ho hts hfr v) (hsm.trans DD) rfl
theorem uN{w0:World}{Q:Exit→Act→World→Prop}{k:Nat}{o:Oper}(ho:ops[k]? =some o)(hw:cj ops (env ops base vals k) o=false)
    (hs:we P ops n base w0 Q (k+1) (aS vals k undef) h):we P ops n base w0 Q k vals h:=by
  intro hok a w hd hts hfr hsm hh
  have hlt:=(Array.getElem?_eq_some_iff.1 ho).1
  rw[show ops.size - k=(ops.size - (k+1))+1 by omega,List.range'_succ,wpOps_cons]
  exact nm ho (by rw[lK hfr];exact hw)<|hs hok _ w (by cases o.dst <;>simp[Act.put,hd]) (by cases o.dst <;>simp[Act.put,hts]) (pj hok ho hts hfr undef) hsm hh
theorem aP.dO{k k':Nat}{v v':Value}(hv:aN P ops base vals k=some v')(e:v'=v)(hk:k+1=k')(hs:aP P ops n base K k' (aS vals k v) h):aP P ops n base K k vals h:=by
  subst e;subst hk
  intro w0
  unfold aN at hv
  cases ho:ops[k]? with
  |none=>simp[ho] at hv
  | some o =>
    simp only[ho] at hv
    cases hw:cj ops (env ops base vals k) o with
    | false =>
      simp only[hw,Option.some.injEq] at hv
      subst hv
      exact uN ho hw (hs w0)
    | true =>
      simp only[hw] at hv
      refine nq ho hw (gG hv h) fun v h' ⟨h1,h2⟩=> ?_
      subst h1;subst h2
      exact hs w0
def y6(P:Program)(ops:Array Oper)(base:Nat→Value):Nat→List Value→aQ→List (Option Value)
  |_,[],_=>[]
  |k,v::vs,vals=>aN P ops base vals k::y6 P ops base (k+1) vs (aS vals k v)
def DE:aQ→Nat→List Value→aQ
  |vals,_,[]=>vals
  |vals,k,v::vs=>DE (aS vals k v) (k+1) vs
theorem aP.eff{k k':Nat}{R:Value→Heap→Prop}(hd:Does P ops base vals k h R)(hk:k+1=k')(hs:∀v h',R v h'→aP P ops n base K k' (aS vals k v) h'):aP P ops n base K k vals h:=by
  subst hk
  intro w0
  obtain⟨o,ho,hw,hf⟩:=hd.does
  exact nq ho hw hf fun v h' hr=>hs v h' hr w0
theorem aP.calm{k k':Nat}{v:Value}(hd:Calm P ops base vals k h v)(hk:k+1=k')(hs:aP P ops n base K k' (aS vals k v) h):aP P ops n base K k vals h:=
  aP.eff hd hk fun v' h' ⟨h1,h2⟩=>by subst h1;subst h2;exact hs
/-! ### code -/
theorem da(m j:Nat):(Array.replicate m false).getD j false=false:=by
  rcases Nat.lt_or_ge j m with h|h
  · simp[h]
  · simp[h]
def C(P:Program)(c:Code)(K:Exit→Act→Heap→Prop)(a:Act)(h:Heap):Prop:=
  ∀w:World,w.heap =h→c.wp P (fun e a' w'=>Same w w'∧K e a' w'.heap) a w
def sub:Code→List Nat→Code
  |c,[]=>c
  | .seq x _,0::p=>sub x p
  | .seq _ y,_::p=>sub y p
  | .cond _ x _,0::p=>sub x p
  | .cond _ _ y,_::p=>sub y p
  | .block _ x,_::p=>sub x p
  | .loop x,_::p=>sub x p
  | .scope x,_::p=>sub x p
  |c,_=>c
def cG(c:Code)(p:List Nat):Array Oper:=match sub c p with| .region _ ops _=>ops|_=> #[]
def gx(N:Act→Heap→Prop)(K:Exit→Act→Heap→Prop):Exit→Act→Heap→Prop
  | .normal,a,h=>N a h
  |e,a,h=>K e a h
def iR(id:Nat)(K:Exit→Act→Heap→Prop):Exit→Act→Heap→Prop
  | .exit i,a,h=>match Nat.beq i id with|true=>K .normal a h|false=>K (.exit i) a h
  |e,a,h=>K e a h
theorem C.mono{c:Code}{a:Act}{K K':Exit→Act→Heap→Prop}(hc:C P c K a h)(hk:∀e a h,K e a h→K' e a h):C P c K' a h:=
  fun w hw=>wp_mono (hc w hw) fun _ _ _ ⟨s,k⟩=>⟨s,hk _ _ _ k⟩
section
variable {B:Code} {p:List Nat} {a:Act}
theorem C.seq(p0 p1:List Nat)(hc:sub B p= .seq (sub B p0) (sub B p1))(hh:C P (sub B p0) (gx (fun a h=>C P (sub B p1) K a h) K) a h):C P (sub B p) K a h:=by
  rw[hc]
  intro w hw
  refine wp_seq (wp_mono (hh w hw) fun e a' w' ⟨s,k⟩=> ?_)
  cases e with
  | normal =>
    exact wp_mono (k w' rfl) fun e a w ⟨s',k'⟩=>⟨s.trans s',k'⟩
  |exit i=>exact⟨s,k⟩
  |goto l=>exact⟨s,k⟩
  |ret=>exact⟨s,k⟩
  |panic c=>exact⟨s,k⟩
  |outgrown=>exact⟨s,k⟩
theorem C.skip(hc:sub B p= .skip)(hh:K .normal a h):C P (sub B p) K a h:=by
  rw[hc];intro w hw;exact wp_skip ⟨Same.refl w,hw▸hh⟩
theorem C.ret(hc:sub B p= .ret)(hh:K .ret a h):C P (sub B p) K a h:=by
  rw[hc];intro w hw;exact wp_ret ⟨Same.refl w,hw▸hh⟩
theorem C.exit(id:Nat)(hc:sub B p= .exit id)(hh:K (.exit id) a h):C P (sub B p) K a h:=by
  rw[hc];intro w hw;exact wp_exit ⟨Same.refl w,hw▸hh⟩
theorem C.block(id:Nat)(p0:List Nat)(hc:sub B p= .block id (sub B p0))(hh:C P (sub B p0) (iR id K) a h):C P (sub B p) K a h:=by
  rw[hc]
  intro w hw
  refine wp_block (wp_mono (hh w hw) fun e a' w' ⟨s,k⟩=> ?_)
  cases e with
  | exit i =>
    simp only[iR] at k
    simp only[Exit.inBlock]
    cases e:Nat.beq i id with
    |true=>simp only[e] at k;rw[if_pos (Nat.eq_of_beq_eq_true e)];exact⟨s,k⟩
    |false=>simp only[e] at k;rw[if_neg (Nat.ne_of_beq_eq_false e)];exact⟨s,k⟩
  |normal=>exact⟨s,k⟩
  |goto l=>exact⟨s,k⟩
  |ret=>exact⟨s,k⟩
  |panic c=>exact⟨s,k⟩
  |outgrown=>exact⟨s,k⟩
theorem Fr.eval{L:List (Nat×Value)}(hf:Fr a n L){t:Nat}{v:Value}(hv:∀d,lk L t d=v):a.tmps.getD t undef=v:=by rw[hf.get t];exact hv _
theorem C.AN{L:List (Nat×Value)}(t:Nat)(p0 p1:List Nat)(hc:sub B p= .cond (.tmp t) (sub B p0) (sub B p1))(hf:Fr a n L)(hv:∀d,lk L t d= .bool true)(hh:C P (sub B p0) K a h):C P (sub B p) K a h:=by
  rw[hc];intro w hw;exact wp_cond_true (show a.eval (.tmp t)=_ from hf.eval hv) (hh w hw)
theorem C.AO{L:List (Nat×Value)}(t:Nat)(p0 p1:List Nat)(hc:sub B p= .cond (.tmp t) (sub B p0) (sub B p1))(hf:Fr a n L)(hv:∀d,lk L t d= .bool false)(hh:C P (sub B p1) K a h):C P (sub B p) K a h:=by
  rw[hc];intro w hw;exact wp_cond_false (show a.eval (.tmp t)=_ from hf.eval hv) (hh w hw)
theorem C.wh{L:List (Nat×Value)}(t:Nat)(b:Bool)(p0 p1:List Nat)(hc:sub B p= .cond (.tmp t) (sub B p0) (sub B p1))(hf:Fr a n L)(hv:∀d,lk L t d= .bool b)
    (ht:b=true→C P (sub B p0) K a h) (he:b=false→C P (sub B p1) K a h):C P (sub B p) K a h:=by
  cases b with
  |true=>exact C.AN t p0 p1 hc hf hv (ht rfl)
  |false=>exact C.AO t p0 p1 hc hf hv (he rfl)
open Classical in
theorem C.loop(I:Nat→Act→Heap→Prop)(m0:Nat)(p0:List Nat)(hc:sub B p= .loop (sub B p0))(h0:I m0 a h)
    (round:∀m a h,I m a h→C P (sub B p0) (gx (fun a h=>∃m',m'<m∧I m' a h) K) a h):C P (sub B p) K a h:=by
  rw[hc]
  intro w hw
  have ex:∀(a:Act) (w:World),(∃m,I m a w.heap)→∃m,I m a w.heap ∧∀k,I k a w.heap →m≤k:=by
    intro a w ⟨m,hm⟩
    induction m using Nat.strongRecOn with
    | _ m ih =>
      by_cases hk:∃k,k<m∧I k a w.heap
      · obtain⟨k,hlt,hI⟩:=hk;exact ih k hlt hI
      · exact⟨m,hm,fun k hI=>Nat.le_of_not_lt fun hl=>hk ⟨k,hl,hI⟩⟩
  refine wp_loop (fun a' w'=>Same w w'∧∃m,I m a' w'.heap) (fun a' w'=>if hx:∃m,I m a' w'.heap then (ex a' w' hx).choose else 0) ⟨Same.refl w,m0,hw▸h0⟩ ?_
  intro a' w' ⟨hs,hx⟩
  have hm:=(ex a' w' hx).choose_spec
  have hmu:(if hx:∃m,I m a' w'.heap then (ex a' w' hx).choose else 0)=(ex a' w' hx).choose :=dif_pos hx
  rw[hmu]
  refine wp_mono (round _ a' w'.heap hm.1 w' rfl) fun e a2 w2 ⟨s,k⟩=> ?_
  cases e with
  | normal =>
    obtain⟨m',hlt,hI⟩:=k
    have hx2:∃m,I m a2 w2.heap :=⟨m',hI⟩
    refine⟨⟨hs.trans s,hx2⟩, ?_⟩
    rw[dif_pos hx2]
    exact Nat.lt_of_le_of_lt ((ex a2 w2 hx2).choose_spec.2 m' hI) hlt
  |exit i=>exact⟨hs.trans s,k⟩
  |goto l=>exact⟨hs.trans s,k⟩
  |ret=>exact⟨hs.trans s,k⟩
  |panic c=>exact⟨hs.trans s,k⟩
  |outgrown=>exact⟨hs.trans s,k⟩
theorem C.plain{L:List (Nat×Value)}(id:Nat)(hc:sub B p= .region id (cG B p) false)(hf:Fr a n L)(hok:lJ (cG B p) n=true)
    (hh:aP P (cG B p) n (fun t=>lk L t (a.tmps.getD t undef)) K 0 (fun _=>undef) h):C P (sub B p) K a h:=by
  rw[hc]
  intro w hw
  refine wp_region ?_
  have:=hh w hok a w hf.defers hf.size (fun t=>by rw[hf.get t];rfl) (Same.refl w) hw
  simpa[List.range_eq_range'] using this
theorem C.draw{A:List Nat}{L:List (Nat×Value)}(id:Nat)(hc:sub B p= .region id (cG B p) true)(hm:P.follows .mixedOrders =true)(hf:Fr a n L)(hok:eC (cG B p) A n=true)
    (hh:aF P (cG B p) A n (fun t=>lk L t (a.tmps.getD t undef)) K 0 0 0 (fun _=>undef) h):C P (sub B p) K a h:=by
  rw[hc]
  intro w hw
  refine wp_region_any hm<|hh w hok (fun j o _ hj=>by simp at hj) _ _ a _ ?_ (by unfold Ba;exact Nat.le_trans Array.countP_le_size (by simp))
  exact
    { size := by simp
      sub:=fun i hi=>by simp only[jk,da] at hi;cases hi
      sup:=fun i _ hi=>by simp at hi
      closed:=fun j o _ hj=>by simp only[jk,da] at hj;cases hj
      defers:=hf.defers
      iJ:=hf.size
      frame:=fun t=>by
        rw[hf.get t]
        unfold dC
        rw[fF]
        intro j _
        simp only[jk,da,Bool.false_and]
      pend:=fun j _ hj=>by simp at hj
      heap:=hw
      same:=⟨rfl,rfl,rfl⟩}
end
end
end Go.ai
namespace Go.ai
open Go
/-! ### heaps -/
/-- all that was there is there, but for one block -/
structure Grew(o:Option Nat)(h h':Heap):Prop where
  size:h.size ≤h'.size
  get:∀k,k<h.size →some k≠o→h'[k]? =h[k]?
abbrev Ext(h h':Heap):Prop:=Grew none h h'
theorem Grew.refl(o:Option Nat)(h:Heap):Grew o h h:=⟨Nat.le_refl _,fun _ _ _=>rfl⟩
theorem Grew.trans{o:Option Nat}{a b c:Heap}(h:Grew o a b)(k:Grew o b c):Grew o a c:=
  ⟨Nat.le_trans h.size k.size,fun i hi ho=>(k.get i (Nat.lt_of_lt_of_le hi h.size) ho).trans (h.get i hi ho)⟩
theorem Ext.refl(h:Heap):Ext h h:=Grew.refl none h
theorem Ext.but{h h':Heap}(e:Ext h h')(o:Option Nat):Grew o h h':=⟨e.size,fun k hk _=>e.get k hk (by simp)⟩
theorem Ext.push(h:Heap)(o:Obj):Ext h (h.push o):=⟨by simp,fun k hk _=>by rw[Array.getElem?_push,if_neg (by omega)]⟩
theorem Ext.grew{h0 h h':Heap}{o:Option Nat}(e:Ext h0 h)(g:Grew o h h')(ho:∀k,o=some k→h0.size ≤k):Ext h0 h':=
  ⟨Nat.le_trans e.size g.size,fun k hk _=>(g.get k (Nat.lt_of_lt_of_le hk e.size) (fun he=>by have:=ho k he.symm;omega)).trans (e.get k hk (by simp))⟩
theorem Ext.ext{a b c:Heap}(h:Ext a b)(k:Ext b c):Ext a c:=Grew.trans h k
theorem aj{h:Heap}{b:Nat}{o:Obj}(e:h[b]? =some o):b<h.size :=(Array.getElem?_eq_some_iff.1 e).1
theorem Grew.blk{o:Option Nat}{h h':Heap}{b:Nat}{x:Obj}(g:Grew o h h')(e:h[b]? =some x)(hne:some b≠o):h'[b]? =some x:=by rw[g.get b (aj e) hne];exact e
theorem Ext.blk{h h':Heap}{b:Nat}{x:Obj}(g:Ext h h')(e:h[b]? =some x):h'[b]? =some x:=Grew.blk g e (by simp)
theorem wi(h:Heap)(o:Obj):(h.push o)[h.size]? =some o:=by simp
theorem gI{h:Heap}{p:Addr}{v:Value}(e:hcell h p=some v):p.block <h.size :=by
  unfold hcell at e
  cases hb:h[p.block]? with
  |none=>simp[hb] at e
  |some o=>exact aj hb
theorem dP{h h':Heap}{p:Addr}(e:h'[p.block]? =h[p.block]?):hcell h' p=hcell h p:=by unfold hcell;rw[e]
theorem Grew.cell{o:Option Nat}{h h':Heap}{p:Addr}{v:Value}(g:Grew o h h')(e:hcell h p=some v)(hne:some p.block ≠o):hcell h' p=some v:=by
  rw[dP (g.get _ (gI e) hne)];exact e
theorem Ext.cell{h h':Heap}{p:Addr}{v:Value}(g:Ext h h')(e:hcell h p=some v):hcell h' p=some v:=Grew.cell g e (by simp)
theorem an{h:Heap}{b off:Nat}{cs:Array Value}{E:TypeId}{fr:Nat×Nat}(e:h[b]? =some (.cells cs E fr)):hcell h ⟨b,off,none⟩=cs[off]? :=by
  simp[hcell,e]
theorem add_lit(b off j:Nat):(⟨b,off,none⟩:Addr).add j=⟨b,off+j,none⟩:=by unfold Addr.add;split<;>simp_all
theorem add_add(a:Addr)(i j:Nat):(a.add i).add j=a.add (i+j):=by
  unfold Addr.add
  by_cases h1:i=0<;>by_cases h2:j=0<;>simp[h1,h2,Nat.add_assoc]
theorem add_block(a:Addr)(i:Nat):(a.add i).block =a.block :=by unfold Addr.add;split<;>rfl
/-! ### what a slice reads as: n elements of sz cells -/
def Row(h:Heap)(v:Value)(n sz:Nat)(xs:List Value):Prop:=
  xs.length =n*sz∧((v= .slice none 0 0∧n=0)∨∃a cap,v= .slice (some a) n cap∧n≤cap∧∀j u,xs[j]? =some u→hcell h (a.add j)=some u)
theorem Row.ext{h h':Heap}{v:Value}{n sz:Nat}{xs:List Value}(r:Row h v n sz xs)(g:Ext h h'):Row h' v n sz xs:=
  ⟨r.1,r.2.imp id fun⟨a,cap,e,hc,hx⟩=>⟨a,cap,e,hc,fun j u hu=>g.cell (hx j u hu)⟩⟩
theorem Row.nil(h:Heap)(sz:Nat):Row h (.slice none 0 0) 0 sz []:=⟨by simp, .inl ⟨rfl,rfl⟩⟩
theorem Row.at{h:Heap}{v:Value}{n sz:Nat}{xs:List Value}(r:Row h v n sz xs)(hn:0<n):∃a cap,v= .slice (some a) n cap∧n≤cap∧∀j u,xs[j]? =some u→hcell h (a.add j)=some u:=
  r.2.resolve_left fun⟨_,e⟩=>by omega
def Own(h:Heap)(v:Value)(E:TypeId)(n sz:Nat)(xs:List Value):Prop:=
  xs.length =n*sz∧((v= .slice none 0 0∧n=0)∨∃g off cap l,v= .slice (some ⟨g,off,none⟩) n cap∧h[g]? =some (.cells l E (0,0))∧n≤cap∧cap≤maxLen∧off+cap*sz≤l.size ∧(l.toList.drop off).take (n*sz)=xs)
def aZ:Value→Option Nat
  | .slice (some a) _ _=>some a.block
  |_=>none
theorem Own.nil(h:Heap)(E:TypeId)(sz:Nat):Own h (.slice none 0 0) E 0 sz []:=⟨by simp, .inl ⟨rfl,rfl⟩⟩
theorem Own.row{h:Heap}{v:Value}{E:TypeId}{n sz:Nat}{xs:List Value}(o:Own h v E n sz xs):Row h v n sz xs:=by
  refine⟨o.1,o.2.imp id ?_⟩
  rintro⟨g,off,cap,l,e,hg,hc,_,hl,hx⟩
  refine⟨_,cap,e,hc,fun j u hu=> ?_⟩
  rw[add_lit,an hg]
  rw[←hx,List.getElem?_take] at hu
  split at hu
  · rw [List.getElem?_drop] at hu
    simpa using hu
  · cases hu
theorem Own.lt{h:Heap}{v:Value}{E:TypeId}{n sz:Nat}{xs:List Value}(o:Own h v E n sz xs){k:Nat}(hk:aZ v=some k):k<h.size :=by
  rcases o.2 with⟨e,_⟩|⟨g,off,cap,l,e,hg,_⟩
  · subst e;simp[aZ] at hk
  · subst e;simp only[aZ,Option.some.injEq] at hk;subst hk;exact aj hg
theorem Own.kept{o:Option Nat}{h h':Heap}{v:Value}{E:TypeId}{n sz:Nat}{xs:List Value}(w:Own h v E n sz xs)(g:Grew o h h')(hne:aZ v=none∨aZ v≠o):Own h' v E n sz xs:=by
  refine⟨w.1,w.2.imp id ?_⟩
  rintro⟨b,off,cap,l,e,hg,r⟩
  refine⟨b,off,cap,l,e,g.blk hg ?_,r⟩
  subst e
  simpa[aZ] using hne
theorem Own.ext{h h':Heap}{v:Value}{E:TypeId}{n sz:Nat}{xs:List Value}(w:Own h v E n sz xs)(g:Ext h h'):Own h' v E n sz xs:=
  w.kept g (by cases aZ v<;>simp)
section
variable {P:Program} {ops:Array Oper} {base:Nat→Value} {vals:aQ} {h:Heap} {i:Nat} {K:Exit→Act→Heap→Prop}
/-! ### a function's beginning and end -/
def qU(P:Program)(fn:Func)(R:Value→Heap→Prop):Exit→Act→Heap→Prop
  | .normal,a,h| .ret,a,h=>a.defers =[]∧∃v,(∀w:World,w.heap =h→(results fn a.tmps).run P w= .ok v w)∧R v h
  |_,_,_=>False
def uO:Nat→List Value→List (Nat×Value)
  |_,[]=>[]
  |k,v::vs=>(k,v)::uO (k+1) vs
theorem y7(vs:List Value)(k t:Nat)(d:Value)(hk:k≤t):lk (uO k vs) t d=(vs[t - k]?).getD d:=by
  induction vs generalizing k with
  |nil=>simp[uO,lk]
  | cons v vs ih =>
    simp only[uO,lk]
    cases e:Nat.beq k t with
    |true=>have:=Nat.eq_of_beq_eq_true e;subst this;simp
    | false =>
      have hne:=Nat.ne_of_beq_eq_false e
      simp only
      rw[ih (k+1) (by omega)]
      obtain⟨m,hm⟩:∃m,t - k=m+1:=⟨t - k - 1,by omega⟩
      rw[hm,show t - (k+1)=m by omega]
      simp
theorem Bc{fn:Func}{B:Code}{f:FuncId}{args:List Value}{n:Nat}{L:List (Nat×Value)}{R:Value→Heap→Prop}(hf:P.funcs[f]? =some fn)(hb:fn.body =some B)(hn:args.length +(fn.ntmps - args.length)=n)
    (hL:uO 0 args=L) (hc:∀a,Fr a n L→C P (sub B []) (qU P fn R) a h):Sat P f args.toArray h R:=by
  intro w hw
  refine calls_of_wp hf hb ?_
  subst hL
  have hB:sub B []=B:=by cases B<;>rfl
  rw[hB] at hc
  refine wp_mono (hc {tmps:=args.toArray ++Array.replicate (fn.ntmps - args.toArray.size) undef,defers:=[]} ⟨rfl,by simp[←hn],fun t=> ?_⟩ w hw) ?_
  · rw [y7 _ 0 t _ (Nat.zero_le t), Nat.sub_zero]
    by_cases ht:t<args.length
    · simp[Array.getElem?_append,ht]
    · simp[List.getElem?_eq_none (Nat.le_of_not_lt ht)]
  · rintro e a w' ⟨hs, hk⟩
    cases e with
    |normal=>obtain⟨hd,v,hr,hR⟩:=hk;exact⟨hd,v,hr w' rfl,v,rfl,hs,hR⟩
    |ret=>obtain⟨hd,v,hr,hR⟩:=hk;exact⟨hd,v,hr w' rfl,v,rfl,hs,hR⟩
    |exit i=>exact hk
    |goto l=>exact hk
    |panic c=>exact hk.elim
    |outgrown=>exact hk.elim
def Loads(P:Program)(h:Heap)(T:TypeId)(p:Addr)(v:Value):Prop:=∀w:World,w.heap =h→(loadVar T p).run P w= .ok v w
def wj(P:Program)(b:Nat→Value)(h:Heap):ResultVar→Value→Prop
  | .tmp t,v=>b t=v
  | .cell t T,v=>∃p,b t= .pointer (some p)∧Loads P h T p v
def ow(P:Program)(b:Nat→Value)(h:Heap):List ResultVar→List Value→Prop
  |[],[]=>True
  |r::rs,v::vs=>wj P b h r v∧ow P b h rs vs
  |_,_=>False
def qV:List Value→Value
  |[v]=>v
  |vs=> .tuple vs.toArray
def ox(tmps:Array Value):ResultVar→Sem Value
  | .tmp t=>pure (tmps.getD t undef)
  | .cell a t=>do loadVar t (←asAddr (tmps.getD a undef))
theorem qW{tmps:Array Value}{w:World}(hw:w.heap =h){r:ResultVar}{v:Value}(hr:wj P (fun t=>tmps.getD t undef) h r v):(ox tmps r).run P w= .ok v w:=by
  cases r with
  |tmp t=>simp only[wj] at hr;subst hr;rfl
  | cell t T =>
    obtain⟨p,hp,hl⟩:=hr
    have hp':tmps.getD t undef= .pointer (some p):=hp
    simp only[ox,hp',asAddr,Sem.run_bind,Sem.run_pure,Result.andThen_ok,hl w hw]
theorem pk{tmps:Array Value}{w:World}(hw:w.heap =h):∀(rs:List ResultVar) (vs:List Value),ow P (fun t=>tmps.getD t undef) h rs vs→
    (rs.mapM (ox tmps)).run P w= .ok vs w
  |[],[],_=>by simp
  | r :: rs, v :: vs, hr => by
    rw[List.mapM_cons]
    simp only[Sem.run_bind,qW hw hr.1,Result.andThen_ok,pk hw rs vs hr.2,Sem.run_pure]
  |[],_::_,hr=>hr.elim
  |_::_,[],hr=>hr.elim
theorem qX{fn:Func}{tmps:Array Value}{rs:List ResultVar}{vs:List Value}(hr:fn.results =rs.toArray)(ho:ow P (fun t=>tmps.getD t undef) h rs vs)(w:World)(hw:w.heap =h):
    (results fn tmps).run P w= .ok (qV vs) w:=by
  have e:results fn tmps=(do let vs←fn.results.mapM (ox tmps);pure (if h:vs.size =1 then vs[0] else .tuple vs)):=by
    unfold results
    congr 2
  rw[e,hr,List.mapM_toArray]
  simp only[Sem.run_bind,Sem.run_map,pk hw rs vs ho,Result.andThen_ok,Sem.run_pure]
  congr 1
  match vs with
  |[]=>rfl
  |[v]=>rfl
  |v::u::vs=>simp[qV]
theorem aA{fn:Func}{n:Nat}{L:List (Nat×Value)}{a:Act}{R:Value→Heap→Prop}(rs:List ResultVar)(vs:List Value)(v:Value)(hr:fn.results =rs.toArray)(hf:Fr a n L)
    (ho:ow P (fun t=>lk L t (a.tmps.getD t undef)) h rs vs) (hv:qV vs=v) (hR:R v h):qU P fn R .ret a h:=by
  subst hv
  refine⟨hf.defers,_,fun w hw=>qX hr ?_ w hw,hR⟩
  have:(fun t=>lk L t (a.tmps.getD t undef))=fun t=>a.tmps.getD t undef:=funext fun t=>(hf.get t).symm
  rwa [this] at ho
end
end Go.ai
namespace Go.ai
open Go
section
variable {P:Program} {ops:Array Oper} {base:Nat→Value} {vals:aQ} {h:Heap} {i:Nat} {K:Exit→Act→Heap→Prop}
theorem kg{x:Int}(h1: -9223372036854775808≤x)(h2:x≤9223372036854775807):IntKind.i64.wrap x=x:=by
  simp only[IntKind.wrap,IntKind.bits,IntKind.signed]
  simp
  omega
def i_ (ops : Array Oper) (base : Nat → Value) (vals : aQ) (i : Nat) : Option Oper :=
  match ops[i]? with
  | some o => match cj ops (env ops base vals i) o with
    |true=>some o
    |false=>none
  |none=>none
theorem y8{R:Value→Heap→Prop}{o:Oper}(ho:i_ ops base vals i=some o)(hf:mT P (env ops base vals i) o h R):Does P ops base vals i h R:=by
  unfold i_ at ho
  cases h1:ops[i]? with
  |none=>simp[h1] at ho
  | some o' =>
    simp only[h1] at ho
    cases h2:cj ops (env ops base vals i) o' with
    |false=>simp[h2] at ho
    | true =>
      simp only[h2,Option.some.injEq] at ho
      subst ho
      exact⟨_,h1,h2,hf⟩
theorem aO{R:Value→Heap→Prop}{α:Type}{f:Oper→Option α}{x:α}(hx:(i_ ops base vals i).bind f=some x)(hf:∀o,f o=some x→mT P (env ops base vals i) o h R):Does P ops base vals i h R:=by
  cases h1:i_ ops base vals i with
  |none=>simp[h1] at hx
  |some o=>exact y8 h1 (hf o (by simpa[h1] using hx))
/-! a call -/
def AP(P:Program)(e:Operand→Value)(o:Oper):Option (FuncId×Array Value):=
  match jm P (execOp e o) with
  |some (.enter f args)=>some (f,args)
  |_=>none
def qY(P:Program)(ops:Array Oper)(base:Nat→Value)(vals:aQ)(i:Nat):Option (FuncId×Array Value):=(i_ ops base vals i).bind (AP P (env ops base vals i))
theorem Does.call{R:Value→Heap→Prop}{f:FuncId}{args:Array Value}(hx:qY P ops base vals i=some (f,args))(hs:Sat P f args h R):Does P ops base vals i h R:=by
  refine aO hx fun o ho w hw=> ?_
  unfold AP at ho
  cases hc:jm P (execOp (env ops base vals i) o) with
  |none=>simp[hc] at ho
  | some x =>
    rw[hc] at ho
    cases x<;>simp only[Option.some.injEq,Prod.mk.injEq] at ho<;>first| (cases ho;done)|skip
    obtain⟨rfl,rfl⟩:=ho
    rw[fM hc w]
    exact⟨Same.refl w,hw▸hs⟩
/-! a load -/
def AQ (e : Operand → Value) (o : Oper) : Option (TypeId × Addr) :=
  match o.op with
  | .load t x => match e x with
    | .pointer (some p)=>some (t,p)
    |_=>none
  |_=>none
def eN(ops:Array Oper)(base:Nat→Value)(vals:aQ)(i:Nat):Option (TypeId×Addr):=(i_ ops base vals i).bind (AQ (env ops base vals i))
theorem Calm.load {T : TypeId} {p : Addr} {v : Value} (hx : eN ops base vals i = some (T, p)) (hl : Loads P h T p v) : Calm P ops base vals i h v := by
  refine aO hx fun o ho w hw=> ?_
  unfold AQ at ho
  cases hop:o.op with
  | load t x =>
    simp only[hop] at ho
    cases hv:env ops base vals i x with
    | pointer a =>
      cases a with
      |none=>simp[hv] at ho
      | some a =>
        simp only[hv,Option.some.injEq,Prod.mk.injEq] at ho
        obtain⟨rfl,rfl⟩:=ho
        have hr:(execOp (env ops base vals i) o).run P w= .ok (.value v) w:=by
          unfold execOp
          simp only[hop,Instr.loadAt,hv,Instr.sureAddr,Sem.run_bind,Sem.run_pure,Result.andThen_ok,hl w hw]
        rw[hr]
        exact⟨Same.refl w,rfl,hw⟩
    |_=>simp[hv] at ho
  |_=>simp[hop] at ho
def cM(P:Program)(T:TypeId):Option (Bool×Nat):=
  match P.underlying T,P.info? T with
  |some d,some i=>some ((match d with| .struct _| .array _ _=>true|_=>false),i.size)
  |_,_=>none
theorem Loads.one {T : TypeId} {p : Addr} {v : Value} {k : Nat} (ht : cM P T = some (false, k)) (hc : hcell h p = some v) : Loads P h T p v := by
  intro w hw
  unfold cM at ht
  cases hd:P.underlying T with
  |none=>simp[hd] at ht
  | some d =>
    cases hi:P.info? T with
    |none=>simp[hd,hi] at ht
    | some x =>
      simp only[hd,hi,Option.some.injEq,Prod.mk.injEq] at ht
      have hc':w.cell? p=some v:=by rw[eD hw];exact hc
      have ha:(isAgg T).run P w= .ok false w:=by
        unfold isAgg
        simp only[Sem.run_bind,run_underlying hd,Result.andThen_ok]
        cases d<;>first|rfl| (simp at ht)
      simp only[loadVar,Sem.run_bind,ha,Result.andThen_ok]
      simp[load,Sem.run,hc']
theorem Loads.agg {T : TypeId} {p : Addr} {vs : List Value} (ht : cM P T = some (true, vs.length)) (hc : ∀ j u, vs[j]? = some u → hcell h (p.add j) = some u) : Loads P h T p (.agg vs.toArray) := by
  intro w hw
  unfold cM at ht
  cases hd:P.underlying T with
  |none=>simp[hd] at ht
  | some d =>
    cases hi:P.info? T with
    |none=>simp[hd,hi] at ht
    | some x =>
      simp only[hd,hi,Option.some.injEq,Prod.mk.injEq] at ht
      have ha:(isAgg T).run P w= .ok true w:=by
        unfold isAgg
        simp only[Sem.run_bind,run_underlying hd,Result.andThen_ok]
        cases d<;>first|rfl| (simp at ht)
      have hs:(sizeOf T).run P w= .ok vs.length w:=by
        simp[sizeOf,typeInfo,hi,ht.2]
      have hl:=run_loadCells_list (P:=P) w p vs (fun j u hu=>by rw[eD hw];exact hc j u hu)
      simp[loadVar,ha,hs,hl]
/-! a store -/
def qZ (P : Program) (e : Operand → Value) (o : Oper) : Option (Addr × List Value) :=
  match o.op with
  | .store t x y => match e x, P.info? t with
    | .pointer (some p), some i => match Nat.beq (e y).cells.size i.size with
      |true=>some (p,(e y).cells.toList)
      |false=>none
    |_,_=>none
  |_=>none
def fx(P:Program)(ops:Array Oper)(base:Nat→Value)(vals:aQ)(i:Nat):Option (Addr×List Value):=(i_ ops base vals i).bind (qZ P (env ops base vals i))
def splice(l:List Value)(off:Nat)(vs:List Value):List Value:=l.take off++vs++l.drop (off+vs.length)
def hput(h:Heap)(b:Nat)(o:Obj):Heap:=h.setIfInBounds b o
theorem fN{h:Heap}{b:Nat}{o x:Obj}(e:h[b]? =some x):(hput h b o)[b]? =some o:=by
  simp[hput,aj e]
theorem kh(h:Heap)(b:Nat)(o:Obj):Grew (some b) h (hput h b o):=
  ⟨by simp[hput],fun k _ hne=>by simp only[hput];rw[Array.getElem?_setIfInBounds_ne];simpa using Ne.symm (by simpa using hne)⟩
theorem kG{w:World}{b:Nat}{cs cs':Array Value}{E:TypeId}{fr:Nat×Nat}(e:w.heap[b]? =some (.cells cs E fr)):(w.setRow b cs').heap =hput w.heap b (.cells cs' E fr):=by
  apply Array.ext_getElem?
  intro k
  by_cases hk:k=b
  · subst hk
    rw[setRow_heap w k cs cs' E fr e,fN e]
  · rw [setRow_other w b k cs' hk]
    simp only[hput]
    rw[Array.getElem?_setIfInBounds_ne (Ne.symm hk)]
theorem Does.store{b off:Nat}{vs l:List Value}{E:TypeId}(hx:fx P ops base vals i=some (⟨b,off,none⟩,vs))(hb:h[b]? =some (.cells l.toArray E (0,0)))
    (hfit:off+vs.length ≤l.length) (h1:∀v∈vs,v.oneCell' =true):
    Does P ops base vals i h fun v h'=>v=undef∧h'=hput h b (.cells (splice l off vs).toArray E (0,0)):=by
  refine aO hx fun o ho w hw=> ?_
  unfold qZ at ho
  cases hop:o.op with
  | store t x y =>
    simp only[hop] at ho
    cases hv:env ops base vals i x with
    | pointer a =>
      cases a with
      |none=>simp[hv] at ho
      | some a =>
        cases hi:P.info? t with
        |none=>simp[hv,hi] at ho
        | some inf =>
          simp only[hv,hi] at ho
          cases hs:Nat.beq (env ops base vals i y).cells.size inf.size with
          |false=>simp[hs] at ho
          | true =>
            simp only[hs,Option.some.injEq,Prod.mk.injEq] at ho
            obtain⟨rfl,rfl⟩:=ho
            have hsz:=Nat.eq_of_beq_eq_true hs
            subst hw
            have hst:=run_storeCells_at P b off E (env ops base vals i y).cells.toList 0 l.toArray w hb (by simpa using hfit) h1
            simp only[Nat.add_zero] at hst
            have hr:(execOp (env ops base vals i) o).run P w= .ok .skip (w.setRow b (splice l off (env ops base vals i y).cells.toList).toArray):=by
              unfold execOp
              simp only[hop,Instr.storeAt,hv,Instr.sureAddr,storeVar,sizeOf,typeInfo,program,Sem.run_bind,Sem.run_pure,Result.andThen_ok,Sem.run,hi,hsz]
              simp[hst,splice]
            rw[hr]
            exact⟨⟨rfl,rfl,rfl⟩,rfl,kG hb⟩
    |_=>simp[hv] at ho
  |_=>simp[hop] at ho
/-! new blocks: one, of known contents -/
def newR (P : Program) {α : Type} (nb : Nat) : Sem α → Option (α × Obj)
  | .new o k => match jm P (k nb) with
    |some a=>some (a,o)
    |none=>none
  | .program k=>newR P nb (k P)
  | .mark _ k=>newR P nb k
  |_=>none
theorem lL{α:Type}{w:World}{nb:Nat}(hn:nb=w.heap.size):∀{s:Sem α} {a:α} {o:Obj},newR P nb s=some (a,o)→s.run P w= .ok a {w with heap:=w.heap.push o}
  | .new o k, a, o', hh => by
    simp only[newR] at hh
    cases hc:jm P (k nb) with
    |none=>simp[hc] at hh
    | some x =>
      simp only[hc,Option.some.injEq,Prod.mk.injEq] at hh
      obtain⟨rfl,rfl⟩:=hh
      simp only[Sem.run, ←hn]
      exact fM hc _
  | .program k,a,o',hh=>lL hn (s:=k P) hh
  | .mark _ k,a,o',hh=>lL hn (s:=k) hh
  | .pure _,_,_,hh=>by simp[newR] at hh
  | .load ..,_,_,hh=>by simp[newR] at hh
  | .store ..,_,_,hh=>by simp[newR] at hh
  | .shape ..,_,_,hh=>by simp[newR] at hh
  | .freeze ..,_,_,hh=>by simp[newR] at hh
  | .frozen ..,_,_,hh=>by simp[newR] at hh
  | .getObj ..,_,_,hh=>by simp[newR] at hh
  | .setObj ..,_,_,hh=>by simp[newR] at hh
  | .choose ..,_,_,hh=>by simp[newR] at hh
  | .sys ..,_,_,hh=>by simp[newR] at hh
  | .halt ..,_,_,hh=>by simp[newR] at hh
def newF(P:Program)(nb:Nat)(e:Operand→Value)(o:Oper):Option (Value×Obj):=
  match newR P nb (execOp e o) with
  |some (.value v,o)=>some (v,o)
  |_=>none
def wk(P:Program)(ops:Array Oper)(base:Nat→Value)(vals:aQ)(i nb:Nat):Option (Value×Obj):=(i_ ops base vals i).bind (newF P nb (env ops base vals i))
theorem Does.new{v:Value}{o:Obj}(hx:wk P ops base vals i h.size =some (v,o)):Does P ops base vals i h fun v' h'=>v'=v∧h'=h.push o:=by
  refine aO hx fun op ho w hw=> ?_
  subst hw
  unfold newF at ho
  cases hc:newR P w.heap.size (execOp (env ops base vals i) op) with
  |none=>simp[hc] at ho
  | some x =>
    obtain⟨x,o'⟩:=x
    rw[hc] at ho
    cases x<;>simp only[Option.some.injEq,Prod.mk.injEq] at ho<;>first| (cases ho;done)|skip
    obtain⟨rfl,rfl⟩:=ho
    rw[lL rfl hc]
    exact⟨⟨rfl,rfl,rfl⟩,rfl,rfl⟩
/-! an element's address -/
def Et (P : Program) (e : Operand → Value) (o : Oper) : Option (Addr × Nat × Nat × Int) :=
  match o.op with
  | .indexAddr t x ix => match e ix with
    | .int _ n => match P.underlying t with
      | some (.slice el) => match e x, P.info? el with
        | .slice (some a) len _,some i=>some (a,len,i.size,n)
        |_,_=>none
      | some (.array len el) => match e x, P.info? el with
        | .pointer (some a),some i=>some (a,len,i.size,n)
        |_,_=>none
      |_=>none
    |_=>none
  |_=>none
def q_(P:Program)(ops:Array Oper)(base:Nat→Value)(vals:aQ)(i:Nat):Option (Addr×Nat×Nat×Int):=(i_ ops base vals i).bind (Et P (env ops base vals i))
theorem Calm.index {a : Addr} {len sz : Nat} {k : Int} (j : Nat) (hx : q_ P ops base vals i = some (a, len, sz, k)) (hk : k = (j : Int)) (hj : j < len) (h : Heap) : Calm P ops base vals i h (.pointer (some (a.add (j * sz)))) := by
  subst hk
  refine aO hx fun o ho w hw=> ?_
  have hlt:(0:Int)≤(j:Int)∧(j:Int)<(len:Int):=⟨by omega,by omega⟩
  have hr : (execOp (env ops base vals i) o).run P w = .ok (.value (.pointer (some (a.add (j * sz))))) w := by
    unfold Et at ho
    cases hop:o.op with
    | indexAddr t x ix =>
      simp only[hop] at ho
      cases hi:env ops base vals i ix with
      | int kk n =>
        simp only[hi] at ho
        cases hu:P.underlying t with
        |none=>simp[hu] at ho
        | some d =>
          cases d<;>simp only[hu] at ho<;>first| (cases ho;done)|skip
          · rename_i el
            cases hv:env ops base vals i x with
            | slice b l c =>
              cases b with
              |none=>simp[hv] at ho
              | some b =>
                cases lM:P.info? el with
                |none=>simp[hv,lM] at ho
                | some inf =>
                  simp only[hv,lM,Option.some.injEq,Prod.mk.injEq] at ho
                  obtain⟨rfl,rfl,rfl,rfl⟩:=ho
                  unfold execOp
                  simp[hop,Instr.indexAt,hi,hv,asIntOf,run_underlying hu,sizeOf,typeInfo,lM,hlt]
                  omega
            |_=>simp[hv] at ho
          · rename_i n' el
            cases hv:env ops base vals i x with
            | pointer b =>
              cases b with
              |none=>simp[hv] at ho
              | some b =>
                cases lM:P.info? el with
                |none=>simp[hv,lM] at ho
                | some inf =>
                  simp only[hv,lM,Option.some.injEq,Prod.mk.injEq] at ho
                  obtain⟨rfl,rfl,rfl,rfl⟩:=ho
                  unfold execOp
                  simp[hop,Instr.indexAt,hi,hv,asIntOf,run_underlying hu,sizeOf,typeInfo,lM,hlt,Instr.sureAddr]
                  omega
            |_=>simp[hv] at ho
      |_=>simp[hi] at ho
    |_=>simp[hop] at ho
  rw[hr]
  exact⟨Same.refl w,rfl,hw⟩
/-! a piece of a slice -/
def fi (e : Operand → Value) : Option Operand → Option (Option Int)
  |none=>some none
  | some x => match e x with
    | .int _ n=>some (some n)
    |_=>none
def Eu (P : Program) (e : Operand → Value) (o : Oper) : Option (Option Addr × Nat × Nat × Nat × Option Int × Option Int × Option Int) :=
  match o.op with
  | .slice t x lo hi mx => match P.underlying t with
    | some (.slice el) => match e x, P.info? el, fi e lo, fi e hi, fi e mx with
      | .slice a len cap,some i,some l,some h,some m=>some (a,len,cap,i.size,l,h,m)
      |_,_,_,_,_=>none
    |_=>none
  |_=>none
def Bd(P:Program)(ops:Array Oper)(base:Nat→Value)(vals:aQ)(i:Nat):=(i_ ops base vals i).bind (Eu P (env ops base vals i))
theorem lN{e:Operand→Value}{x:Option Operand}{r:Option Int}(hx:fi e x=some r):(x=none∧r=none)∨∃k n,x.map e=some (.int k n)∧r=some n:=by
  cases x with
  |none=>simp only[fi,Option.some.injEq] at hx;exact .inl ⟨rfl,hx.symm⟩
  | some y =>
    simp only[fi] at hx
    cases hv:e y with
    |int k n=>simp only[hv,Option.some.injEq] at hx;exact .inr ⟨k,n,by simp[hv],hx.symm⟩
    |_=>simp[hv] at hx
theorem ns{k:IntKind}{n m:Nat}(hn:n≤m)(c:BoundsCode)(w:World):(Instr.sliceBound (.int k (n:Int)) m c).run P w= .ok n w:=by
  have:(0:Int)≤(n:Int)∧(n:Int)≤(m:Int):=⟨by omega,by omega⟩
  simp[Instr.sliceBound,asIntOf,this]
theorem re{len cap l r m:Nat}{lo hi mx:Option Value}(hm:mx=none∧m=cap∨(∃k,mx=some (.int k (m:Int)))∧m≤cap∧hi.isSome =true)(hr:hi=none∧r=len∨∃k,hi=some (.int k (r:Int)))
    (hl:lo=none∧l=0∨∃k,lo=some (.int k (l:Int))) (hlr:l≤r) (hrm:r≤m) (w:World):(Instr.sliceBounds true len cap lo hi mx).run P w= .ok (l,r,m) w:=by
  rcases hm with⟨rfl,rfl⟩|⟨⟨k3,rfl⟩,hm2,EZ⟩<;>rcases hr with⟨rfl,rfl⟩|⟨k2,rfl⟩<;>rcases hl with⟨rfl,rfl⟩|⟨k1,rfl⟩<;>
    first| (simp at EZ;done)|simp[Instr.sliceBounds,ns,hlr,hrm,hm2]|simp[Instr.sliceBounds,ns,hlr,hrm]
theorem ij{e:Operand→Value}{x:Option Operand}{n:Int}(hx:fi e x=some (some n)):∃k,x.map e=some (.int k n):=by
  rcases lN hx with⟨_,h⟩|⟨k,n',h1,h2⟩
  · cases h
  · simp only[Option.some.injEq] at h2;subst h2;exact⟨k,h1⟩
theorem ki{e:Operand→Value}{x:Option Operand}(hx:fi e x=some none):x.map e=none:=by
  rcases lN hx with⟨h,_⟩|⟨k,n',h1,h2⟩
  · subst h;rfl
  · cases h2
theorem Calm.slice {a : Option Addr} {len cap sz : Nat} {lo hi mx : Option Int} (l r m : Nat) (hx : Bd P ops base vals i = some (a, len, cap, sz, lo, hi, mx))
    (hm:mx=none∧m=cap∨mx=some (m:Int)∧m≤cap∧hi.isSome =true) (hr:hi=none∧r=len∨hi=some (r:Int)) (hl:lo=none∧l=0∨lo=some (l:Int)) (hlr:l≤r) (hrm:r≤m) (h:Heap):
    Calm P ops base vals i h (.slice (if m=l then a else a.map (·.add (l*sz))) (r - l) (m - l)):=by
  refine aO hx fun o ho w hw=> ?_
  have hrun:(execOp (env ops base vals i) o).run P w= .ok (.value (.slice (if m=l then a else a.map (·.add (l*sz))) (r - l) (m - l))) w:=by
    unfold Eu at ho
    cases hop:o.op with
    | slice t x lo' hi' mx' =>
      simp only[hop] at ho
      cases hu:P.underlying t with
      |none=>simp[hu] at ho
      | some d =>
        cases d<;>simp only[hu] at ho<;>first| (cases ho;done)|skip
        rename_i el
        cases hv:env ops base vals i x with
        | slice b le ca =>
          cases lM:P.info? el with
          |none=>simp[hv,lM] at ho
          | some inf =>
            simp only[hv,lM] at ho
            cases h1:fi (env ops base vals i) lo' with
            |none=>simp[h1] at ho
            | some lo1 =>
              cases h2:fi (env ops base vals i) hi' with
              |none=>simp[h1,h2] at ho
              | some hi1 =>
                cases h3:fi (env ops base vals i) mx' with
                |none=>simp[h1,h2,h3] at ho
                | some mx1 =>
                  simp only[h1,h2,h3,Option.some.injEq,Prod.mk.injEq] at ho
                  obtain⟨rfl,rfl,rfl,rfl,rfl,rfl,rfl⟩:=ho
                  have hb:(Instr.sliceBounds true le ca (lo'.map (env ops base vals i)) (hi'.map (env ops base vals i)) (mx'.map (env ops base vals i))).run P w= .ok (l,r,m) w:=by
                    refine re ?_ ?_ ?_ hlr hrm w
                    · rcases hm with ⟨e1, e2⟩ | ⟨e1, e2, e3⟩
                      · subst e1;exact .inl ⟨ki h3,e2⟩
                      · subst e1
                        refine .inr ⟨ij h3,e2, ?_⟩
                        cases hi1 with
                        |none=>simp at e3
                        |some q=>obtain⟨k,hk⟩:=ij h2;rw[hk];rfl
                    · rcases hr with ⟨e1, e2⟩ | e1
                      · subst e1;exact .inl ⟨ki h2,e2⟩
                      · subst e1;exact .inr (ij h2)
                    · rcases hl with ⟨e1, e2⟩ | e1
                      · subst e1;exact .inl ⟨ki h1,e2⟩
                      · subst e1;exact .inr (ij h1)
                  unfold execOp
                  simp[hop,Instr.sliceAt,Instr.slice,hv,run_underlying hu,sizeOf,typeInfo,lM,hb]
        |_=>simp[hv] at ho
    |_=>simp[hop] at ho
  rw[hrun]
  exact⟨Same.refl w,rfl,hw⟩
end
end Go.ai
namespace Go.ai
open Go
section
variable {P:Program} {h:Heap}
theorem aE{ops:Array Oper}{base:Nat→Value}{vals:aQ}{i:Nat}{v:Value}(hc:Calm P ops base vals i h v)(hv:vals i=v:=by rfl):Good P ops base vals h i:=by
  obtain⟨o,ho,hw,hf⟩:=hc.does
  exact⟨o,ho, .inl ⟨hw,by rw[hv];exact hf⟩⟩
theorem Loads.blk{T:TypeId}{b off:Nat}{vs:List Value}{cs:Array Value}{E:TypeId}{fr:Nat×Nat}(ht:cM P T=some (true,vs.length))(hb:h[b]? =some (.cells cs E fr))(hv:(cs.toList.drop off).take vs.length =vs):Loads P h T ⟨b,off,none⟩ (.agg vs.toArray):=by
  refine Loads.agg ht fun j u hu=> ?_
  rw[add_lit,an hb]
  rw[←hv,List.getElem?_take] at hu
  split at hu
  · rw[List.getElem?_drop] at hu;simpa using hu
  · cases hu
end
end Go.ai
namespace Go.ai
open Go
section
variable {P:Program} {ops:Array Oper} {base:Nat→Value} {vals:aQ} {h:Heap} {i:Nat}
theorem gJ{x y:Int}(h1: -9223372036854775808≤x)(h2:x≤9223372036854775807)(e:x=y):IntKind.i64.wrap x=y:=e▸kg h1 h2
/-! a shift by a number that is told elsewhere -/
def DF (e : Operand → Value) (o : Oper) : Option (Bool × IntKind × Int × Int) :=
  match o.op with
  | .binOp .shr _ x y _ => match e x, e y with
    | .int k a, .int _ b=>some (true,k,a,b)
    |_,_=>none
  | .binOp .shl _ x y _ => match e x, e y with
    | .int k a, .int _ b=>some (false,k,a,b)
    |_,_=>none
  |_=>none
def y9(ops:Array Oper)(base:Nat→Value)(vals:aQ)(i:Nat):=(i_ ops base vals i).bind (DF (env ops base vals i))
theorem Calm.shr {k : IntKind} {x y : Int} (n : Nat) (hx : y9 ops base vals i = some (true, k, x, y)) (hy : y = (n : Int)) (hn : n ≤ k.bits) (h : Heap) : Calm P ops base vals i h (.int k (x.fdiv (2 ^ n))) := by
  subst hy
  refine aO hx fun o ho w hw=> ?_
  have hr:(execOp (env ops base vals i) o).run P w= .ok (.value (.int k (x.fdiv (2^n)))) w:=by
    unfold DF at ho
    cases hop:o.op with
    | binOp op T a b T' =>
      cases op<;>simp only[hop] at ho<;>first| (cases ho;done)|skip
      · cases ha:env ops base vals i a<;>cases hb:env ops base vals i b<;>simp[ha,hb] at ho
      · cases ha : env ops base vals i a <;> cases hb : env ops base vals i b <;> simp only [ha, hb] at ho <;> first | (cases ho; done) | skip
        simp only[Option.some.injEq,Prod.mk.injEq,true_and] at ho
        obtain⟨rfl,rfl,rfl⟩:=ho
        have hneg:¬((n:Int)<0):=by omega
        unfold execOp
        simp[hop,eqGuard,binOp,ha,hb,Op.shift,hneg,Nat.min_eq_left hn]
    |_=>simp[hop] at ho
  rw[hr]
  exact⟨Same.refl w,rfl,hw⟩
/-! append to one's own -/
def wm (P : Program) (t : TypeId) : Option (TypeId × Nat × Nat × Bool) :=
  match P.underlying t with
  | some (.slice e) => match P.info? e with
    |some i=>some (e,i.size,i.bytes,match i.zero with|some z=>Nat.beq z.cells.size i.size &&Nat.blt 0 i.size |none=>false)
    |none=>none
  |_=>none
theorem jn{t E:TypeId}{sz db:Nat}(he:wm P t=some (E,sz,db,true)):P.underlying t=some (.slice E)∧∃i z,P.info? E=some i∧i.zero =some z∧i.size =sz∧i.bytes =db∧z.cells.size =sz∧0<sz:=by
  unfold wm at he
  cases hu:P.underlying t with
  |none=>simp[hu] at he
  | some d =>
    cases d<;>simp only[hu] at he<;>first| (cases he;done)|skip
    rename_i e
    cases hi:P.info? e with
    |none=>simp[hi] at he
    | some x =>
      simp only[hi,Option.some.injEq,Prod.mk.injEq] at he
      obtain⟨rfl,h1,h2,h3⟩:=he
      cases hz:x.zero with
      |none=>simp[hz] at h3
      | some z =>
        simp only[hz,Bool.and_eq_true] at h3
        have h4:=Nat.eq_of_beq_eq_true h3.1
        have h5:0<x.size :=by simpa using h3.2
        exact⟨rfl,x,z,hi,hz,h1,h2,by omega,by omega⟩
def DG (e : Operand → Value) (o : Oper) : Option (TypeId × TypeId × Value × Value) :=
  match o.op with
  | .call c => match c.callee, c.args.toList, c.argTypes.toList with
    | .builtin .append,[s,x],[t,t']=>some (t,t',e s,e x)
    |_,_,_=>none
  |_=>none
def oy(ops:Array Oper)(base:Nat→Value)(vals:aQ)(i:Nat):=(i_ ops base vals i).bind (DG (env ops base vals i))
theorem oz{e:Operand→Value}{o:Oper}{t t':TypeId}{v x:Value}(hx:DG e o=some (t,t',v,x))(w:World){r:Value}{w':World}(hr:(Builtin.append_ #[t,t'] o.type #[v,x]).run P w= .ok r w'):
    (execOp e o).run P w= .ok (.value r) w':=by
  unfold DG at hx
  cases hop:o.op with
  | call c =>
    obtain⟨cal,args,tys⟩:=c
    obtain⟨args⟩:=args
    obtain⟨tys⟩:=tys
    simp only[hop] at hx
    split at hx
    · skip
      simp only[Option.some.injEq,Prod.mk.injEq] at hx
      obtain⟨rfl,rfl,rfl,rfl⟩:=hx
      unfold execOp
      simp only[hop,resolve,invoke,builtin,Sem.run_bind,Sem.run_pure,Result.andThen_ok,List.map_toArray,List.map_cons,List.map_nil,hr]
    · cases hx
  |_=>simp[hop] at hx
theorem Does.append{t E:TypeId}{sz db n m:Nat}{v x:Value}{xs ys:List Value}(hx:oy ops base vals i=some (t,t,v,x))(he:wm P t=some (E,sz,db,true))
    (ho:Own h v E n sz xs) (hr:Row h x m sz ys) (h1:∀u∈ys,u.oneCell' =true) (hlen:n+m≤maxLen) (hbytes:(n+m)*db≤140737488355328):
    Does P ops base vals i h fun v' h'=>Own h' v' E (n+m) sz (xs++ys)∧Grew (aZ v) h h'∧(aZ v'=aZ v∨aZ v'=some h.size)∧(v'= .slice none 0 0∨∃a c,v'= .slice (some a) (n+m) c):=by
  obtain⟨hu,inf,z,hi,hz,hsize,hby,hzs,hpos⟩:=jn he
  subst hsize;subst hby
  have hlen':(xs++ys).length =(n+m)*inf.size :=by rw[List.length_append,ho.1,hr.1,Nat.add_mul]
  have h63:n+m≤9223372036854775807:=by simp only[maxLen] at hlen;omega
  refine aO hx fun o hop w hw=> ?_
  subst hw
  -- a new row
  have grown:∀(old:Nat),old<n+m→∀b,(w.drew.alloc (.cells (xs.toArray ++ys.toArray ++Builtin.zeroCells z.cells (grownCap w (n+m) old E - (n+m))) E)).heap =b→
      Own b (.slice (some ⟨w.heap.size,0,none⟩) (n+m) (grownCap w (n+m) old E)) E (n+m) inf.size (xs++ys)∧Ext w.heap b:=by
    intro old hold b hb
    subst hb
    have hge:=grownCap_ge w (n+m) old E
    have hcm:=grownCap_le_maxLen w (n+m) old E hlen
    refine⟨⟨hlen', .inr ⟨w.heap.size,0,_,_,rfl,heap_alloc_new w.drew _,hge,hcm, ?_, ?_⟩⟩,Ext.push _ _⟩
    · simp only [Array.size_append, List.size_toArray, size_zeroCells, hzs, ho.1, hr.1, ← Nat.add_mul]
      apply Nat.le_of_eq
      rw[Nat.zero_add]
      congr 1
      omega
    · simp only [Array.toList_append, List.append_assoc, List.drop_zero]
      rw[←List.append_assoc, ←hlen']
      exact List.take_left
  suffices key:∃v' w',(Builtin.append_ #[t,t] o.type #[v,x]).run P w= .ok v' w'∧Same w w'∧Own w'.heap v' E (n+m) inf.size (xs++ys)∧Grew (aZ v) w.heap w'.heap ∧(aZ v'=aZ v∨aZ v'=some w.heap.size)∧
      (v'= .slice none 0 0∨∃a c,v'= .slice (some a) (n+m) c) by
    obtain⟨v',w',hrun,hs,r⟩:=key
    rw[oz hop w hrun]
    exact⟨hs,r⟩
  rcases ho.2 with⟨hv,hn⟩|⟨g,off,cap,l,hv,hg,hnc,hcm,hfit,htake⟩
  · subst hv; subst hn
    have hxs:xs=[]:=List.eq_nil_of_length_eq_zero (by simpa using ho.1)
    subst hxs
    by_cases hm:m=0
    · subst hm
      have hys:ys=[]:=List.eq_nil_of_length_eq_zero (by simpa using hr.1)
      subst hys
      refine⟨.slice none 0 0,w, ?_,Same.refl w,Own.nil _ _ _,Grew.refl _ _, .inl rfl, .inl rfl⟩
      rcases hr.2 with⟨hxv,_⟩|⟨a,c,hxv,_,_⟩<;>subst hxv<;>
        simp[Builtin.append_,run_underlying hu,sizeOf,typeInfo,hi,Builtin.lenOf,Builtin.firstCells,loadCells,loadCellsFrom]
    · obtain ⟨a, c, hxv, _, hcells⟩ := hr.at (by omega)
      subst hxv
      have hrun:=run_append_nil (P:=P) w t o.type E inf z hu hi hz a m c ys hr.1 (fun j u hu=>hcells j u hu) (by omega) (by omega) (by have hb:=hbytes;simp only[Nat.zero_add] at hb;omega)
      have hgr:=grown 0 (by omega) _ rfl
      simp only[Nat.zero_add,List.nil_append,Array.empty_append] at hgr⊢
      exact⟨_,_,hrun,⟨rfl,rfl,rfl⟩,hgr.1,hgr.2.but _, .inr rfl, .inr ⟨_,_,rfl⟩⟩
  · subst hv
    by_cases hroom:n+m≤cap
    · have hfirst : (Builtin.firstCells inf.size m x).run P w = .ok ys.toArray w := by
        rcases hr.2 with⟨hxv,hm⟩|⟨a,c,hxv,_,hcells⟩
        · subst hxv; subst hm
          have hys:ys=[]:=List.eq_nil_of_length_eq_zero (by simpa using hr.1)
          subst hys;rfl
        · subst hxv;exact run_firstCells_some (P:=P) w inf.size m a m c ys hr.1 (fun j u hu=>hcells j u hu)
      have hlenx:(Builtin.lenOf x).run P w= .ok m w:=by
        rcases hr.2 with⟨hxv,hm⟩|⟨a,c,hxv,_,_⟩<;>subst hxv<;>simp[Builtin.lenOf, *]
      have hmul:n*inf.size +m*inf.size ≤cap*inf.size :=by rw[←Nat.add_mul];exact Nat.mul_le_mul_right _ hroom
      have wo:(off+n*inf.size)+0+ys.length ≤l.size :=by rw[hr.1];omega
      have hst:=run_storeCells_at P g (off+n*inf.size) E ys 0 l w hg wo h1
      simp only[Nat.add_zero] at hst
      have hrun:(Builtin.append_ #[t,t] o.type #[.slice (some ⟨g,off,none⟩) n cap,x]).run P w=
          .ok (.slice (some ⟨g,off,none⟩) (n+m) cap) (w.setRow g (l.toList.take (off+n*inf.size)++ys++l.toList.drop (off+n*inf.size +ys.length)).toArray):=by
        simp[Builtin.append_,run_underlying hu,sizeOf,typeInfo,hi,hlenx,hroom,hfirst,add_lit,hst]
      have hh:=kG (cs':=(l.toList.take (off+n*inf.size)++ys++l.toList.drop (off+n*inf.size +ys.length)).toArray) hg
      refine⟨_,_,hrun,⟨rfl,rfl,rfl⟩, ?_, ?_, .inl rfl, .inr ⟨_,_,rfl⟩⟩
      · rw [hh]
        refine⟨hlen', .inr ⟨g,off,cap,_,rfl,fN hg,hroom,hcm, ?_, ?_⟩⟩
        · simp only [List.size_toArray, List.length_append, List.length_take, List.length_drop, Array.length_toList]
          rw[hr.1] at wo⊢
          omega
        · simp only [List.append_assoc]
          have hl1:(l.toList.take (off+n*inf.size)).length =off+n*inf.size :=by
            rw[List.length_take,Array.length_toList];rw[hr.1] at wo;omega
          rw[List.drop_append_of_le_length (by omega)]
          have hxs:(l.toList.take (off+n*inf.size)).drop off=xs:=by
            rw[List.drop_take,Nat.add_sub_cancel_left];exact htake
          rw[hxs, ←List.append_assoc, ←hlen']
          exact List.take_left
      · rw[hh];exact kh _ _ _
    · have hm : 0 < m := by omega
      obtain⟨a,c,hxv,_,hcells⟩:=hr.at hm
      subst hxv
      have hrow:=ho.row
      have holds:∀j u,xs[j]? =some u→w.cell? ((⟨g,off,none⟩:Addr).add j)=some u:=by
        intro j u hu'
        obtain⟨a',c',e',_,hc'⟩:=hrow.2.resolve_left (by simp)
        simp only[Value.slice.injEq,Option.some.injEq] at e'
        rw[e'.1]
        exact hc' j u hu'
      have hrun:=run_append_grow (P:=P) w t o.type E inf z hu hi hz ⟨g,off,none⟩ n cap xs ho.1 holds a m c ys hr.1 (fun j u hu=>hcells j u hu) (by omega) (by omega) (growslice_fits (by omega) hbytes)
      have hgr:=grown cap (by omega) _ rfl
      exact⟨_,_,hrun,⟨rfl,rfl,rfl⟩,hgr.1,hgr.2.but _, .inr rfl, .inr ⟨_,_,rfl⟩⟩
end
end Go.ai
namespace Go.ai
open Go
section
variable {P:Program} {ops:Array Oper} {base:Nat→Value} {vals:aQ} {i:Nat}
theorem Calm.wq{a:Addr}{len sz:Nat}{k:Int}(j q:Nat)(hx:q_ P ops base vals i=some (a,len,sz,k))(hk:k=(j:Int))(hj:j<len)(hq:j*sz=q)(h:Heap):Calm P ops base vals i h (.pointer (some (a.add q))):=
  hq▸Calm.index j hx hk hj h
theorem Calm.indexB{b off len sz:Nat}{k:Int}(j q:Nat)(hx:q_ P ops base vals i=some (⟨b,off,none⟩,len,sz,k))(hk:k=(j:Int))(hj:j<len)(hq:off+j*sz=q)(h:Heap):Calm P ops base vals i h (.pointer (some ⟨b,q,none⟩)):=by
  have:=Calm.index (P:=P) j hx hk hj h
  rwa [add_lit,hq] at this
end
end Go.ai
namespace Go.ai
open Go
section
variable {P:Program} {K:Exit→Act→Heap→Prop} {B:Code} {p:List Nat} {a:Act} {h:Heap}
def ik(P:Program)(B:Code)(p0:List Nat)(K:Exit→Act→Heap→Prop):Nat→Act→Heap→Prop
  |0,_,_=>False
  |n+1,a,h=>C P (sub B p0) (gx (ik P B p0 K n) K) a h
theorem ar.step{p0:List Nat}{n:Nat}(hh:C P (sub B p0) (gx (ik P B p0 K n) K) a h):ik P B p0 K (n+1) a h:=hh
theorem C.Be(n:Nat)(p0:List Nat)(hc:sub B p= .loop (sub B p0))(hh:ik P B p0 K n a h):C P (sub B p) K a h:=by
  rw[hc]
  intro w hw
  refine wp_loop_rounds n ?_
  have key:∀n a w',Same w w'→ik P B p0 K n a w'.heap →Code.rounds P (sub B p0) (fun e a' w''=>Same w w''∧K e a' w''.heap) n a w':=by
    intro n
    induction n with
    |zero=>intro a w' _ hh;exact hh.elim
    | succ n ih =>
      intro a w' hs hh
      refine wp_mono (hh w' rfl) fun e a2 w2 ⟨s,k⟩=> ?_
      cases e with
      |normal=>exact ih a2 w2 (hs.trans s) k
      |exit i=>exact⟨hs.trans s,k⟩
      |goto l=>exact⟨hs.trans s,k⟩
      |ret=>exact⟨hs.trans s,k⟩
      |panic c=>exact⟨hs.trans s,k⟩
      |outgrown=>exact⟨hs.trans s,k⟩
  exact key n a w (Same.refl w) (hw▸hh)
theorem fj(x n:Nat):Int.tmod (x:Int) (n:Int)=((x%n:Nat):Int):=by
  rw[Int.natCast_emod];exact Int.tmod_eq_emod_of_nonneg (Int.natCast_nonneg _)
theorem Ci(x n:Nat):Int.tdiv (x:Int) (n:Int)=((x/n:Nat):Int):=by
  rw[Int.natCast_ediv];exact Int.tdiv_eq_ediv_of_nonneg (Int.natCast_nonneg _)
end
end Go.ai
namespace Go.ai
open Go
theorem bR{h h':Heap}{b off:Nat}{l vs l':List Value}{E:TypeId}{x:Obj}(hh:h'=hput h b (.cells (splice l off vs).toArray E (0,0)))(e:splice l off vs=l')(m:h[b]? =some x):h'[b]? =some (.cells l'.toArray E):=by
  subst hh;rw[e];exact fN m
theorem bD{h h':Heap}{b:Nat}{o:Obj}(hh:h'=hput h b o):Grew (some b) h h':=by subst hh;exact kh _ _ _
theorem bj{h h':Heap}{o:Obj}(hh:h'=h.push o):h'[h.size]? =some o:=by subst hh;exact wi _ _
theorem aT{h h':Heap}{o:Obj}(hh:h'=h.push o):Ext h h':=by subst hh;exact Ext.push _ _
end Go.ai
namespace Go.ai
open Go
theorem dS{B n:Nat}{o o':Option Nat}(h:∀k,o=some k→B≤k)(hb:o'=o∨o'=some n)(hn:B≤n):∀k,o'=some k→B≤k:=by
  intro k hk
  rcases hb with e|e
  · exact h k (e▸hk)
  · rw[e] at hk;cases hk;exact hn
theorem Own.empty{h:Heap}{g:Nat}{E:TypeId}(sz:Nat)(m:h[g]? =some (.cells #[] E)):Own h (.slice (some ⟨g,0,none⟩) 0 0) E 0 sz []:=
  ⟨by simp, .inr ⟨g,0,0, #[],rfl,m,Nat.le_refl _,by simp[maxLen],by simp,by simp⟩⟩
theorem Row.blk{h:Heap}{b n sz:Nat}{l:List Value}{E:TypeId}{fr:Nat×Nat}(m:h[b]? =some (.cells l.toArray E fr))(hn:l.length =n*sz):Row h (.slice (some ⟨b,0,none⟩) n n) n sz l:=
  ⟨hn, .inr ⟨_,_,rfl,Nat.le_refl _,fun j u hu=>by rw[add_lit,an m];simpa using hu⟩⟩
theorem kQ{p:Prop}[Decidable p](h:(!decide p)=true):¬p:=by simpa using h
theorem kj{p:Prop}[Decidable p](h:(!decide p)=false):p:=by simpa using h
theorem Bf{B:Nat}(x:Nat)(h:B≤x):∀k,(some ⟨x,0,none⟩:Option Addr).map (·.block)=some k→B≤k:=by
  intro k hk;simp at hk;omega
end Go.ai
namespace Go.ai
open Go
theorem Own.app{α:Type}{h:Heap}{ad:Option Addr}{n m c sz:Nat}{E:TypeId}{f:α→Value}{L Y L2:List α}(o:Own h (.slice ad (n+m) c) E (n+m) sz (L.map f++Y.map f))(hL:L++Y=L2)(hn:n+m=L2.length):
    Own h (.slice ad L2.length c) E L2.length sz (L2.map f):=by
  subst hL;rw[List.map_append, ←hn];exact o
end Go.ai
namespace Go.ai
open Go
theorem Loads.all{P:Program}{h:Heap}{T:TypeId}{b:Nat}{vs:List Value}{E:TypeId}{fr:Nat×Nat}(ht:cM P T=some (true,vs.length))(hb:h[b]? =some (.cells vs.toArray E fr)):Loads P h T ⟨b,0,none⟩ (.agg vs.toArray):=
  Loads.blk ht hb (by simp)
end Go.ai
namespace Go.ai
open Go
@[reducible] def pV(b:Nat):Value:= .pointer (some ⟨b,0,none⟩)
@[reducible] def nV(k:Nat):Value:= .int .i64 ((k:Nat):Int)
section
variable {P:Program} {B:Code} {p:List Nat} {K:Exit→Act→Heap→Prop} {a:Act} {h:Heap} {ops:Array Oper} {base:Nat→Value} {vals:aQ} {n:Nat}
theorem cS(hh:C P (sub B (p++[0])) (gx (fun a h=>C P (sub B (p++[1])) K a h) K) a h)(hc:sub B p= .seq (sub B (p++[0])) (sub B (p++[1])):=by kernel_rfl):C P (sub B p) K a h:=C.seq _ _ hc hh
theorem tK{N:Act→Heap→Prop}(hh:N a h):gx N K .normal a h:=hh
theorem cD{L:List (Nat×Value)}(A:List Nat)(id:Nat)(hm:P.follows .mixedOrders =true)(hf:Fr a n L)(hh:aF P (cG B p) A n (fun t=>lk L t (a.tmps.getD t undef)) K 0 0 0 (fun _=>undef) h)(hc:sub B p= .region id (cG B p) true:=by kernel_rfl)(hok:eC (cG B p) A n=true:=by kernel_rfl):C P (sub B p) K a h:=C.draw id hc hm hf hok hh
theorem mP{A:List Nat}{D X Wd:Nat}(D':Nat)(is:List Nat)(vs:List Value)(hs:aF P ops A n base K D' X Wd (wb vals is vs) h)(hp:eE P ops A base is vs D vals Wd=some (vs.map some,D'):=by kernel_rfl):aF P ops A n base K D X Wd vals h:=aF.Ch hp hs
theorem m1{A:List Nat}{D X Wd:Nat}(D' i:Nat)(v v':Value)(e:v'=v)(hs:aF P ops A n base K D' X Wd (aS vals i v) h)(hc:(bl ops A D i&& !(Wd.testBit i))=true:=by kernel_rfl)(hD:D|||2^i=D':=by kernel_rfl)(hv:aN P ops base vals i=some v':=by kernel_rfl):aF P ops A n base K D X Wd vals h:=aF.dO hc hD hv e hs
theorem mF{A:List Nat}{D X Wd:Nat}(D' i:Nat)(v:Value)(hv:∀h',Calm P ops base vals i h' v)(hs:aF P ops A n base K D' X Wd (aS vals i v) h)(hc:(bl ops A D i&& !(Wd.testBit i))=true:=by kernel_rfl)(hD:D|||2^i=D':=by kernel_rfl):aF P ops A n base K D X Wd vals h:=aF.free hc hD hv hs
theorem mL{A:List Nat}{D X Wd:Nat}(D' kP i:Nat)(v:Value)(hv:Calm P ops base vals i h v)(hs:aF P ops A n base K D' X kP (aS vals i v) h)(hc:bl ops A D i=true:=by kernel_rfl)(hD:D|||2^i=D':=by kernel_rfl)(hW:Wd|||2^i=kP:=by kernel_rfl):aF P ops A n base K D X Wd vals h:=aF.look hc hD hW hv hs
theorem cT{L:List (Nat×Value)}(t:Nat)(hf:Fr a n L)(hh:C P (sub B (p++[0])) K a h)(hc:sub B p= .cond (.tmp t) (sub B (p++[0])) (sub B (p++[1])):=by kernel_rfl)(hv:∀d,lk L t d= .bool true:=by intro _;rfl):C P (sub B p) K a h:=C.AN t _ _ hc hf hv hh
theorem cF{L:List (Nat×Value)}(t:Nat)(hf:Fr a n L)(hh:C P (sub B (p++[1])) K a h)(hc:sub B p= .cond (.tmp t) (sub B (p++[0])) (sub B (p++[1])):=by kernel_rfl)(hv:∀d,lk L t d= .bool false:=by intro _;rfl):C P (sub B p) K a h:=C.AO t _ _ hc hf hv hh
theorem cC{L:List (Nat×Value)}(t:Nat)(b:Bool)(hf:Fr a n L)(ht:b=true→C P (sub B (p++[0])) K a h)(he:b=false→C P (sub B (p++[1])) K a h)(hc:sub B p= .cond (.tmp t) (sub B (p++[0])) (sub B (p++[1])):=by kernel_rfl)(hv:∀d,lk L t d= .bool b:=by intro _;rfl):C P (sub B p) K a h:=C.wh t b _ _ hc hf hv ht he
theorem cN(hh:K .normal a h)(hc:sub B p= .skip :=by kernel_rfl):C P (sub B p) K a h:=C.skip hc hh
theorem cX(id:Nat)(hh:K (.exit id) a h)(hc:sub B p= .exit id:=by kernel_rfl):C P (sub B p) K a h:=C.exit id hc hh
theorem cR(hh:K .ret a h)(hc:sub B p= .ret :=by kernel_rfl):C P (sub B p) K a h:=C.ret hc hh
theorem cB(id:Nat)(hh:C P (sub B (p++[0])) (iR id K) a h)(hc:sub B p= .block id (sub B (p++[0])):=by kernel_rfl):C P (sub B p) K a h:=C.block id _ hc hh
theorem Fr.to{L L':List (Nat×Value)}(hf:Fr a n L)(hL:∀g:Nat→Value,((L'.map Prod.fst).map fun t=>(t,lk L t (g t)))=L':=by intro g;kernel_rfl):Fr a n L':=by
  rw[←hL fun t=>a.tmps.getD t undef]
  exact⟨hf.defers,hf.size,fun t=>qR hf.get _ t⟩
end
end Go.ai
namespace Go.ai
open Go
/-! ### shorter texts: a row of pure operations by itself; a frame by what has come up -/
def fX:Code→Bool
  | .region _ _ false=>true
  |_=>false
def rid:Code→Nat
  | .region i _ _=>i
  |_=>0
section
variable {P:Program} {B:Code} {p:List Nat} {K:Exit→Act→Heap→Prop} {N:Act→Heap→Prop} {a:Act} {h:Heap} {ops:Array Oper} {base:Nat→Value} {vals:aQ} {n:Nat}
theorem pn(hp:fX (sub B p)=true):sub B p= .region (rid (sub B p)) (cG B p) false:=by
  unfold cG
  cases h:sub B p with
  | region i o d => cases d with
    |false=>rfl
    |true=>simp[h,fX] at hp
  |_=>simp[h,fX] at hp
def kl {α : Type} (P : Program) (ops : Array Oper) (base : Nat → Value) (fin : aQ → α) : Nat → Nat → aQ → Option α
  |0,_,vals=>some (fin vals)
  | m + 1, k, vals => match aN P ops base vals k with
    |some v=>kl P ops base fin m (k+1) (aS vals k v)
    |none=>none
def az (P : Program) (ops : Array Oper) (base : Nat → Value) : Nat → Nat → aQ → aQ
  |0,_,vals=>vals
  | m + 1, k, vals => match aN P ops base vals k with
    |some v=>az P ops base m (k+1) (aS vals k v)
    |none=>vals
def il(P:Program)(ops:Array Oper)(base:Nat→Value)(m k:Nat)(vals:aQ):Bool:=(kl P ops base (fun _=>()) m k vals).isSome
theorem km{α:Type}{fin:aQ→α}:∀{m k:Nat} {vals:aQ} {r:α},kl P ops base fin m k vals=some r→fin (az P ops base m k vals)=r
  |0,_,_,_,h=>by simpa[kl,az] using h
  | m + 1, k, vals, r, h => by
    unfold kl at h;unfold az
    cases hv:aN P ops base vals k with
    |none=>simp[hv] at h
    |some v=>simp only[hv] at h;exact km h
theorem aP.fold{α:Type}{fin:aQ→α}{r:α}:∀{m k:Nat} {vals:aQ},kl P ops base fin m k vals=some r→aP P ops n base K (k+m) (az P ops base m k vals) h→aP P ops n base K k vals h
  |0,k,vals,_,hs=>hs
  | m + 1, k, vals, hr, hs => by
    unfold kl at hr;unfold az at hs
    cases hv:aN P ops base vals k with
    |none=>simp[hv] at hr
    | some v =>
      simp only[hv] at hr hs
      exact aP.dO hv rfl rfl (aP.fold hr (by rw[show k+1+m=k+(m+1) by omega];exact hs))
theorem aP.skip{m k:Nat}{vals:aQ}(hr:il P ops base m k vals=true)(hs:aP P ops n base K (k+m) (az P ops base m k vals) h):aP P ops n base K k vals h:=by
  unfold il at hr
  cases hv:kl P ops base (fun _=>()) m k vals with
  |none=>simp[hv] at hr
  |some r=>exact aP.fold hv hs
/-! a frame: what has come up, ahead of what was -/
def eO:List (Nat×Value)→Nat→Bool
  |[],_=>false
  | (k,_)::r,t=>Nat.beq k t||eO r t
def dL(L ch:List (Nat×Value)):List Oper→Bool
  |[]=>true
  |o::r=>(match o.dst with|some d=>eO ch d|| !(eO L d)|none=>true)&&dL L ch r
theorem wu(L':List (Nat×Value))(t:Nat)(d:Value):∀L,lk (L++L') t d=lk L t (lk L' t d)
  |[]=>rfl
  | (k,v)::L=>by simp only[List.cons_append,lk];rw[wu L' t d L]
theorem tc:∀{L:List (Nat×Value)} {t:Nat} {d:Value},eO L t=false→lk L t d=d
  |[],_,_,_=>rfl
  | (k, v) :: L, t, d, h => by
    simp only[eO,Bool.or_eq_false_iff] at h
    simp only[lk,h.1]
    exact tc h.2
theorem rf:∀{L:List (Nat×Value)} {t:Nat} {d d':Value},eO L t=true→lk L t d=lk L t d'
  |[],_,_,_,h=>by simp[eO] at h
  | (k, v) :: L, t, d, d', h => by
    simp only[lk]
    cases e:Nat.beq k t with
    |true=>rfl
    |false=>simp only[eO,e,Bool.false_or] at h;simp only;exact rf h
theorem jo{L ch:List (Nat×Value)}:∀{l:List Oper},dL L ch l=true→∀o∈l,∀d,o.dst =some d→eO ch d=true∨eO L d=false
  |[],_,o,ho,_,_=>by simp at ho
  | o :: r, h, o', ho, d, hd => by
    simp only[dL,Bool.and_eq_true] at h
    rcases List.mem_cons.1 ho with e|e
    · subst e
      have:=h.1
      simp only[hd,Bool.or_eq_true,Bool.not_eq_true'] at this
      exact this
    · exact jo h.2 o' e d hd
theorem rh{k t:Nat}(ht:∀o∈ops.toList,o.dst ≠some t):cE ops base vals k t=base t:=by
  unfold cE
  rw[fF]
  intro j _
  cases ho:ops[j]? with
  |none=>simp[dst,ho]
  | some o =>
    have:=ht o (by simpa using Array.mem_of_getElem? ho)
    simp[dst,ho,this]
theorem ri{s:Nat→Bool}{t:Nat}(ht:∀o∈ops.toList,o.dst ≠some t):dC ops base vals s t=base t:=by
  unfold dC
  rw[fF]
  intro j _
  cases ho:ops[j]? with
  |none=>simp[dst,ho]
  | some o =>
    have:=ht o (by simpa using Array.mem_of_getElem? ho)
    simp[dst,ho,this]
theorem lO{L ch:List (Nat×Value)}{b:Act}{f g:Nat→Value}(hb:∀t,b.tmps.getD t undef=f t)(hfree:∀t,(∀o∈ops.toList,o.dst ≠some t)→f t=lk L t (g t))
    (hch:((ch.map Prod.fst).map fun t=>(t,f t))=ch) (hfr:dL L ch ops.toList =true) (t:Nat):b.tmps.getD t undef=lk (ch++L) t (b.tmps.getD t undef):=by
  rw[wu]
  have h1:=qR hb (ch.map Prod.fst) t
  rw[hch] at h1
  cases hk:eO ch t with
  |true=>rw[rf hk];exact h1
  | false =>
    rw[tc hk]
    by_cases hw:∃o∈ops.toList,o.dst =some t
    · obtain ⟨o, ho, hd⟩ := hw
      rcases jo hfr o ho t hd with h|h
      · rw[hk] at h;cases h
      · rw[tc h]
    · have hft := hfree t fun o ho e => hw ⟨o, ho, e⟩
      cases hL:eO L t with
      | true => conv => lhs; rw [hb t, hft]
                exact rf hL
      |false=>rw[tc hL]
theorem aP.doneD{k:Nat}{L ch:List (Nat×Value)}{g:Nat→Value}(hk:k=ops.size)(hch:((ch.map Prod.fst).map fun t=>(t,cE ops (fun t=>lk L t (g t)) vals k t))=ch)(hfr:dL L ch ops.toList =true)
    (hQ:∀a,Fr a n (ch++L)→K .normal a h):aP P ops n (fun t=>lk L t (g t)) K k vals h:=by
  subst hk
  intro w0 _ a w h1 h2 h3 hs hh
  rw[Nat.sub_self]
  refine⟨hs, ?_⟩
  rw[hh]
  exact hQ a ⟨h1,h2,lO (f:=fun t=>cE ops (fun t=>lk L t (g t)) vals ops.size t) (g:=g) h3 (fun t ht=>rh ht) hch hfr⟩
theorem aF.doneD{A:List Nat}{D X Wd:Nat}{L ch:List (Nat×Value)}{g:Nat→Value}(hD:D=2^ops.size - 1)(hch:((ch.map Prod.fst).map fun t=>(t,dC ops (fun t=>lk L t (g t)) vals (fun _=>true) t))=ch)(hfr:dL L ch ops.toList =true)
    (hQ:∀a,Fr a n (ch++L)→K .normal a h):aF P ops A n (fun t=>lk L t (g t)) K D X Wd vals h:=by
  intro w0
  refine ou.done (fun i hi=>by rw[hD,Nat.testBit_two_pow_sub_one];simpa using hi) fun a w h1 h2 h3 hs hh=>⟨hs, ?_⟩
  rw[hh]
  exact hQ a ⟨h1,h2,lO (f:=fun t=>dC ops (fun t=>lk L t (g t)) vals (fun _=>true) t) (g:=g) h3 (fun t ht=>ri ht) hch hfr⟩
end
end Go.ai
namespace Go.ai
open Go
section
variable {P:Program} {B:Code} {p:List Nat} {K:Exit→Act→Heap→Prop} {N:Act→Heap→Prop} {a:Act} {h:Heap} {ops:Array Oper} {base:Nat→Value} {vals:aQ} {n:Nat}
theorem DH{L ch:List (Nat×Value)}{g:Nat→Value}(hv:kl P ops (fun t=>lk L t (g t)) (fun vals=>(ch.map Prod.fst).map fun t=>(t,cE ops (fun t=>lk L t (g t)) vals ops.size t)) ops.size 0 (fun _=>undef)=some ch)
    (hfr:dL L ch ops.toList =true) (hQ:∀a,Fr a n (ch++L)→K .normal a h):aP P ops n (fun t=>lk L t (g t)) K 0 (fun _=>undef) h:=
  aP.fold hv (by rw[show 0+ops.size =ops.size by omega];exact aP.doneD rfl (km hv) hfr hQ)
theorem rP(ch:List (Nat×Value)){L:List (Nat×Value)}(hf:Fr a n L)(hh:∀a,Fr a n (ch++L)→K .normal a h)(hp:fX (sub B p)=true:=by kernel_rfl)(hok:lJ (cG B p) n=true:=by kernel_rfl)
    (hv:kl P (cG B p) (fun t=>lk L t (a.tmps.getD t undef)) (fun vals=>(ch.map Prod.fst).map fun t=>(t,cE (cG B p) (fun t=>lk L t (a.tmps.getD t undef)) vals (cG B p).size t)) (cG B p).size 0 (fun _=>undef)=some ch:=by kernel_rfl)
    (hfr:dL L ch (cG B p).toList =true:=by kernel_rfl):C P (sub B p) K a h:=
  C.plain _ (pn hp) hf hok (DH hv hfr hh)
theorem Ev(hc:sub B p= .seq (sub B (p++[0])) (sub B (p++[1])))(hh:C P (sub B (p++[0])) (gx (fun a h=>C P (sub B (p++[1])) K a h) K) a h):C P (sub B p) K a h:=C.seq _ _ hc hh
theorem qP(ch:List (Nat×Value)){L:List (Nat×Value)}(hf:Fr a n L)(hh:∀a,Fr a n (ch++L)→C P (sub B (p++[1])) K a h)(hc:sub B p= .seq (sub B (p++[0])) (sub B (p++[1])):=by kernel_rfl)(hp:fX (sub B (p++[0]))=true:=by kernel_rfl)(hok:lJ (cG B (p++[0])) n=true:=by kernel_rfl)
    (hv:kl P (cG B (p++[0])) (fun t=>lk L t (a.tmps.getD t undef)) (fun vals=>(ch.map Prod.fst).map fun t=>(t,cE (cG B (p++[0])) (fun t=>lk L t (a.tmps.getD t undef)) vals (cG B (p++[0])).size t)) (cG B (p++[0])).size 0 (fun _=>undef)=some ch:=by kernel_rfl)
    (hfr:dL L ch (cG B (p++[0])).toList =true:=by kernel_rfl):C P (sub B p) K a h:=
  Ev hc (rP ch hf hh hp hok hv hfr)
theorem rS{L:List (Nat×Value)}(hf:Fr a n L)(hh:aP P (cG B p) n (fun t=>lk L t (a.tmps.getD t undef)) K 0 (fun _=>undef) h)(hp:fX (sub B p)=true:=by kernel_rfl)(hok:lJ (cG B p) n=true:=by kernel_rfl):C P (sub B p) K a h:=
  C.plain _ (pn hp) hf hok hh
theorem qS{L:List (Nat×Value)}(hf:Fr a n L)(hh:aP P (cG B (p++[0])) n (fun t=>lk L t (a.tmps.getD t undef)) (gx (fun a h=>C P (sub B (p++[1])) K a h) K) 0 (fun _=>undef) h)(hc:sub B p= .seq (sub B (p++[0])) (sub B (p++[1])):=by kernel_rfl)(hp:fX (sub B (p++[0]))=true:=by kernel_rfl)(hok:lJ (cG B (p++[0])) n=true:=by kernel_rfl):C P (sub B p) K a h:=
  Ev hc (rS hf hh hp hok)
theorem sE{k:Nat}(ch:List (Nat×Value)){L:List (Nat×Value)}{g:Nat→Value}(hh:∀a,Fr a n (ch++L)→K .normal a h)
    (hv:kl P ops (fun t=>lk L t (g t)) (fun vals=>(ch.map Prod.fst).map fun t=>(t,cE ops (fun t=>lk L t (g t)) vals ops.size t)) (ops.size - k) k vals=some ch:=by kernel_rfl)
    (hk:Nat.ble k ops.size =true:=by kernel_rfl) (hfr:dL L ch ops.toList =true:=by kernel_rfl):aP P ops n (fun t=>lk L t (g t)) K k vals h:=
  aP.fold hv (by have:=Nat.le_of_ble_eq_true hk;rw[show k+(ops.size - k)=ops.size by omega];exact aP.doneD rfl (km hv) hfr hh)
theorem sT{k:Nat}(ch:List (Nat×Value)){L:List (Nat×Value)}{g:Nat→Value}(hh:∀a,Fr a n (ch++L)→N a h)
    (hv:kl P ops (fun t=>lk L t (g t)) (fun vals=>(ch.map Prod.fst).map fun t=>(t,cE ops (fun t=>lk L t (g t)) vals ops.size t)) (ops.size - k) k vals=some ch:=by kernel_rfl)
    (hk:Nat.ble k ops.size =true:=by kernel_rfl) (hfr:dL L ch ops.toList =true:=by kernel_rfl):aP P ops n (fun t=>lk L t (g t)) (gx N K) k vals h:=sE ch hh hv hk hfr
theorem mE{A:List Nat}{D X Wd:Nat}(ch:List (Nat×Value)){L:List (Nat×Value)}{g:Nat→Value}(hh:∀a,Fr a n (ch++L)→K .normal a h)(hD:D=2^ops.size - 1:=by kernel_rfl)
    (hL:((ch.map Prod.fst).map fun t=>(t,dC ops (fun t=>lk L t (g t)) vals (fun _=>true) t))=ch:=by kernel_rfl) (hfr:dL L ch ops.toList =true:=by kernel_rfl):aF P ops A n (fun t=>lk L t (g t)) K D X Wd vals h:=aF.doneD hD hL hfr hh
/-! steps: pure operations up to j, then operation j -/
theorem jmp{k:Nat}(j:Nat)(hk:Nat.ble k j=true)(hr:il P ops base (j - k) k vals=true)(hs:aP P ops n base K j (az P ops base (j - k) k vals) h):aP P ops n base K k vals h:=by
  have:=Nat.le_of_ble_eq_true hk
  exact aP.skip hr (by rw[show k+(j - k)=j by omega];exact hs)
theorem t1{k:Nat}(j:Nat)(v v':Value)(e:v'=v)(hs:aP P ops n base K (j+1) (aS (az P ops base (j - k) k vals) j v) h)(hv:aN P ops base (az P ops base (j - k) k vals) j=some v':=by kernel_rfl)(hr:il P ops base (j - k) k vals=true:=by kernel_rfl)(hk:Nat.ble k j=true:=by kernel_rfl):aP P ops n base K k vals h:=
  jmp j hk hr (aP.dO hv e rfl hs)
theorem tC{k:Nat}(j:Nat)(v:Value)(hd:Calm P ops base (az P ops base (j - k) k vals) j h v)(hs:aP P ops n base K (j+1) (aS (az P ops base (j - k) k vals) j v) h)(hr:il P ops base (j - k) k vals=true:=by kernel_rfl)(hk:Nat.ble k j=true:=by kernel_rfl):aP P ops n base K k vals h:=
  jmp j hk hr (aP.calm hd rfl hs)
theorem tF{k:Nat}(j:Nat){R:Value→Heap→Prop}(hd:Does P ops base (az P ops base (j - k) k vals) j h R)(hs:∀v h',R v h'→aP P ops n base K (j+1) (aS (az P ops base (j - k) k vals) j v) h')(hr:il P ops base (j - k) k vals=true:=by kernel_rfl)(hk:Nat.ble k j=true:=by kernel_rfl):aP P ops n base K k vals h:=
  jmp j hk hr (aP.eff hd rfl hs)
theorem tG{k:Nat}(j:Nat){R:Value→Heap→Prop}{f:FuncId}{args:Array Value}(hs:Sat P f args h R)(hh:∀v h',R v h'→aP P ops n base K (j+1) (aS (az P ops base (j - k) k vals) j v) h')(hx:qY P ops base (az P ops base (j - k) k vals) j=some (f,args):=by kernel_rfl)(hr:il P ops base (j - k) k vals=true:=by kernel_rfl)(hk:Nat.ble k j=true:=by kernel_rfl):aP P ops n base K k vals h:=
  jmp j hk hr (aP.eff (Does.call hx hs) rfl hh)
theorem tI{k:Nat}(j:Nat)(ad:Addr)(len sz x q:Nat)(hs:aP P ops n base K (j+1) (aS (az P ops base (j - k) k vals) j (.pointer (some (ad.add q)))) h)(hl:x<len:=by omega)(hq:x*sz=q:=by omega)(hx:q_ P ops base (az P ops base (j - k) k vals) j=some (ad,len,sz,(x:Int)):=by kernel_rfl)(hr:il P ops base (j - k) k vals=true:=by kernel_rfl)(hk:Nat.ble k j=true:=by kernel_rfl):aP P ops n base K k vals h:=
  jmp j hk hr (aP.calm (Calm.wq x q hx rfl hl hq h) rfl hs)
theorem tJ{k:Nat}(j b off len sz x q:Nat)(hs:aP P ops n base K (j+1) (aS (az P ops base (j - k) k vals) j (.pointer (some ⟨b,q,none⟩))) h)(hl:x<len:=by omega)(hq:off+x*sz=q:=by omega)(hx:q_ P ops base (az P ops base (j - k) k vals) j=some (⟨b,off,none⟩,len,sz,(x:Int)):=by kernel_rfl)(hr:il P ops base (j - k) k vals=true:=by kernel_rfl)(hk:Nat.ble k j=true:=by kernel_rfl):aP P ops n base K k vals h:=
  jmp j hk hr (aP.calm (Calm.indexB x q hx rfl hl hq h) rfl hs)
theorem tA{k:Nat}(j x y:Nat)(hs:aP P ops n base K (j+1) (aS (az P ops base (j - k) k vals) j (nV (x+y))) h)(hb:x+y≤9223372036854775807:=by omega)(hv:aN P ops base (az P ops base (j - k) k vals) j=some (.int .i64 (IntKind.i64.wrap ((x:Int)+(y:Int)))):=by kernel_rfl)(hr:il P ops base (j - k) k vals=true:=by kernel_rfl)(hk:Nat.ble k j=true:=by kernel_rfl):aP P ops n base K k vals h:=
  t1 j _ _ (congrArg (Value.int .i64) (gJ (by omega) (by omega) (by omega))) hs hv hr hk
theorem tU{k:Nat}(j x y:Nat)(hs:aP P ops n base K (j+1) (aS (az P ops base (j - k) k vals) j (nV (x - y))) h)(hb:y≤x:=by omega)(hx:x≤9223372036854775807:=by omega)(hv:aN P ops base (az P ops base (j - k) k vals) j=some (.int .i64 (IntKind.i64.wrap ((x:Int) - (y:Int)))):=by kernel_rfl)(hr:il P ops base (j - k) k vals=true:=by kernel_rfl)(hk:Nat.ble k j=true:=by kernel_rfl):aP P ops n base K k vals h:=
  t1 j _ _ (congrArg (Value.int .i64) (gJ (by omega) (by omega) (by omega))) hs hv hr hk
/-! a condition that is decided -/
theorem cJ{L:List (Nat×Value)}(t:Nat){q:Prop}[Decidable q](hf:Fr a n L)(ht:q→C P (sub B (p++[0])) K a h)(he:¬q→C P (sub B (p++[1])) K a h)(hv:∀d,lk L t d= .bool (decide q):=by intro _;rfl)(hc:sub B p= .cond (.tmp t) (sub B (p++[0])) (sub B (p++[1])):=by kernel_rfl):C P (sub B p) K a h:=
  C.wh t _ _ _ hc hf hv (fun e=>ht (of_decide_eq_true e)) fun e=>he (of_decide_eq_false e)
theorem cI{L:List (Nat×Value)}(t:Nat){q:Prop}[Decidable q](hf:Fr a n L)(ht:¬q→C P (sub B (p++[0])) K a h)(he:q→C P (sub B (p++[1])) K a h)(hv:∀d,lk L t d= .bool (!decide q):=by intro _;rfl)(hc:sub B p= .cond (.tmp t) (sub B (p++[0])) (sub B (p++[1])):=by kernel_rfl):C P (sub B p) K a h:=
  C.wh t _ _ _ hc hf hv (fun e=>ht (kQ e)) fun e=>he (kj e)
/-! leaving a block -/
theorem xT{i:Nat}(hh:K (.exit i) a h):gx N K (.exit i) a h:=hh
theorem xB{i:Nat}(hh:K .normal a h):iR i K (.exit i) a h:=by simp only[iR];rw[show Nat.beq i i=true by simp];exact hh
theorem cL(I:Nat→Act→Heap→Prop)(m0:Nat)(h0:I m0 a h)(round:∀m a h,I m a h→C P (sub B (p++[0])) (gx (fun a h=>∃m',m'<m∧I m' a h) K) a h)(hc:sub B p= .loop (sub B (p++[0])):=by kernel_rfl):C P (sub B p) K a h:=C.loop I m0 _ hc h0 round
theorem ag{fn:Func}{f:FuncId}{args:List Value}{R:Value→Heap→Prop}(hf:P.funcs[f]? =some fn)(n:Nat)(hh:∀a,Fr a n (uO 0 args)→C P (sub (fn.body.getD .skip) []) (qU P fn R) a h)(hb:fn.body.isSome =true:=by kernel_rfl)(hn:args.length +(fn.ntmps - args.length)=n:=by kernel_rfl):Sat P f args.toArray h R:=
  Bc hf (by cases e:fn.body with
    |none=>simp[e] at hb
    |some x=>rfl) hn rfl hh
theorem rT{fn:Func}{L:List (Nat×Value)}{R:Value→Heap→Prop}(t:Nat)(v:Value)(hf:Fr a n L)(hR:R v h)(hr:fn.results = #[.tmp t]:=by rfl)(hv:∀d,lk L t d=v:=by intro _;rfl):qU P fn R .ret a h:=
  aA [.tmp t] [v] v hr hf ⟨hv _,trivial⟩ rfl hR
theorem r0{fn:Func}{L:List (Nat×Value)}{R:Value→Heap→Prop}(hf:Fr a n L)(hR:R (.tuple #[]) h)(hr:fn.results = #[]:=by rfl):qU P fn R .ret a h:=
  aA [] [] _ hr hf trivial rfl hR
theorem n0{fn:Func}{L:List (Nat×Value)}{R:Value→Heap→Prop}(hf:Fr a n L)(hR:R (.tuple #[]) h)(hr:fn.results = #[]:=by rfl):qU P fn R .normal a h:=
  aA [] [] _ hr hf trivial rfl hR
end
end Go.ai
namespace Go.ai
open Go
section
variable {P:Program} {B:Code} {p:List Nat} {K:Exit→Act→Heap→Prop} {N:Act→Heap→Prop} {a:Act} {h:Heap} {ops:Array Oper} {base:Nat→Value} {vals:aQ} {n:Nat}
theorem yT(hh:K .ret a h):gx N K .ret a h:=hh
theorem yB{j:Nat}(hh:K .ret a h):iR j K .ret a h:=hh
theorem cU(m:Nat)(hh:ik P B (p++[0]) K m a h)(hc:sub B p= .loop (sub B (p++[0])):=by kernel_rfl):C P (sub B p) K a h:=C.Be m _ hc hh
theorem tN{k:Nat}(j:Nat)(v:Value)(cs:Array Value)(E:TypeId)(hh:∀h',Ext h h'→h'[h.size]? =some (.cells cs E)→aP P ops n base K (j+1) (aS (az P ops base (j - k) k vals) j v) h')
    (hx:wk P ops base (az P ops base (j - k) k vals) j h.size =some (v, .cells cs E):=by kernel_rfl) (hr:il P ops base (j - k) k vals=true:=by kernel_rfl) (hk:Nat.ble k j=true:=by kernel_rfl):aP P ops n base K k vals h:=
  jmp j hk hr (aP.eff (Does.new hx) rfl fun v' h' ⟨e1,e2⟩=>by subst e1;exact hh h' (aT e2) (bj e2))
theorem tW{k:Nat}(j:Nat){b:Nat}(off:Nat)(vs l l':List Value){E:TypeId}(m:h[b]? =some (.cells l.toArray E (0,0)))(hh:∀h',Grew (some b) h h'→h'[b]? =some (.cells l'.toArray E)→aP P ops n base K (j+1) (aS (az P ops base (j - k) k vals) j undef) h')
    (hx:fx P ops base (az P ops base (j - k) k vals) j=some (⟨b,off,none⟩,vs):=by kernel_rfl) (hfit:off+vs.length ≤l.length :=by exact of_decide_eq_true (by kernel_rfl)) (h1:∀v∈vs,v.oneCell' =true:=by exact List.all_eq_true.1 (by kernel_rfl)) (e:splice l off vs=l':=by kernel_rfl)
    (hr:il P ops base (j - k) k vals=true:=by kernel_rfl) (hk:Nat.ble k j=true:=by kernel_rfl):aP P ops n base K k vals h:=
  jmp j hk hr (aP.eff (Does.store hx m hfit h1) rfl fun v' h' ⟨e1,e2⟩=>by subst e1;exact hh h' (bD e2) (bR e2 e m))
end
end Go.ai
namespace Go.ai
open Go
theorem bK{i:Nat}{K:Exit→Act→Heap→Prop}{a:Act}{h:Heap}(hh:K .normal a h):iR i K .normal a h:=hh
end Go.ai
namespace Go.ai
open Go
/-! ### shorter still: what the program's text says is not said again -/
section
variable {P:Program} {B:Code} {p:List Nat} {K:Exit→Act→Heap→Prop} {N:Act→Heap→Prop} {a:Act} {h:Heap} {ops:Array Oper} {base:Nat→Value} {vals:aQ} {n:Nat}
def nt(ops:Array Oper)(base:Nat→Value)(vals:aQ)(j:Nat):TypeId:=match eN ops base vals j with|some (T,_)=>T|none=>0
theorem ko{T:TypeId}{b:Nat}{cs:Array Value}{E:TypeId}{fr:Nat×Nat}(m:h[b]? =some (.cells cs E fr))(ht:cM P T=some (true,cs.size)):Loads P h T ⟨b,0,none⟩ (.agg cs):=by
  have:=Loads.all (P:=P) (h:=h) (T:=T) (b:=b) (vs:=cs.toList) (E:=E) (fr:=fr) (by rw[Array.length_toList];exact ht) (by rw[Array.toArray_toList];exact m)
  rwa [Array.toArray_toList] at this
theorem tR{k:Nat}(j:Nat){b:Nat}{cs:Array Value}{E:TypeId}{fr:Nat×Nat}(m:h[b]? =some (.cells cs E fr))(hs:aP P ops n base K (j+1) (aS (az P ops base (j - k) k vals) j (.agg cs)) h)
    (hx:eN ops base (az P ops base (j - k) k vals) j=some (nt ops base (az P ops base (j - k) k vals) j,⟨b,0,none⟩):=by kernel_rfl) (ht:cM P (nt ops base (az P ops base (j - k) k vals) j)=some (true,cs.size):=by kernel_rfl)
    (hr:il P ops base (j - k) k vals=true:=by kernel_rfl) (hk:Nat.ble k j=true:=by kernel_rfl):aP P ops n base K k vals h:=
  jmp j hk hr (aP.calm (Calm.load hx (ko m ht)) rfl hs)
theorem tQ{k:Nat}(j off:Nat)(vs:List Value){b:Nat}{cs:Array Value}{E:TypeId}{fr:Nat×Nat}(m:h[b]? =some (.cells cs E fr))(hs:aP P ops n base K (j+1) (aS (az P ops base (j - k) k vals) j (.agg vs.toArray)) h)
    (hx:eN ops base (az P ops base (j - k) k vals) j=some (nt ops base (az P ops base (j - k) k vals) j,⟨b,off,none⟩):=by kernel_rfl) (ht:cM P (nt ops base (az P ops base (j - k) k vals) j)=some (true,vs.length):=by kernel_rfl)
    (hv:(cs.toList.drop off).take vs.length =vs:=by rfl) (hr:il P ops base (j - k) k vals=true:=by kernel_rfl) (hk:Nat.ble k j=true:=by kernel_rfl):aP P ops n base K k vals h:=
  jmp j hk hr (aP.calm (Calm.load hx (Loads.blk ht m hv)) rfl hs)
theorem tO{k:Nat}(j off:Nat){b:Nat}{cs:Array Value}{E:TypeId}{fr:Nat×Nat}(m:h[b]? =some (.cells cs E fr))(hs:aP P ops n base K (j+1) (aS (az P ops base (j - k) k vals) j (cs[off]?.getD undef)) h)
    (hv:cs[off]?.isSome =true:=by kernel_rfl) (hx:eN ops base (az P ops base (j - k) k vals) j=some (nt ops base (az P ops base (j - k) k vals) j,⟨b,off,none⟩):=by kernel_rfl) (ht:cM P (nt ops base (az P ops base (j - k) k vals) j)=some (false,1):=by kernel_rfl)
    (hr:il P ops base (j - k) k vals=true:=by kernel_rfl) (hk:Nat.ble k j=true:=by kernel_rfl):aP P ops n base K k vals h:=
  jmp j hk hr (aP.calm (Calm.load hx (Loads.one ht ((an m).trans (by cases e:cs[off]? with|none=>rw[e] at hv;cases hv|some v=>rfl)))) rfl hs)
theorem tT{k:Nat}(j:Nat)(q:Prop)[Decidable q](hs:aP P ops n base K (j+1) (aS (az P ops base (j - k) k vals) j (.bool true)) h)(hq:q:=by omega)(hv:aN P ops base (az P ops base (j - k) k vals) j=some (.bool (decide q)):=by kernel_rfl)(hr:il P ops base (j - k) k vals=true:=by kernel_rfl)(hk:Nat.ble k j=true:=by kernel_rfl):aP P ops n base K k vals h:=
  t1 j _ _ (congrArg Value.bool (decide_eq_true hq)) hs hv hr hk
theorem tX{k:Nat}(j:Nat)(q:Prop)[Decidable q](hs:aP P ops n base K (j+1) (aS (az P ops base (j - k) k vals) j (.bool false)) h)(hq:¬q:=by omega)(hv:aN P ops base (az P ops base (j - k) k vals) j=some (.bool (decide q)):=by kernel_rfl)(hr:il P ops base (j - k) k vals=true:=by kernel_rfl)(hk:Nat.ble k j=true:=by kernel_rfl):aP P ops n base K k vals h:=
  t1 j _ _ (congrArg Value.bool (decide_eq_false hq)) hs hv hr hk
theorem Ew{A:List Nat}{D X Wd:Nat}(D' i:Nat)(q:Prop)[Decidable q](hs:aF P ops A n base K D' X Wd (aS vals i (.bool true)) h)(hq:q:=by omega)(hv:aN P ops base vals i=some (.bool (decide q)):=by kernel_rfl)(hc:(bl ops A D i&& !(Wd.testBit i))=true:=by kernel_rfl)(hD:D|||2^i=D':=by kernel_rfl):aF P ops A n base K D X Wd vals h:=aF.dO hc hD hv (congrArg Value.bool (decide_eq_true hq)) hs
theorem Ex{A:List Nat}{D X Wd:Nat}(D' i:Nat)(q:Prop)[Decidable q](hs:aF P ops A n base K D' X Wd (aS vals i (.bool false)) h)(hq:¬q:=by omega)(hv:aN P ops base vals i=some (.bool (decide q)):=by kernel_rfl)(hc:(bl ops A D i&& !(Wd.testBit i))=true:=by kernel_rfl)(hD:D|||2^i=D':=by kernel_rfl):aF P ops A n base K D X Wd vals h:=aF.dO hc hD hv (congrArg Value.bool (decide_eq_false hq)) hs
theorem mA{A:List Nat}{D X Wd:Nat}(D' i x y:Nat)(hs:aF P ops A n base K D' X Wd (aS vals i (nV (x+y))) h)(hb:x+y≤9223372036854775807:=by omega)(hv:aN P ops base vals i=some (.int .i64 (IntKind.i64.wrap ((x:Int)+(y:Int)))):=by kernel_rfl)(hc:(bl ops A D i&& !(Wd.testBit i))=true:=by kernel_rfl)(hD:D|||2^i=D':=by kernel_rfl):aF P ops A n base K D X Wd vals h:=aF.dO hc hD hv (congrArg (Value.int .i64) (gJ (by omega) (by omega) (by omega))) hs
theorem mU{A:List Nat}{D X Wd:Nat}(D' i x y:Nat)(hs:aF P ops A n base K D' X Wd (aS vals i (nV (x - y))) h)(hb:y≤x:=by omega)(hx:x≤9223372036854775807:=by omega)(hv:aN P ops base vals i=some (.int .i64 (IntKind.i64.wrap ((x:Int) - (y:Int)))):=by kernel_rfl)(hc:(bl ops A D i&& !(Wd.testBit i))=true:=by kernel_rfl)(hD:D|||2^i=D':=by kernel_rfl):aF P ops A n base K D X Wd vals h:=aF.dO hc hD hv (congrArg (Value.int .i64) (gJ (by omega) (by omega) (by omega))) hs
theorem tV{k:Nat}(j:Nat){b:Nat}(off:Nat)(vs l':List Value){l:List Value}{E:TypeId}(m:h[b]? =some (.cells l.toArray E (0,0)))(hh:∀h',Grew (some b) h h'→h'[b]? =some (.cells l'.toArray E)→aP P ops n base K (j+1) (aS (az P ops base (j - k) k vals) j undef) h')
    (hx:fx P ops base (az P ops base (j - k) k vals) j=some (⟨b,off,none⟩,vs):=by kernel_rfl) (hfit:off+vs.length ≤l.length :=by exact of_decide_eq_true (by kernel_rfl)) (h1:∀v∈vs,v.oneCell' =true:=by exact List.all_eq_true.1 (by kernel_rfl)) (e:splice l off vs=l':=by kernel_rfl)
    (hr:il P ops base (j - k) k vals=true:=by kernel_rfl) (hk:Nat.ble k j=true:=by kernel_rfl):aP P ops n base K k vals h:=tW j off vs l l' m hh hx hfit h1 e hr hk
theorem bt{k:Nat}(j:Nat){b:Nat}(vs:List Value){l:List Value}{E:TypeId}(m:h[b]? =some (.cells l.toArray E (0,0)))(hh:∀h',Grew (some b) h h'→h'[b]? =some (.cells vs.toArray E)→aP P ops n base K (j+1) (aS (az P ops base (j - k) k vals) j undef) h')
    (hx:fx P ops base (az P ops base (j - k) k vals) j=some (⟨b,0,none⟩,vs):=by kernel_rfl) (hfit:0+vs.length ≤l.length :=by exact of_decide_eq_true (by kernel_rfl)) (h1:∀v∈vs,v.oneCell' =true:=by exact List.all_eq_true.1 (by kernel_rfl)) (e:splice l 0 vs=vs:=by kernel_rfl)
    (hr:il P ops base (j - k) k vals=true:=by kernel_rfl) (hk:Nat.ble k j=true:=by kernel_rfl):aP P ops n base K k vals h:=tW j 0 vs l vs m hh hx hfit h1 e hr hk
/-! effects in a region that draws its order -/
theorem mN{A:List Nat}{D X Wd:Nat}(D' X' i:Nat)(v:Value)(cs:Array Value)(E:TypeId)(hh:∀h',Ext h h'→h'[h.size]? =some (.cells cs E)→aF P ops A n base K D' X' Wd (aS vals i v) h')(hx:wk P ops base vals i h.size =some (v, .cells cs E):=by kernel_rfl)
    (hn:nexts ops A D=[i]:=by kernel_rfl) (hD:D|||2^i=D':=by kernel_rfl) (hX:X|||fW A i|||2^i=X':=by kernel_rfl) (hp:gH ops A D X Wd i=[]:=by kernel_rfl):aF P ops A n base K D X Wd vals h:=
  aF.wc hn hD hX hp (Does.new hx) fun v' h' ⟨e1,e2⟩=>by subst e1;exact hh h' (aT e2) (bj e2)
theorem mV{A:List Nat}{D X Wd:Nat}(D' X' i:Nat){b:Nat}(off:Nat)(vs l':List Value){l:List Value}{E:TypeId}(m:h[b]? =some (.cells l.toArray E (0,0)))(hh:∀h',Grew (some b) h h'→h'[b]? =some (.cells l'.toArray E)→aF P ops A n base K D' X' Wd (aS vals i undef) h')
    (hx:fx P ops base vals i=some (⟨b,off,none⟩,vs):=by kernel_rfl) (hfit:off+vs.length ≤l.length :=by exact of_decide_eq_true (by kernel_rfl)) (h1:∀v∈vs,v.oneCell' =true:=by exact List.all_eq_true.1 (by kernel_rfl)) (e:splice l off vs=l':=by kernel_rfl)
    (hn:nexts ops A D=[i]:=by kernel_rfl) (hD:D|||2^i=D':=by kernel_rfl) (hX:X|||fW A i|||2^i=X':=by kernel_rfl) (hp:gH ops A D X Wd i=[]:=by kernel_rfl):aF P ops A n base K D X Wd vals h:=
  aF.wc hn hD hX hp (Does.store hx m hfit h1) fun v' h' ⟨e1,e2⟩=>by subst e1;exact hh h' (bD e2) (bR e2 e m)
theorem i'{A:List Nat}{D X Wd:Nat}(D' X' i:Nat){R:Value→Heap→Prop}(hd:Does P ops base vals i h R)(hh:∀v h',R v h'→aF P ops A n base K D' X' Wd (aS vals i v) h')
    (hn:nexts ops A D=[i]:=by kernel_rfl) (hD:D|||2^i=D':=by kernel_rfl) (hX:X|||fW A i|||2^i=X':=by kernel_rfl) (hp:gH ops A D X Wd i=[]:=by kernel_rfl):aF P ops A n base K D X Wd vals h:=aF.wc hn hD hX hp hd hh
theorem gC{A:List Nat}{D X Wd:Nat}(D' X' i:Nat){R:Value→Heap→Prop}{f:FuncId}{args:Array Value}(hs:Sat P f args h R)(hh:∀v h',R v h'→aF P ops A n base K D' X' Wd (aS vals i v) h')(hx:qY P ops base vals i=some (f,args):=by kernel_rfl)
    (hn:nexts ops A D=[i]:=by kernel_rfl) (hD:D|||2^i=D':=by kernel_rfl) (hX:X|||fW A i|||2^i=X':=by kernel_rfl) (hp:gH ops A D X Wd i=[]:=by kernel_rfl):aF P ops A n base K D X Wd vals h:=aF.wc hn hD hX hp (Does.call hx hs) hh
theorem gD{A:List Nat}{D X Wd:Nat}(D' X' i:Nat)(pend:List Nat){R:Value→Heap→Prop}(hd:Does P ops base vals i h R)(hh:∀v h',R v h'→(∀j∈pend,Good P ops base vals h' j)∧aF P ops A n base K D' X' Wd (aS vals i v) h')
    (hn:nexts ops A D=[i]:=by kernel_rfl) (hD:D|||2^i=D':=by kernel_rfl) (hX:X|||fW A i|||2^i=X':=by kernel_rfl) (hp:gH ops A D X Wd i=pend:=by kernel_rfl):aF P ops A n base K D X Wd vals h:=aF.eff hn hD hX pend hp hd hh
theorem pg{A:List Nat}{D X Wd:Nat}(D' X' i:Nat)(pend:List Nat){R:Value→Heap→Prop}(hd:Does P ops base vals i h R)(hs:∀v h',R v h'→(∀j∈pend,Good P ops base vals h' j)∧aF P ops A n base K D' X' Wd (aS vals i v) h')
    (hD:D|||2^i=D':=by kernel_rfl) (hX:X|||fW A i|||2^i=X':=by kernel_rfl) (hp:gH ops A D X Wd i=pend:=by kernel_rfl):
    ∃R,Does P ops base vals i h R∧∀v h',R v h'→(∀j∈gH ops A D X Wd i,Good P ops base vals h' j)∧aF P ops A n base K (D|||2^i) (X|||fW A i|||2^i) Wd (aS vals i v) h':=⟨R,hd,by subst hD;subst hX;subst hp;exact hs⟩
theorem mR{A:List Nat}{D X Wd:Nat}(D' kP i:Nat){b:Nat}{cs:Array Value}{E:TypeId}{fr:Nat×Nat}(m:h[b]? =some (.cells cs E fr))(hs:aF P ops A n base K D' X kP (aS vals i (.agg cs)) h)
    (hx:eN ops base vals i=some (nt ops base vals i,⟨b,0,none⟩):=by kernel_rfl) (ht:cM P (nt ops base vals i)=some (true,cs.size):=by kernel_rfl) (hc:bl ops A D i=true:=by kernel_rfl) (hD:D|||2^i=D':=by kernel_rfl) (hW:Wd|||2^i=kP:=by kernel_rfl):aF P ops A n base K D X Wd vals h:=aF.look hc hD hW (Calm.load hx (ko m ht)) hs
theorem mO{A:List Nat}{D X Wd:Nat}(D' kP i off:Nat)(v:Value){b:Nat}{cs:Array Value}{E:TypeId}{fr:Nat×Nat}(m:h[b]? =some (.cells cs E fr))(hs:aF P ops A n base K D' X kP (aS vals i v) h)
    (hv:cs[off]? =some v:=by rfl) (hx:eN ops base vals i=some (nt ops base vals i,⟨b,off,none⟩):=by kernel_rfl) (ht:cM P (nt ops base vals i)=some (false,1):=by kernel_rfl) (hc:bl ops A D i=true:=by kernel_rfl) (hD:D|||2^i=D':=by kernel_rfl) (hW:Wd|||2^i=kP:=by kernel_rfl):aF P ops A n base K D X Wd vals h:=
  aF.look hc hD hW (Calm.load hx (Loads.one ht ((an m).trans hv))) hs
/-! the return of a block's cells -/
def Cc(fn:Func):Nat×TypeId:=match fn.results.toList with|ResultVar.cell t T::_=>(t,T)|_=>(0,0)
theorem rB{fn:Func}{L:List (Nat×Value)}{R:Value→Heap→Prop}{b:Nat}{cs:Array Value}{E:TypeId}{fr:Nat×Nat}(m:h[b]? =some (.cells cs E fr))(hf:Fr a n L)(hR:R (.agg cs) h)(hr:fn.results = #[.cell (Cc fn).1 (Cc fn).2]:=by rfl)(ht:cM P (Cc fn).2 =some (true,cs.size):=by kernel_rfl)
    (hv:∀d,lk L (Cc fn).1 d= .pointer (some ⟨b,0,none⟩):=by intro _;rfl):qU P fn R .ret a h:=
  aA [.cell (Cc fn).1 (Cc fn).2] [.agg cs] _ hr hf ⟨⟨_,hv _,ko m ht⟩,trivial⟩ rfl hR
end
end Go.ai
namespace Go.ai
open Go
/-! ### what stands where nothing was turned -/
theorem _root_.Eq.x{h h':Heap}{b:Nat}{o:Obj}(m:h[b]? =some o)(g:Ext h h'):h'[b]? =some o:=g.blk m
theorem _root_.Eq.y{h h':Heap}{b:Nat}{o:Obj}{c:Option Nat}(m:h[b]? =some o)(g:Grew c h h')(hne:some b≠c:=by simp;omega):h'[b]? =some o:=Grew.blk g m hne
theorem Ext.v{h0 h h':Heap}{b:Nat}(e:Ext h0 h)(g:Grew (some b) h h')(hb:h0.size ≤b:=by omega):Ext h0 h':=e.grew g (by rintro _ ⟨⟩;exact hb)
section
variable {P:Program} {K:Exit→Act→Heap→Prop} {h:Heap} {ops:Array Oper} {base:Nat→Value} {vals:aQ} {n:Nat}
/-! ints that are equal, or are not -/
theorem eT{k:Nat}(j:Nat)(x y:Int)(hs:aP P ops n base K (j+1) (aS (az P ops base (j - k) k vals) j (.bool true)) h)(hq:x=y:=by omega)(hv:aN P ops base (az P ops base (j - k) k vals) j=some (.bool (x==y)):=by kernel_rfl)(hr:il P ops base (j - k) k vals=true:=by kernel_rfl)(hk:Nat.ble k j=true:=by kernel_rfl):aP P ops n base K k vals h:=
  t1 j _ _ (congrArg Value.bool (beq_iff_eq.2 hq)) hs hv hr hk
theorem eF{k:Nat}(j:Nat)(x y:Int)(hs:aP P ops n base K (j+1) (aS (az P ops base (j - k) k vals) j (.bool false)) h)(hq:x≠y:=by omega)(hv:aN P ops base (az P ops base (j - k) k vals) j=some (.bool (x==y)):=by kernel_rfl)(hr:il P ops base (j - k) k vals=true:=by kernel_rfl)(hk:Nat.ble k j=true:=by kernel_rfl):aP P ops n base K k vals h:=
  t1 j _ _ (congrArg Value.bool (beq_eq_false_iff_ne.2 hq)) hs hv hr hk
theorem uT{k:Nat}(j:Nat)(x y:Int)(hs:aP P ops n base K (j+1) (aS (az P ops base (j - k) k vals) j (.bool true)) h)(hq:x≠y:=by omega)(hv:aN P ops base (az P ops base (j - k) k vals) j=some (.bool (!(x==y))):=by kernel_rfl)(hr:il P ops base (j - k) k vals=true:=by kernel_rfl)(hk:Nat.ble k j=true:=by kernel_rfl):aP P ops n base K k vals h:=
  t1 j _ _ (congrArg (fun b=>Value.bool (!b)) (beq_eq_false_iff_ne.2 hq)) hs hv hr hk
theorem uF{k:Nat}(j:Nat)(x y:Int)(hs:aP P ops n base K (j+1) (aS (az P ops base (j - k) k vals) j (.bool false)) h)(hq:x=y:=by omega)(hv:aN P ops base (az P ops base (j - k) k vals) j=some (.bool (!(x==y))):=by kernel_rfl)(hr:il P ops base (j - k) k vals=true:=by kernel_rfl)(hk:Nat.ble k j=true:=by kernel_rfl):aP P ops n base K k vals h:=
  t1 j _ _ (congrArg (fun b=>Value.bool (!b)) (beq_iff_eq.2 hq)) hs hv hr hk
theorem DI{A:List Nat}{D X Wd:Nat}(D' i:Nat)(x y:Int)(hs:aF P ops A n base K D' X Wd (aS vals i (.bool true)) h)(hq:x=y:=by omega)(hv:aN P ops base vals i=some (.bool (x==y)):=by kernel_rfl)(hc:(bl ops A D i&& !(Wd.testBit i))=true:=by kernel_rfl)(hD:D|||2^i=D':=by kernel_rfl):aF P ops A n base K D X Wd vals h:=aF.dO hc hD hv (congrArg Value.bool (beq_iff_eq.2 hq)) hs
theorem Ey{A:List Nat}{D X Wd:Nat}(D' i:Nat)(x y:Int)(hs:aF P ops A n base K D' X Wd (aS vals i (.bool false)) h)(hq:x≠y:=by omega)(hv:aN P ops base vals i=some (.bool (x==y)):=by kernel_rfl)(hc:(bl ops A D i&& !(Wd.testBit i))=true:=by kernel_rfl)(hD:D|||2^i=D':=by kernel_rfl):aF P ops A n base K D X Wd vals h:=aF.dO hc hD hv (congrArg Value.bool (beq_eq_false_iff_ne.2 hq)) hs
theorem E3{A:List Nat}{D X Wd:Nat}(D' i:Nat)(x y:Int)(hs:aF P ops A n base K D' X Wd (aS vals i (.bool true)) h)(hq:x≠y:=by omega)(hv:aN P ops base vals i=some (.bool (!(x==y))):=by kernel_rfl)(hc:(bl ops A D i&& !(Wd.testBit i))=true:=by kernel_rfl)(hD:D|||2^i=D':=by kernel_rfl):aF P ops A n base K D X Wd vals h:=aF.dO hc hD hv (congrArg (fun b=>Value.bool (!b)) (beq_eq_false_iff_ne.2 hq)) hs
theorem Ez{A:List Nat}{D X Wd:Nat}(D' i:Nat)(x y:Int)(hs:aF P ops A n base K D' X Wd (aS vals i (.bool false)) h)(hq:x=y:=by omega)(hv:aN P ops base vals i=some (.bool (!(x==y))):=by kernel_rfl)(hc:(bl ops A D i&& !(Wd.testBit i))=true:=by kernel_rfl)(hD:D|||2^i=D':=by kernel_rfl):aF P ops A n base K D X Wd vals h:=aF.dO hc hD hv (congrArg (fun b=>Value.bool (!b)) (beq_iff_eq.2 hq)) hs
/-! an element's address, some cells of a block, where the order is drawn -/
theorem mI{A:List Nat}{D X Wd:Nat}(D' i:Nat)(ad:Addr)(len sz x q:Nat)(hs:aF P ops A n base K D' X Wd (aS vals i (.pointer (some (ad.add q)))) h)(hl:x<len:=by omega)(hq:x*sz=q:=by omega)(hx:q_ P ops base vals i=some (ad,len,sz,(x:Int)):=by kernel_rfl)(hc:(bl ops A D i&& !(Wd.testBit i))=true:=by kernel_rfl)(hD:D|||2^i=D':=by kernel_rfl):aF P ops A n base K D X Wd vals h:=
  aF.free hc hD (Calm.wq x q hx rfl hl hq) hs
theorem mJ{A:List Nat}{D X Wd:Nat}(D' i b off len sz x q:Nat)(hs:aF P ops A n base K D' X Wd (aS vals i (.pointer (some ⟨b,q,none⟩))) h)(hl:x<len:=by omega)(hq:off+x*sz=q:=by omega)(hx:q_ P ops base vals i=some (⟨b,off,none⟩,len,sz,(x:Int)):=by kernel_rfl)(hc:(bl ops A D i&& !(Wd.testBit i))=true:=by kernel_rfl)(hD:D|||2^i=D':=by kernel_rfl):aF P ops A n base K D X Wd vals h:=
  aF.free hc hD (Calm.indexB x q hx rfl hl hq) hs
theorem mQ{A:List Nat}{D X Wd:Nat}(D' kP i off:Nat)(vs:List Value){b:Nat}{cs:Array Value}{E:TypeId}{fr:Nat×Nat}(m:h[b]? =some (.cells cs E fr))(hs:aF P ops A n base K D' X kP (aS vals i (.agg vs.toArray)) h)
    (hx:eN ops base vals i=some (nt ops base vals i,⟨b,off,none⟩):=by kernel_rfl) (ht:cM P (nt ops base vals i)=some (true,vs.length):=by kernel_rfl) (hv:(cs.toList.drop off).take vs.length =vs:=by rfl) (hc:bl ops A D i=true:=by kernel_rfl) (hD:D|||2^i=D':=by kernel_rfl) (hW:Wd|||2^i=kP:=by kernel_rfl):aF P ops A n base K D X Wd vals h:=aF.look hc hD hW (Calm.load hx (Loads.blk ht m hv)) hs
end
end Go.ai
end
section
namespace Go.aL
open Go
abbrev W:=BitVec 32
def wv(b:W):Value:= .int .u32 (b.toNat :Int)
def bv(b:UInt8):Value:= .int .u8 (b.toNat :Int)
theorem fY(x:Nat):IntKind.u32.wrap (x:Int)=((x%4294967296:Nat):Int):=by
  simp only[IntKind.wrap,IntKind.bits,IntKind.signed]
  simp
theorem ofInt32(b:W):BitVec.ofInt 32 (b.toNat :Int)=b:=by simp
theorem eV(b:W):IntKind.u32.wrap (b.toNat :Int)=(b.toNat :Int):=by
  rw[fY,Nat.mod_eq_of_lt b.isLt]
theorem add32(a b:W):Value.int .u32 (IntKind.u32.wrap ((a.toNat :Int)+(b.toNat :Int)))=wv (a+b):=by
  unfold wv
  rw[←Int.natCast_add,fY,BitVec.toNat_add]
theorem AR(a b:W):Value.int .u32 (IntKind.u32.wrap ((BitVec.ofInt 32 (a.toNat :Int)&&&BitVec.ofInt 32 (b.toNat :Int)).toNat :Int))=wv (a&&&b):=by
  unfold wv;rw[ofInt32,ofInt32,eV]
theorem Cj(a b:W):Value.int .u32 (IntKind.u32.wrap ((BitVec.ofInt 32 (a.toNat :Int)|||BitVec.ofInt 32 (b.toNat :Int)).toNat :Int))=wv (a|||b):=by
  unfold wv;rw[ofInt32,ofInt32,eV]
theorem AS(a b:W):Value.int .u32 (IntKind.u32.wrap ((BitVec.ofInt 32 (a.toNat :Int)^^^BitVec.ofInt 32 (b.toNat :Int)).toNat :Int))=wv (a^^^b):=by
  unfold wv;rw[ofInt32,ofInt32,eV]
theorem AT(a:W)(n:Nat):Value.int .u32 (IntKind.u32.wrap ((a.toNat :Int)*2^n))=wv (a<<<n):=by
  unfold wv
  have:((a.toNat :Int)*2^n)=((a.toNat *2^n:Nat):Int):=by simp
  rw[this,fY,BitVec.toNat_shiftLeft,Nat.shiftLeft_eq]
theorem po(a:W)(n:Nat):Value.int .u32 (Int.fdiv (a.toNat :Int) (2^n))=wv (a>>>n):=by
  unfold wv
  rw[BitVec.toNat_ushiftRight,Nat.shiftRight_eq_div_pow]
  congr 1
  have:((2:Int)^n)=((2^n:Nat):Int):=by simp
  rw[this,Int.fdiv_eq_ediv_of_nonneg _ (Int.natCast_nonneg _),Int.natCast_ediv]
theorem Ck(a:W):Value.int .u32 (IntKind.u32.wrap ((BitVec.ofInt 32 4294967295^^^BitVec.ofInt 32 (a.toNat :Int)).toNat :Int))=wv (~~~a):=by
  unfold wv
  rw[ofInt32,eV]
  have:BitVec.ofInt 32 4294967295=BitVec.allOnes 32:=by decide
  rw[this,BitVec.allOnes_xor]
def w8(b:UInt8):W:=BitVec.ofNat 32 b.toNat
theorem Cl(b:UInt8):Value.int .u32 (IntKind.u32.wrap (b.toNat :Int))=wv (w8 b):=by
  unfold wv w8
  rw[fY,BitVec.toNat_ofNat]
def b32(a:W):UInt8:=UInt8.ofNat a.toNat
theorem nu(x:Nat):IntKind.u8.wrap (x:Int)=((x%256:Nat):Int):=by
  simp only[IntKind.wrap,IntKind.bits,IntKind.signed]
  simp
theorem Bg(a:W):Value.int .u8 (IntKind.u8.wrap (a.toNat :Int))=bv (b32 a):=by
  unfold bv b32
  rw[nu];simp
end Go.aL
namespace Go.aL
open Go
def rr(x:W)(n:Nat):W:=(x>>>n)|||(x<<<(32 - n))
def word(p:List UInt8)(i:Nat):W:=w8 (p.getD i 0)<<<24|||w8 (p.getD (i+1) 0)<<<16|||w8 (p.getD (i+2) 0)<<<8|||w8 (p.getD (i+3) 0)
def E4(x:W):W:=rr x 7^^^rr x 18^^^(x>>>3)
def sg1(x:W):W:=rr x 17^^^rr x 19^^^(x>>>10)
def AU(l:List W):W:=l.getD (l.length - 16) 0+E4 (l.getD (l.length - 15) 0)+l.getD (l.length - 7) 0+sg1 (l.getD (l.length - 2) 0)
def first(p:List UInt8):Nat→List W
  |0=>[]
  |k+1=>first p k++[word p (4*k)]
def sched(p:List UInt8):Nat→List W
  |0=>first p 16
  |k+1=>sched p k++[AU (sched p k)]
theorem eW(p:List UInt8):∀k,(first p k).length =k
  |0=>rfl
  |k+1=>by simp[first,eW p k]
theorem bL(p:List UInt8):∀k,(sched p k).length =16+k
  |0=>eW p 16
  |k+1=>by simp[sched,bL p k];omega
structure S8 where
  a:W
  b:W
  c:W
  d:W
  e:W
  f:W
  g:W
  h:W
def Dq (k w : W) (s : S8) : S8 :=
  ⟨(s.h +(rr s.e 6^^^rr s.e 11^^^rr s.e 25)+((s.e &&&s.f)^^^((~~~s.e)&&&s.g))+k+w)+((rr s.a 2^^^rr s.a 13^^^rr s.a 22)+((s.a &&&s.b)^^^(s.a &&&s.c)^^^(s.b &&&s.c))),s.a,s.b,s.c,
    s.d +(s.h +(rr s.e 6^^^rr s.e 11^^^rr s.e 25)+((s.e &&&s.f)^^^((~~~s.e)&&&s.g))+k+w),s.e,s.f,s.g⟩
def fZ:List W:=[0x428a2f98,0x71374491,0xb5c0fbcf,0xe9b5dba5,0x3956c25b,0x59f111f1,0x923f82a4,0xab1c5ed5,
  0xd807aa98,0x12835b01,0x243185be,0x550c7dc3,0x72be5d74,0x80deb1fe,0x9bdc06a7,0xc19bf174,
  0xe49b69c1,0xefbe4786,0x0fc19dc6,0x240ca1cc,0x2de92c6f,0x4a7484aa,0x5cb0a9dc,0x76f988da,
  0x983e5152,0xa831c66d,0xb00327c8,0xbf597fc7,0xc6e00bf3,0xd5a79147,0x06ca6351,0x14292967,
  0x27b70a85,0x2e1b2138,0x4d2c6dfc,0x53380d13,0x650a7354,0x766a0abb,0x81c2c92e,0x92722c85,
  0xa2bfe8a1,0xa81a664b,0xc24b8b70,0xc76c51a3,0xd192e819,0xd6990624,0xf40e3585,0x106aa070,
  0x19a4c116,0x1e376c08,0x2748774c,0x34b0bcb5,0x391c0cb3,0x4ed8aa4a,0x5b9cca4f,0x682e6ff3,
  0x748f82ee,0x78a5636f,0x84c87814,0x8cc70208,0x90befffa,0xa4506ceb,0xbef9a3f7,0xc67178f2]
def rounds(ws:List W)(s:S8):Nat→S8
  |0=>s
  |k+1=>Dq (fZ.getD k 0) (ws.getD k 0) (rounds ws s k)
def Cm(x y:S8):S8:=⟨x.a +y.a,x.b +y.b,x.c +y.c,x.d +y.d,x.e +y.e,x.f +y.f,x.g +y.g,x.h +y.h⟩
def piece(s:S8)(p:List UInt8):S8:=Cm s (rounds (sched p 48) s 64)
def sv(s:S8):List Value:=[wv s.a,wv s.b,wv s.c,wv s.d,wv s.e,wv s.f,wv s.g,wv s.h]
def H0:S8:=⟨0x6a09e667,0xbb67ae85,0x3c6ef372,0xa54ff53a,0x510e527f,0x9b05688c,0x1f83d9ab,0x5be0cd19⟩
def wl(xs:List W):List Value:=xs.map wv++List.replicate (64 - xs.length) (wv 0)
theorem uP{xs:List W}(h:xs.length ≤64):(wl xs).length =64:=by simp[wl];omega
theorem Bh{xs:List W}{j:Nat}(h:j<xs.length):(wl xs).toArray[j]? =some (wv (xs.getD j 0)):=by
  simp[wl,List.getElem?_append,h,List.getD]
theorem Bi{xs:List W}{v:W}(h:xs.length <64):ai.splice (wl xs) xs.length [wv v]=wl (xs++[v]):=by
  obtain⟨m,hm⟩:∃m,64 - xs.length =m+1:=⟨63 - xs.length,by omega⟩
  have h2:64 - (xs++[v]).length =m:=by simp;omega
  have hx:xs.length =(xs.map wv).length :=by simp
  unfold ai.splice wl
  rw[hm,h2]
  conv=>lhs;rw[hx]
  simp[List.replicate_succ,List.drop_append]
end Go.aL
namespace Go.aL
open Go
theorem td{xs:List W}{v:W}{off:Nat}(h:xs.length =off)(h2:off<64):ai.splice (wl xs) off [wv v]=wl (xs++[v]):=by subst h;exact Bi h2
theorem wx{xs:List W}{v:Value}{off:Nat}(h:xs.length =off)(h2:off<64):off+[v].length ≤(wl xs).length :=by rw[uP (by omega)];simp;omega
theorem jq{xs:List W}{n j:Nat}(h:xs.length =n)(hj:j<n):(wl xs).toArray[j]? =some (wv (xs.getD j 0)):=Bh (by omega)
theorem tf(v:W):∀u∈[wv v],u.oneCell' =true:=fun u hu=>by
  rw[List.mem_singleton] at hu;subst hu;rfl
end Go.aL
namespace Go.aL
open Go
theorem lP(p:List UInt8)(k:Nat):sched p (k+1)=sched p k++[(sched p k).getD (16+k - 16) 0+(rr ((sched p k).getD (16+k - 15) 0) 7^^^rr ((sched p k).getD (16+k - 15) 0) 18^^^((sched p k).getD (16+k - 15) 0)>>>3)+
    (sched p k).getD (16+k - 7) 0+(rr ((sched p k).getD (16+k - 2) 0) 17^^^rr ((sched p k).getD (16+k - 2) 0) 19^^^((sched p k).getD (16+k - 2) 0)>>>10)]:=by
  rw[sched,AU,bL];rfl
end Go.aL
namespace Go.aL
open Go Go.ai
def oA:Nat→S8→List UInt8→S8
  |0,st,_=>st
  |f+1,st,l=>if 64≤l.length then oA f (piece st (l.take 64)) (l.drop 64) else st
def run(st:S8)(l:List UInt8):S8:=oA l.length st l
def oB:Nat→List UInt8→List UInt8
  |0,l=>l
  |f+1,l=>if 64≤l.length then oB f (l.drop 64) else l
def rem(l:List UInt8):List UInt8:=oB l.length l
theorem nv:∀(f g:Nat) (st:S8) (l:List UInt8),l.length ≤f→l.length ≤g→oA f st l=oA g st l
  |0,0,_,_,_,_=>rfl
  |0,g+1,st,l,h,_=>by simp only[oA];rw[if_neg (by omega)]
  |f+1,0,st,l,_,h=>by simp only[oA];rw[if_neg (by omega)]
  | f + 1, g + 1, st, l, h1, h2 => by
    simp only[oA]
    by_cases hl:64≤l.length
    · rw [if_pos hl, if_pos hl]
      exact nv f g _ _ (by rw[List.length_drop];omega) (by rw[List.length_drop];omega)
    · rw[if_neg hl,if_neg hl]
theorem gK{st:S8}{l:List UInt8}(h:64≤l.length):run st l=run (piece st (l.take 64)) (l.drop 64):=by
  unfold run
  obtain⟨n,hn⟩:∃n,l.length =n+1:=⟨l.length - 1,by omega⟩
  rw[hn]
  conv=>lhs;unfold oA
  rw[if_pos h]
  exact nv _ _ _ _ (by rw[List.length_drop];omega) (Nat.le_refl _)
theorem run_end{st:S8}{l:List UInt8}(h:l.length <64):run st l=st:=by
  unfold run
  cases l.length with
  |zero=>rfl
  |succ n=>unfold oA;rw[if_neg (by omega)]
theorem nx:∀(f g:Nat) (l:List UInt8),l.length ≤f→l.length ≤g→oB f l=oB g l
  |0,0,_,_,_=>rfl
  |0,g+1,l,h,_=>by simp only[oB];rw[if_neg (by omega)]
  |f+1,0,l,_,h=>by simp only[oB];rw[if_neg (by omega)]
  | f + 1, g + 1, l, h1, h2 => by
    simp only[oB]
    by_cases hl:64≤l.length
    · rw [if_pos hl, if_pos hl]
      exact nx f g _ (by rw[List.length_drop];omega) (by rw[List.length_drop];omega)
    · rw[if_neg hl,if_neg hl]
theorem gL{l:List UInt8}(h:64≤l.length):rem l=rem (l.drop 64):=by
  unfold rem
  obtain⟨n,hn⟩:∃n,l.length =n+1:=⟨l.length - 1,by omega⟩
  rw[hn]
  conv=>lhs;unfold oB
  rw[if_pos h]
  exact nx _ _ _ (by rw[List.length_drop];omega) (Nat.le_refl _)
theorem kX{l:List UInt8}(h:l.length <64):rem l=l:=by
  unfold rem
  cases l.length with
  |zero=>rfl
  |succ n=>unfold oB;rw[if_neg (by omega)]
theorem oC : ∀ (m : Nat) (l : List UInt8), l.length ≤ m → (rem l).length < 64 ∧ (rem l).length ≤ l.length ∧ (rem l).length % 64 = l.length % 64
  | m, l, h => by
    by_cases hl:64≤l.length
    · rw [gL hl]
      match m,h with
      |0,h=>omega
      | m + 1, h =>
        obtain⟨a,b,c⟩:=oC m (l.drop 64) (by rw[List.length_drop];omega)
        rw[List.length_drop] at b c
        exact⟨a,by omega,by omega⟩
    · rw [kX (by omega)]
      exact⟨by omega,by omega,rfl⟩
theorem iS : ∀ (m : Nat) (st : S8) (l r : List UInt8), l.length ≤ m → run st (l ++ r) = run (run st l) (rem l ++ r)
  | m, st, l, r, h => by
    by_cases hl:64≤l.length
    · match m, h with
      |0,h=>omega
      | m + 1, h =>
        rw[gK (st:=st) (l:=l) hl,gL hl,gK (st:=st) (l:=l++r) (by rw[List.length_append];omega),List.take_append_of_le_length hl,List.drop_append_of_le_length hl]
        exact iS m _ _ _ (by rw[List.length_drop];omega)
    · rw[run_end (st:=st) (l:=l) (by omega),kX (by omega)]
theorem lQ : ∀ (m : Nat) (l r : List UInt8), l.length ≤ m → rem (l ++ r) = rem (rem l ++ r)
  | m, l, r, h => by
    by_cases hl:64≤l.length
    · match m, h with
      |0,h=>omega
      | m + 1, h =>
        rw[gL (l:=l) hl,gL (l:=l++r) (by rw[List.length_append];omega),List.drop_append_of_le_length hl]
        exact lQ m _ _ (by rw[List.length_drop];omega)
    · rw[kX (l:=l) (by omega)]
def told(s:S8):List UInt8:=[b32 (s.a >>>24),b32 (s.a >>>16),b32 (s.a >>>8),b32 (s.a >>>0),b32 (s.b >>>24),b32 (s.b >>>16),b32 (s.b >>>8),b32 (s.b >>>0),
  b32 (s.c >>>24),b32 (s.c >>>16),b32 (s.c >>>8),b32 (s.c >>>0),b32 (s.d >>>24),b32 (s.d >>>16),b32 (s.d >>>8),b32 (s.d >>>0),
  b32 (s.e >>>24),b32 (s.e >>>16),b32 (s.e >>>8),b32 (s.e >>>0),b32 (s.f >>>24),b32 (s.f >>>16),b32 (s.f >>>8),b32 (s.f >>>0),
  b32 (s.g >>>24),b32 (s.g >>>16),b32 (s.g >>>8),b32 (s.g >>>0),b32 (s.h >>>24),b32 (s.h >>>16),b32 (s.h >>>8),b32 (s.h >>>0)]
def tk(s:S8)(j:Nat):List Value:=((told s).map bv).take j++List.replicate (32 - j) (.int .u8 0)
def hv(l:List UInt8):Value:= .agg (l.map bv).toArray
def bG(n:Nat):Nat:=(120 - n%64)%64
def wy(n:Nat):List UInt8:=[UInt8.ofNat (8*n/2^56),UInt8.ofNat (8*n/2^48),UInt8.ofNat (8*n/2^40),UInt8.ofNat (8*n/2^32),UInt8.ofNat (8*n/2^24),UInt8.ofNat (8*n/2^16),UInt8.ofNat (8*n/2^8),UInt8.ofNat (8*n/2^0)]
def padded(r:List UInt8)(n:Nat):List UInt8:=r++[0x80]++List.replicate (bG (r.length +1)) 0++wy n
def fin(st:S8)(r:List UInt8)(n:Nat):List UInt8:=told (run st (padded r n))
def sha(l:List UInt8):List UInt8:=fin H0 l l.length
theorem rk{a b:Nat}(h:a%64=b%64):bG a=bG b:=by unfold bG;rw[h]
theorem tg(l:List UInt8):fin (run H0 l) (rem l) l.length =sha l:=by
  unfold sha fin padded
  obtain⟨_,_,hm⟩:=oC l.length l (Nat.le_refl _)
  have hz:bG ((rem l).length +1)=bG (l.length +1):=rk (by omega)
  rw[hz]
  simp only[List.append_assoc]
  rw[iS l.length H0 l _ (Nat.le_refl _)]
theorem lR(r:List UInt8)(n:Nat):(padded r n).length %64=0:=by
  simp only[padded,List.length_append,List.length_replicate,wy,List.length_cons,List.length_nil,bG]
  omega
def rl (h : Heap) (b : Nat) (o : Option Nat) (st : S8) (r : List UInt8) (n : Nat) : Prop :=
  ∃ ad cap, o = ad.map (·.block) ∧ o ≠ some b ∧ h[b]? = some (.cells (sv st ++ [Value.slice ad r.length cap, Value.int .u64 ((n : Nat) : Int)]).toArray 149) ∧
    Own h (.slice ad r.length cap) 5 r.length 1 (r.map bv)
def Gr(F:Nat→Prop)(h h':Heap):Prop:=h.size ≤h'.size ∧∀k,k<h.size →¬F k→h'[k]? =h[k]?
theorem Gr.refl(F:Nat→Prop)(h:Heap):Gr F h h:=⟨Nat.le_refl _,fun _ _ _=>rfl⟩
theorem Gr.trans{F:Nat→Prop}{a b c:Heap}(h:Gr F a b)(k:Gr F b c):Gr F a c:=⟨Nat.le_trans h.1 k.1,fun i hi hF=>(k.2 i (Nat.lt_of_lt_of_le hi h.1) hF).trans (h.2 i hi hF)⟩
theorem Gr.grew{F:Nat→Prop}{a b c:Heap}{o:Option Nat}(h:Gr F a b)(k:Grew o b c)(ho:∀i,o=some i→F i∨a.size ≤i):Gr F a c:=
  ⟨Nat.le_trans h.1 k.size,fun i hi hF=>(k.get i (Nat.lt_of_lt_of_le hi h.1) (fun e=>by rcases ho i e.symm with h|h;exact hF h;omega)).trans (h.2 i hi hF)⟩
theorem Gr.ext{F:Nat→Prop}{a b c:Heap}(h:Gr F a b)(k:Ext b c):Gr F a c:=h.grew k (by simp)
theorem Gr.blk{F:Nat→Prop}{h h':Heap}{b:Nat}{x:Obj}(g:Gr F h h')(e:h[b]? =some x)(hF:¬F b):h'[b]? =some x:=by rw[g.2 b (aj e) hF];exact e
theorem Gr.dD{F:Nat→Prop}{h0 h h':Heap}(e:Ext h0 h)(g:Gr F h h')(hF:∀k,F k→h0.size ≤k):Ext h0 h':=
  ⟨Nat.le_trans e.size g.1,fun k hk _=>(g.2 k (Nat.lt_of_lt_of_le hk e.size) (fun hf=>by have:=hF k hf;omega)).trans (e.get k hk (by simp))⟩
def bq(h:Heap):Prop:=∀j,j<64→hcell h ⟨0,j,none⟩=some (wv (fZ.getD j 0))
theorem bq.ext{h h':Heap}(k:bq h)(g:Ext h h'):bq h':=fun j hj=>g.cell (k j hj)
theorem bq.grew{o:Option Nat}{h h':Heap}(k:bq h)(g:Grew o h h')(hne:some 0≠o):bq h':=fun j hj=>g.cell (k j hj) hne
theorem bq.gr{F:Nat→Prop}{h h':Heap}(k:bq h)(g:Gr F h h')(hF:¬F 0):bq h':=fun j hj=>by
  rw[dP (g.2 0 (gI (k j hj)) hF)];exact k j hj
theorem bq.lt{h:Heap}(k:bq h):0<h.size :=gI (k 0 (by decide))
theorem mW{x:Nat}(h:x<18446744073709551616):IntKind.u64.wrap (x:Int)=(x:Int):=by
  simp only[IntKind.wrap,IntKind.bits,IntKind.signed]
  simp
  omega
theorem mX{x:Int}{y:Nat}(e:x=(y:Int))(h:y<18446744073709551616):IntKind.u64.wrap x=(y:Int):=by rw[e];exact mW h
theorem aB(l:List UInt8):∀u∈l.map bv,u.oneCell' =true:=fun u hu=>by
  obtain⟨x,_,rfl⟩:=List.mem_map.1 hu;rfl
theorem Bj{l:List UInt8}{j:Nat}(h:j<l.length):(l.map bv)[j]? =some (bv (l.getD j 0)):=by simp[h,List.getD]
end Go.aL
namespace Go.ai
open Go
section
variable {P:Program} {ops:Array Oper} {base:Nat→Value} {vals:aQ} {h:Heap} {i:Nat}
theorem ae(ad:Option Addr)(n c:Nat):aZ (.slice ad n c)=ad.map (·.block):=by cases ad<;>rfl
theorem Calm.cn{a x:Option Addr}{len cap sz:Nat}{lo hi mx:Option Int}(l r m n' c':Nat)(hx:Bd P ops base vals i=some (a,len,cap,sz,lo,hi,mx))
    (hm:mx=none∧m=cap∨mx=some (m:Int)∧m≤cap∧hi.isSome =true) (hr:hi=none∧r=len∨hi=some (r:Int)) (hl:lo=none∧l=0∨lo=some (l:Int)) (hlr:l≤r) (hrm:r≤m)
    (e1:x=if m=l then a else a.map (·.add (l*sz))) (e2:r - l=n') (e3:m - l=c') (h:Heap):
    Calm P ops base vals i h (.slice x n' c'):=by
  subst e1;subst e2;subst e3
  exact Calm.slice l r m hx hm hr hl hlr hrm h
theorem Own.drop{ad:Option Addr}{n cap E sz:Nat}{xs:List Value}(o:Own h (.slice ad n cap) E n sz xs)(k:Nat)(hk:k≤n):
    Own h (.slice (if cap=k then ad else ad.map (·.add (k*sz))) (n - k) (cap - k)) E (n - k) sz (xs.drop (k*sz)):=by
  refine⟨by rw[List.length_drop,o.1,Nat.sub_mul], ?_⟩
  rcases o.2 with⟨e,hn⟩|⟨g,off,cap',l,e,hg,hnc,hcm,hfit,hx⟩
  · simp only [Value.slice.injEq] at e
    obtain⟨rfl,rfl,rfl⟩:=e
    have:k=0:=by omega
    subst this
    exact .inl (by simp)
  · simp only [Value.slice.injEq] at e
    obtain⟨rfl,_,rfl⟩:=e
    refine .inr ?_
    by_cases hck:cap=k
    · have hnk : n = k := by omega
      subst hck;subst hnk
      refine⟨g,off,0,l,by simp,hg,by omega,by simp[maxLen],by omega, ?_⟩
      rw[Nat.sub_self,Nat.zero_mul,List.take_zero,List.drop_eq_nil_of_le (by rw[o.1];exact Nat.le_refl _)]
    · refine ⟨g, off + k * sz, cap - k, l, ?_, hg, by omega, by omega, ?_, ?_⟩
      · rw[if_neg hck];simp[add_lit]
      · have h1 : k * sz + (cap - k) * sz = cap * sz := by rw [← Nat.add_mul]; congr 1; omega
        omega
      · rw[←hx,List.drop_take,List.drop_drop, ←Nat.sub_mul]
theorem Own.oD{ad:Option Addr}{n cap E sz:Nat}{xs:List Value}(o:Own h (.slice ad n cap) E n sz xs)(hn:0<n):∃g off,ad=some ⟨g,off,none⟩∧n≤cap:=by
  rcases o.2 with⟨_,h0⟩|⟨g,off,cap',l,e,hg,hnc,_⟩
  · omega
  · simp only [Value.slice.injEq] at e
    exact⟨g,off,e.1,by omega⟩
theorem Row.cells{ad:Addr}{n m cap sz:Nat}{xs:List Value}(r:Row h (.slice (some ad) n cap) m sz xs):∀j u,xs[j]? =some u→hcell h (ad.add j)=some u:=by
  rcases r.2 with⟨e,_⟩|⟨a,c,e,_,hx⟩
  · cases e
  · simp only [Value.slice.injEq, Option.some.injEq] at e
    obtain⟨rfl,_,_⟩:=e
    exact hx
end
end Go.ai
namespace Go.aL
open Go Go.ai
theorem wz{h:Heap}{ad:Addr}{cap E:Nat}{r:List UInt8}(o:Own h (.slice (some ad) r.length cap) E r.length 1 (r.map bv))(hl:64≤r.length):∀j,j<64→hcell h (ad.add j)=some (bv ((r.take 64).getD j 0)):=by
  intro j hj
  refine o.row.cells j _ ?_
  rw[Bj (by omega)]
  congr 2
  simp[List.getD,hj]
theorem gM{c:Prop}[Decidable c]{a:Addr}{k:Nat}{x:Option Addr}(e:x=if c then some a else (some a).map (·.add k)):x.map (·.block)=some a.block :=by
  subst e;split<;>simp[add_block]
theorem bM(x k:Nat):Int.fdiv (x:Int) (2^k)=((x/2^k:Nat):Int):=by
  have:((2:Int)^k)=((2^k:Nat):Int):=by simp
  rw[this,Int.fdiv_eq_ediv_of_nonneg _ (Int.natCast_nonneg _),Int.natCast_ediv]
theorem bn(x:Nat):Value.int .u8 (IntKind.u8.wrap (x:Int))=bv (UInt8.ofNat x):=by
  unfold bv
  rw[nu];simp
theorem ny{c:Prop}[Decidable c](a:Addr):some a=if c then some a else (some a).map (·.add (0*1)):=by
  split<;>simp[Addr.add]
end Go.aL
namespace Go.ai
open Go
section
variable {P:Program} {ops:Array Oper} {base:Nat→Value} {vals:aQ} {h:Heap} {i:Nat}
theorem Row.kept{o:Option Nat}{h h':Heap}{v:Value}{n sz:Nat}{xs:List Value}(r:Row h v n sz xs)(g:Grew o h h')(hne:aZ v=none∨aZ v≠o):Row h' v n sz xs:=by
  refine⟨r.1,r.2.imp id ?_⟩
  rintro⟨a,cap,e,hc,hx⟩
  refine⟨a,cap,e,hc,fun j u hu=>g.cell (hx j u hu) ?_⟩
  rw[add_block]
  subst e
  simpa[aZ] using hne
theorem Row.kept'{o:Option Nat}{h h':Heap}{v:Value}{n sz:Nat}{xs:List Value}(r:Row h v n sz xs)(g:Grew o h h')(hne:xs=[]∨aZ v=none∨aZ v≠o):Row h' v n sz xs:=by
  rcases hne with e0|hne
  · exact⟨r.1,r.2.imp id fun⟨a,cap,e,hc,_⟩=>⟨a,cap,e,hc,fun j u hu=>by rw[e0] at hu;cases hu⟩⟩
  · exact r.kept g hne
theorem Does.dp {t E : TypeId} {sz db n m : Nat} {v x : Value} {xs ys : List Value} (hx : oy ops base vals i = some (t, t, v, x)) (he : wm P t = some (E, sz, db, true))
    (ho:Own h v E n sz xs) (hr:Row h x m sz ys) (h1:∀u∈ys,u.oneCell' =true) (hlen:n+m≤maxLen) (hbytes:(n+m)*db≤140737488355328):
    Does P ops base vals i h fun v' h'=>∃ad cap,v'= .slice ad (n+m) cap∧Own h' (.slice ad (n+m) cap) E (n+m) sz (xs++ys)∧Grew (aZ v) h h'∧(ad.map (·.block)=aZ v∨ad.map (·.block)=some h.size):=by
  obtain⟨o,h1',h2',hf⟩:=(Does.append hx he ho hr h1 hlen hbytes).does
  refine⟨o,h1',h2',fun w hw=> ?_⟩
  have key:∀v' h',(Own h' v' E (n+m) sz (xs++ys)∧Grew (aZ v) h h'∧(aZ v'=aZ v∨aZ v'=some h.size)∧(v'= .slice none 0 0∨∃a c,v'= .slice (some a) (n+m) c))→
      ∃ad cap,v'= .slice ad (n+m) cap∧Own h' (.slice ad (n+m) cap) E (n+m) sz (xs++ys)∧Grew (aZ v) h h'∧(ad.map (·.block)=aZ v∨ad.map (·.block)=some h.size):=by
    rintro v' h' ⟨a,b,c,d⟩
    rcases d with d|⟨q,k,d⟩
    · have hz : n + m = 0 := by
        rcases a.2 with⟨_,e⟩|⟨_,_,_,_,e,_⟩
        · exact e
        · rw[d] at e;cases e
      have e:Value.slice none (n+m) 0=v':=by rw[hz];exact d.symm
      refine⟨none,0,e.symm,by rw[e];exact a,b, ?_⟩
      rw[d] at c;exact c
    · refine ⟨some q, k, d, by rw [← d]; exact a, b, ?_⟩
      rw[d] at c;exact c
  have:=hf w hw
  generalize (execOp (env ops base vals i) o).run P w=r at this⊢
  cases r with
  |halt x w'=>exact this
  | ok x w' =>
    cases x<;>first|exact⟨this.1,key _ _ this.2⟩|exact⟨this.1,this.2.mono key⟩|exact this
def Cd(ops:Array Oper)(base:Nat→Value)(vals:aQ)(j:Nat):TypeId:=match oy ops base vals j with|some (t,_)=>t|none=>0
theorem Does.eX{t E:TypeId}{sz db n m c N:Nat}{a:Option Addr}{x:Value}{xs ys Z:List Value}(hx:oy ops base vals i=some (t,t, .slice a n c,x))(he:wm P t=some (E,sz,db,true))
    (ho:Own h (.slice a n c) E n sz xs) (hr:Row h x m sz ys) (h1:∀u∈ys,u.oneCell' =true) (hlen:n+m≤maxLen) (hbytes:(n+m)*db≤140737488355328) (hN:n+m=N) (hZ:xs++ys=Z):
    Does P ops base vals i h fun v' h'=>∃ad cap,v'= .slice ad N cap∧Own h' (.slice ad N cap) E N sz Z∧Grew (a.map (fun(x:Addr)=>x.block)) h h'∧(ad.map (fun(x:Addr)=>x.block)=a.map (fun(x:Addr)=>x.block)∨ad.map (fun(x:Addr)=>x.block)=some h.size):=by
  subst hN;subst hZ
  have:=Does.dp hx he ho hr h1 hlen hbytes
  rw[ae] at this
  exact this
theorem tP{K:Exit→Act→Heap→Prop}{nn k:Nat}(j N db:Nat)(Z:List Value){E:TypeId}{sz n m c:Nat}{a:Option Addr}{x:Value}{xs ys:List Value}(ho:Own h (.slice a n c) E n sz xs)(hr:Row h x m sz ys)(h1:∀u∈ys,u.oneCell' =true)
    (hh:∀ad cap h',Own h' (.slice ad N cap) E N sz Z→Grew (a.map (fun(x:Addr)=>x.block)) h h'→(ad.map (fun(x:Addr)=>x.block)=a.map (fun(x:Addr)=>x.block)∨ad.map (fun(x:Addr)=>x.block)=some h.size)→aP P ops nn base K (j+1) (aS (az P ops base (j - k) k vals) j (.slice ad N cap)) h')
    (hl:n+m≤maxLen:=by unfold maxLen;omega) (hb:(n+m)*db≤140737488355328:=by omega) (hN:n+m=N:=by first|rfl| (simp;done)| (simp;omega)) (hZ:xs++ys=Z:=by first|rfl|exact List.flatMap_append.symm | (simp;done)| (simp;rfl))
    (hx:oy ops base (az P ops base (j - k) k vals) j=some (Cd ops base (az P ops base (j - k) k vals) j,Cd ops base (az P ops base (j - k) k vals) j, .slice a n c,x):=by kernel_rfl) (he:wm P (Cd ops base (az P ops base (j - k) k vals) j)=some (E,sz,db,true):=by kernel_rfl)
    (hr':il P ops base (j - k) k vals=true:=by kernel_rfl) (hk:Nat.ble k j=true:=by kernel_rfl):aP P ops nn base K k vals h:=
  jmp j hk hr' (aP.eff (Does.eX hx he ho hr h1 hl hb hN hZ) rfl fun v' h' ⟨ad,cap,e,o,g,b⟩=>by subst e;exact hh ad cap h' o g b)
theorem th{K:Exit→Act→Heap→Prop}{A:List Nat}{D X Wd nn:Nat}(D' X' i N db:Nat)(Z:List Value){E:TypeId}{sz n m c:Nat}{a:Option Addr}{x:Value}{xs ys:List Value}(ho:Own h (.slice a n c) E n sz xs)(hr:Row h x m sz ys)(h1:∀u∈ys,u.oneCell' =true)
    (hh:∀ad cap h',Own h' (.slice ad N cap) E N sz Z→Grew (a.map (fun(x:Addr)=>x.block)) h h'→(ad.map (fun(x:Addr)=>x.block)=a.map (fun(x:Addr)=>x.block)∨ad.map (fun(x:Addr)=>x.block)=some h.size)→aF P ops A nn base K D' X' Wd (aS vals i (.slice ad N cap)) h')
    (hl:n+m≤maxLen:=by unfold maxLen;omega) (hb:(n+m)*db≤140737488355328:=by omega) (hN:n+m=N:=by first|rfl| (simp;done)| (simp;omega)) (hZ:xs++ys=Z:=by first|rfl|exact List.flatMap_append.symm | (simp;done)| (simp;rfl))
    (hx:oy ops base vals i=some (Cd ops base vals i,Cd ops base vals i, .slice a n c,x):=by kernel_rfl) (he:wm P (Cd ops base vals i)=some (E,sz,db,true):=by kernel_rfl)
    (hn:nexts ops A D=[i]:=by kernel_rfl) (hD:D|||2^i=D':=by kernel_rfl) (hX:X|||fW A i|||2^i=X':=by kernel_rfl) (hp:gH ops A D X Wd i=[]:=by kernel_rfl):aF P ops A nn base K D X Wd vals h:=
  aF.wc hn hD hX hp (Does.eX hx he ho hr h1 hl hb hN hZ) fun v' h' ⟨ad,cap,e,o,g,b⟩=>by subst e;exact hh ad cap h' o g b
theorem Own.k{o:Option Nat}{h':Heap}{ad:Option Addr}{n c m sz:Nat}{E:TypeId}{xs:List Value}(w:Own h (.slice ad n c) E m sz xs)(g:Grew o h h')(hne:ad.map (fun(x:Addr)=>x.block)=none∨ad.map (fun(x:Addr)=>x.block)≠o):Own h' (.slice ad n c) E m sz xs:=w.kept g (by rw[ae];exact hne)
end
end Go.ai
namespace Go.aL
open Go Go.ai
/-! words, by the operation alone -/
section
variable {P:Program} {K:Exit→Act→Heap→Prop} {h:Heap} {ops:Array Oper} {base:Nat→Value} {vals:aQ} {n:Nat}
theorem xA{k:Nat}(j:Nat)(a b:W)(hs:aP P ops n base K (j+1) (aS (az P ops base (j - k) k vals) j (wv (a+b))) h)(hv:aN P ops base (az P ops base (j - k) k vals) j=some (.int .u32 (IntKind.u32.wrap ((a.toNat :Int)+(b.toNat :Int)))):=by kernel_rfl)(hr:il P ops base (j - k) k vals=true:=by kernel_rfl)(hk:Nat.ble k j=true:=by kernel_rfl):aP P ops n base K k vals h:=t1 j _ _ (add32 a b) hs hv hr hk
theorem yA{A:List Nat}{D X Wd:Nat}(D' i:Nat)(a b:W)(hs:aF P ops A n base K D' X Wd (aS vals i (wv (a+b))) h)(hv:aN P ops base vals i=some (.int .u32 (IntKind.u32.wrap ((a.toNat :Int)+(b.toNat :Int)))):=by kernel_rfl)(hc:(bl ops A D i&& !(Wd.testBit i))=true:=by kernel_rfl)(hD:D|||2^i=D':=by kernel_rfl):aF P ops A n base K D X Wd vals h:=aF.dO hc hD hv (add32 a b) hs
theorem xX{k:Nat}(j:Nat)(a b:W)(hs:aP P ops n base K (j+1) (aS (az P ops base (j - k) k vals) j (wv (a^^^b))) h)(hv:aN P ops base (az P ops base (j - k) k vals) j=some (.int .u32 (IntKind.u32.wrap ((BitVec.ofInt 32 (a.toNat :Int)^^^BitVec.ofInt 32 (b.toNat :Int)).toNat :Int))):=by kernel_rfl)(hr:il P ops base (j - k) k vals=true:=by kernel_rfl)(hk:Nat.ble k j=true:=by kernel_rfl):aP P ops n base K k vals h:=t1 j _ _ (AS a b) hs hv hr hk
theorem yX{A:List Nat}{D X Wd:Nat}(D' i:Nat)(a b:W)(hs:aF P ops A n base K D' X Wd (aS vals i (wv (a^^^b))) h)(hv:aN P ops base vals i=some (.int .u32 (IntKind.u32.wrap ((BitVec.ofInt 32 (a.toNat :Int)^^^BitVec.ofInt 32 (b.toNat :Int)).toNat :Int))):=by kernel_rfl)(hc:(bl ops A D i&& !(Wd.testBit i))=true:=by kernel_rfl)(hD:D|||2^i=D':=by kernel_rfl):aF P ops A n base K D X Wd vals h:=aF.dO hc hD hv (AS a b) hs
theorem xN{k:Nat}(j:Nat)(a b:W)(hs:aP P ops n base K (j+1) (aS (az P ops base (j - k) k vals) j (wv (a&&&b))) h)(hv:aN P ops base (az P ops base (j - k) k vals) j=some (.int .u32 (IntKind.u32.wrap ((BitVec.ofInt 32 (a.toNat :Int)&&&BitVec.ofInt 32 (b.toNat :Int)).toNat :Int))):=by kernel_rfl)(hr:il P ops base (j - k) k vals=true:=by kernel_rfl)(hk:Nat.ble k j=true:=by kernel_rfl):aP P ops n base K k vals h:=t1 j _ _ (AR a b) hs hv hr hk
theorem yN{A:List Nat}{D X Wd:Nat}(D' i:Nat)(a b:W)(hs:aF P ops A n base K D' X Wd (aS vals i (wv (a&&&b))) h)(hv:aN P ops base vals i=some (.int .u32 (IntKind.u32.wrap ((BitVec.ofInt 32 (a.toNat :Int)&&&BitVec.ofInt 32 (b.toNat :Int)).toNat :Int))):=by kernel_rfl)(hc:(bl ops A D i&& !(Wd.testBit i))=true:=by kernel_rfl)(hD:D|||2^i=D':=by kernel_rfl):aF P ops A n base K D X Wd vals h:=aF.dO hc hD hv (AR a b) hs
theorem xO{k:Nat}(j:Nat)(a b:W)(hs:aP P ops n base K (j+1) (aS (az P ops base (j - k) k vals) j (wv (a|||b))) h)(hv:aN P ops base (az P ops base (j - k) k vals) j=some (.int .u32 (IntKind.u32.wrap ((BitVec.ofInt 32 (a.toNat :Int)|||BitVec.ofInt 32 (b.toNat :Int)).toNat :Int))):=by kernel_rfl)(hr:il P ops base (j - k) k vals=true:=by kernel_rfl)(hk:Nat.ble k j=true:=by kernel_rfl):aP P ops n base K k vals h:=t1 j _ _ (Cj a b) hs hv hr hk
theorem yO{A:List Nat}{D X Wd:Nat}(D' i:Nat)(a b:W)(hs:aF P ops A n base K D' X Wd (aS vals i (wv (a|||b))) h)(hv:aN P ops base vals i=some (.int .u32 (IntKind.u32.wrap ((BitVec.ofInt 32 (a.toNat :Int)|||BitVec.ofInt 32 (b.toNat :Int)).toNat :Int))):=by kernel_rfl)(hc:(bl ops A D i&& !(Wd.testBit i))=true:=by kernel_rfl)(hD:D|||2^i=D':=by kernel_rfl):aF P ops A n base K D X Wd vals h:=aF.dO hc hD hv (Cj a b) hs
theorem xL{k:Nat}(j:Nat)(a:W)(m:Nat)(hs:aP P ops n base K (j+1) (aS (az P ops base (j - k) k vals) j (wv (a<<<m))) h)(hv:aN P ops base (az P ops base (j - k) k vals) j=some (.int .u32 (IntKind.u32.wrap ((a.toNat :Int)*2^m))):=by kernel_rfl)(hr:il P ops base (j - k) k vals=true:=by kernel_rfl)(hk:Nat.ble k j=true:=by kernel_rfl):aP P ops n base K k vals h:=t1 j _ _ (AT a m) hs hv hr hk
theorem yL{A:List Nat}{D X Wd:Nat}(D' i:Nat)(a:W)(m:Nat)(hs:aF P ops A n base K D' X Wd (aS vals i (wv (a<<<m))) h)(hv:aN P ops base vals i=some (.int .u32 (IntKind.u32.wrap ((a.toNat :Int)*2^m))):=by kernel_rfl)(hc:(bl ops A D i&& !(Wd.testBit i))=true:=by kernel_rfl)(hD:D|||2^i=D':=by kernel_rfl):aF P ops A n base K D X Wd vals h:=aF.dO hc hD hv (AT a m) hs
theorem xR{k:Nat}(j:Nat)(a:W)(m:Nat)(hs:aP P ops n base K (j+1) (aS (az P ops base (j - k) k vals) j (wv (a>>>m))) h)(hv:aN P ops base (az P ops base (j - k) k vals) j=some (.int .u32 (Int.fdiv (a.toNat :Int) (2^m))):=by kernel_rfl)(hr:il P ops base (j - k) k vals=true:=by kernel_rfl)(hk:Nat.ble k j=true:=by kernel_rfl):aP P ops n base K k vals h:=t1 j _ _ (po a m) hs hv hr hk
theorem yR{A:List Nat}{D X Wd:Nat}(D' i:Nat)(a:W)(m:Nat)(hs:aF P ops A n base K D' X Wd (aS vals i (wv (a>>>m))) h)(hv:aN P ops base vals i=some (.int .u32 (Int.fdiv (a.toNat :Int) (2^m))):=by kernel_rfl)(hc:(bl ops A D i&& !(Wd.testBit i))=true:=by kernel_rfl)(hD:D|||2^i=D':=by kernel_rfl):aF P ops A n base K D X Wd vals h:=aF.dO hc hD hv (po a m) hs
theorem yM{A:List Nat}{D X Wd:Nat}(D' i:Nat)(a:W)(hs:aF P ops A n base K D' X Wd (aS vals i (wv (~~~a))) h)(hv:aN P ops base vals i=some (.int .u32 (IntKind.u32.wrap ((BitVec.ofInt 32 4294967295^^^BitVec.ofInt 32 (a.toNat :Int)).toNat :Int))):=by kernel_rfl)(hc:(bl ops A D i&& !(Wd.testBit i))=true:=by kernel_rfl)(hD:D|||2^i=D':=by kernel_rfl):aF P ops A n base K D X Wd vals h:=aF.dO hc hD hv (Ck a) hs
theorem yC{A:List Nat}{D X Wd:Nat}(D' i:Nat)(a:UInt8)(hs:aF P ops A n base K D' X Wd (aS vals i (wv (w8 a))) h)(hv:aN P ops base vals i=some (.int .u32 (IntKind.u32.wrap (a.toNat :Int))):=by kernel_rfl)(hc:(bl ops A D i&& !(Wd.testBit i))=true:=by kernel_rfl)(hD:D|||2^i=D':=by kernel_rfl):aF P ops A n base K D X Wd vals h:=aF.dO hc hD hv (Cl a) hs
theorem xD{k:Nat}(j:Nat)(a:W)(hs:aP P ops n base K (j+1) (aS (az P ops base (j - k) k vals) j (bv (b32 a))) h)(hv:aN P ops base (az P ops base (j - k) k vals) j=some (.int .u8 (IntKind.u8.wrap (a.toNat :Int))):=by kernel_rfl)(hr:il P ops base (j - k) k vals=true:=by kernel_rfl)(hk:Nat.ble k j=true:=by kernel_rfl):aP P ops n base K k vals h:=t1 j _ _ (Bg a) hs hv hr hk
end
end Go.aL
end
section
namespace Go.ai
open Go Go.aL
theorem dE{P:Program}{e:TypeId}{cs:Array Value}{i:Nat}{v:Value}{d:TypeDesc}(he:P.underlying e=some d)(hd:(match d with| .struct _| .array _ _=>true|_=>false)=false)(hv:cs[i]? =some v)(w:World):(part e cs i).run P w= .ok v w:=by
  have ha:(isAgg e).run P w= .ok false w:=by
    unfold isAgg
    simp only[Sem.run_bind,run_underlying he,Result.andThen_ok]
    cases d<;>first|rfl| (simp at hd)
  simp[part,ha,hv]
theorem bv_beq(a b:UInt8):(((a.toNat :Int))==(b.toNat :Int))=decide (a=b):=by
  rw[Bool.eq_iff_iff]
  simp only[beq_iff_eq,decide_eq_true_eq]
  constructor
  · intro h;exact UInt8.toNat_inj.1 (by omega)
  · intro h;rw[h]
theorem kH{P:Program}{e:TypeId}{n:Nat}(d:Nat)(he:P.underlying e=some (.int .u8))(l r:List UInt8)(hl:l.length =n)(hr:r.length =n)(w:World):∀(m k:Nat),k+m=n→
    (forIn (List.range' k m) ((none:Option Bool),()) fun i __s=>(do
            let __do_lift←part e (List.map bv l).toArray (i*1)
            let pq←part e (List.map bv r).toArray (i*1)
            let __do_lift←Op.equalIn (d+1) e __do_lift pq
            if (!__do_lift)=true then pure (ForInStep.done (some false,())) else pure (ForInStep.yield (none,())):Sem (ForInStep (Option Bool×Unit)))).run P w=
      .ok (if l.drop k=r.drop k then (none,()) else (some false,())) w
  | 0, k, hk => by
    rw[List.drop_eq_nil_of_le (by omega),List.drop_eq_nil_of_le (by omega)]
    simp
  | m + 1, k, hk => by
    have hkl:k<l.length :=by omega
    have hkr:k<r.length :=by omega
    have h1:=dE (P:=P) (cs:=(List.map bv l).toArray) (i:=k*1) (v:=bv l[k]) he rfl (by simp[hkl]) w
    have h2:=dE (P:=P) (cs:=(List.map bv r).toArray) (i:=k*1) (v:=bv r[k]) he rfl (by simp[hkr]) w
    have h3:(Op.equalIn (d+1) e (bv l[k]) (bv r[k])).run P w= .ok (decide (l[k]=r[k])) w:=by
      rw[←bv_beq]
      simp[Op.equalIn,run_underlying he,bv]
    rw[List.range'_succ,List.forIn_cons]
    simp only[Sem.run_bind,h1,h2,h3,Result.andThen_ok]
    rw[List.drop_eq_getElem_cons hkl,List.drop_eq_getElem_cons hkr]
    by_cases e1:l[k]=r[k]
    · simp only [e1, decide_true, Bool.not_true, Bool.false_eq_true, if_false, Sem.run_pure, Result.andThen_ok, List.cons.injEq, true_and]
      exact kH d he l r hl hr w m (k+1) (by omega)
    · have hne : ¬ (l[k] :: l.drop (k + 1) = r[k] :: r.drop (k + 1)) := fun h => e1 (List.cons.inj h).1
      rw[if_neg hne]
      simp only[e1,decide_false,Bool.not_false,if_true,Sem.run_pure,Result.andThen_ok]
theorem f_{P:Program}{t e:TypeId}{n:Nat}{i:TypeInfo}(d:Nat)(ht:P.underlying t=some (.array n e))(he:P.underlying e=some (.int .u8))(hi:P.info? e=some i)(hs:i.size =1)(l r:List UInt8)(hl:l.length =n)(hr:r.length =n)(w:World):
    (Op.equalIn (d+2) t (.agg (l.map bv).toArray) (.agg (r.map bv).toArray)).run P w= .ok (decide (l=r)) w:=by
  have hloop:=kH (P:=P) d he l r hl hr w n 0 (by omega)
  have hsz:[:n].size =n:=by simp[Std.Legacy.Range.size]
  unfold Op.equalIn
  simp only[Sem.run_bind,run_underlying ht,Result.andThen_ok,sizeOf,typeInfo,program,Sem.run,hi,hs,Sem.run_pure,Std.Legacy.Range.forIn_eq_forIn_range',hsz]
  rw[hloop]
  simp only[List.drop_zero,Result.andThen_ok]
  by_cases e1:l=r<;>simp[e1]
def eqF (P : Program) (e : Operand → Value) (o : Oper) : Option (Bool × Array Value × Array Value × Nat) :=
  match o.op with
  | .binOp op t x y _ => match e x, e y with
    | .agg a, .agg b => match P.underlying t, P.eqGuardType P.depth t with
      | some (.array n el), false => match P.underlying el, P.info? el with
        | some (.int .u8), some i => match Nat.beq i.size 1 with
          | true => match op with
            | .eql =>some (true,a,b,n)
            | .neq =>some (false,a,b,n)
            |_=>none
          |false=>none
        |_,_=>none
      |_,_=>none
    |_,_=>none
  |_=>none
def Co(P:Program)(ops:Array Oper)(base:Nat→Value)(vals:aQ)(i:Nat):=(i_ ops base vals i).bind (eqF P (env ops base vals i))
theorem Calm.E5{P:Program}{ops:Array Oper}{base:Nat→Value}{vals:aQ}{i:Nat}{q:Bool}{n:Nat}{l r:List UInt8}(hx:Co P ops base vals i=some (q,(l.map bv).toArray,(r.map bv).toArray,n))(hl:l.length =n)(hr:r.length =n)(h:Heap):
    Calm P ops base vals i h (.bool (decide (l=r)==q)):=by
  refine aO hx fun o ho w hw=> ?_
  have hrun:(execOp (env ops base vals i) o).run P w= .ok (.value (.bool (decide (l=r)==q))) w:=by
    unfold eqF at ho
    cases hop:o.op with
    | binOp op t x y T' =>
      simp only[hop] at ho
      cases ha:env ops base vals i x<;>simp only[ha] at ho<;>first| (cases ho;done)|skip
      cases hb:env ops base vals i y<;>simp only[hb] at ho<;>first| (cases ho;done)|skip
      cases hu:P.underlying t with
      |none=>simp[hu] at ho
      | some dd =>
        cases hg:P.eqGuardType P.depth t with
        |true=>cases dd<;>simp[hu,hg] at ho
        | false =>
          cases dd<;>simp only[hu,hg] at ho<;>first| (cases ho;done)|skip
          rename_i n' el
          cases hel:P.underlying el with
          |none=>simp[hel] at ho
          | some de =>
            cases de<;>simp only[hel] at ho<;>first| (cases ho;done)|skip
            rename_i k
            cases hi:P.info? el with
            |none=>cases k<;>simp[hi] at ho
            | some inf =>
              cases k<;>simp only[hi] at ho<;>first| (cases ho;done)|skip
              cases hs:Nat.beq inf.size 1 with
              |false=>simp[hs] at ho
              | true =>
                have hs':=Nat.eq_of_beq_eq_true hs
                simp only[hs] at ho
                cases op<;>simp only[Option.some.injEq,Prod.mk.injEq] at ho<;>first| (cases ho;done)|skip
                · obtain ⟨rfl, h1, h2, rfl⟩ := ho
                  subst h1;subst h2
                  have hq:=f_ (P:=P) 9998 hu hel hi hs' l r hl hr w
                  unfold execOp
                  simp[hop,eqGuard,binOp,ha,hb,hg,Op.equal,Op.maxDepth,hq,program,Sem.run]
                · obtain ⟨rfl, h1, h2, rfl⟩ := ho
                  subst h1;subst h2
                  have hq:=f_ (P:=P) 9998 hu hel hi hs' l r hl hr w
                  unfold execOp
                  simp[hop,eqGuard,binOp,ha,hb,hg,Op.equal,Op.maxDepth,hq,program,Sem.run]
    |_=>simp[hop] at ho
  rw[hrun]
  exact⟨Same.refl w,rfl,hw⟩
end Go.ai
namespace Go.aL
open Go Go.ai
theorem rl.gr{F:Nat→Prop}{h h':Heap}{b:Nat}{o:Option Nat}{st:S8}{r:List UInt8}{n:Nat}(s:rl h b o st r n)(g:Gr F h h')(hb:¬F b)(ho:∀k,o=some k→¬F k):rl h' b o st r n:=by
  obtain⟨ad,cap,e,hne,hm,hown⟩:=s
  refine⟨ad,cap,e,hne,g.blk hm hb,hown.1,hown.2.imp id ?_⟩
  rintro⟨q,off,cap',l,e1,hg,r⟩
  refine⟨q,off,cap',l,e1,g.blk hg (ho q ?_),r⟩
  simp only[Value.slice.injEq] at e1
  rw[e,e1.1];rfl
theorem Ext.gr{h h':Heap}(g:Ext h h')(F:Nat→Prop):Gr F h h':=⟨g.size,fun k hk _=>g.get k hk (by simp)⟩
theorem rl.ext{h h':Heap}{b:Nat}{o:Option Nat}{st:S8}{r:List UInt8}{n:Nat}(s:rl h b o st r n)(g:Ext h h'):rl h' b o st r n:=
  s.gr (Ext.gr g (fun _=>False)) (fun h=>h) (fun _ _ h=>h)
theorem Grew.gr{o:Option Nat}{h h':Heap}(g:Grew o h h'):Gr (fun k=>some k=o) h h':=⟨g.size,fun k hk hne=>g.get k hk hne⟩
theorem rl.lt{h:Heap}{b:Nat}{o:Option Nat}{st:S8}{r:List UInt8}{n:Nat}(s:rl h b o st r n):b<h.size ∧∀k,o=some k→k<h.size :=by
  obtain⟨ad,cap,e,hne,hm,hown⟩:=s
  exact⟨aj hm,fun k hk=>hown.lt (by rw[ae, ←e];exact hk)⟩
theorem Row.DJ(h:Heap):Row h (.slice none ([]:List UInt8).length 0) ([]:List UInt8).length 1 (([]:List UInt8).map bv):=Row.nil h 1
end Go.aL
end
section
namespace Go.Proofs.YtegkejcglfgpmaaGreatDoor
open Go Go.ai Go.aL
theorem mixed:Tryz.prog.follows .mixedOrders =true:=by kernel_rfl
noncomputable def E6:Code:=Tryz.f119.body.getD .skip
theorem Bk(h:Heap)(x:W):Sat Tryz.prog 119 #[wv x,.int .i64 (-7)] h fun v h'=>v=wv (rr x 7)∧h'=h:=by
 refine ag Tryz.func119 17 fun a b=>qP [] b fun a b=>qP [(5,.int .u64 25)] b fun a b=>qS b<|xL 2 x 25<|xR 6 x 7<|xO 7 (x<<<25) (x>>>7) ?_
 exact sT [(4,wv ((x<<<25)|||(x>>>7)))] fun a b=>cR<|rT 4 (wv ((x<<<25)|||(x>>>7))) b<|⟨congrArg wv (BitVec.or_comm _ _),rfl⟩
theorem y_(h:Heap)(x:W):Sat Tryz.prog 119 #[wv x,.int .i64 (-18)] h fun v h'=>v=wv (rr x 18)∧h'=h:=by
 refine ag Tryz.func119 17 fun a b=>qP [] b fun a b=>qP [(5,.int .u64 14)] b fun a b=>qS b<|xL 2 x 14<|xR 6 x 18<|xO 7 (x<<<14) (x>>>18) ?_
 exact sT [(4,wv ((x<<<14)|||(x>>>18)))] fun a b=>cR<|rT 4 (wv ((x<<<14)|||(x>>>18))) b<|⟨congrArg wv (BitVec.or_comm _ _),rfl⟩
theorem za(h:Heap)(x:W):Sat Tryz.prog 119 #[wv x,.int .i64 (-17)] h fun v h'=>v=wv (rr x 17)∧h'=h:=by
 refine ag Tryz.func119 17 fun a b=>qP [] b fun a b=>qP [(5,.int .u64 15)] b fun a b=>qS b<|xL 2 x 15<|xR 6 x 17<|xO 7 (x<<<15) (x>>>17) ?_
 exact sT [(4,wv ((x<<<15)|||(x>>>17)))] fun a b=>cR<|rT 4 (wv ((x<<<15)|||(x>>>17))) b<|⟨congrArg wv (BitVec.or_comm _ _),rfl⟩
theorem zc(h:Heap)(x:W):Sat Tryz.prog 119 #[wv x,.int .i64 (-19)] h fun v h'=>v=wv (rr x 19)∧h'=h:=by
 refine ag Tryz.func119 17 fun a b=>qP [] b fun a b=>qP [(5,.int .u64 13)] b fun a b=>qS b<|xL 2 x 13<|xR 6 x 19<|xO 7 (x<<<13) (x>>>19) ?_
 exact sT [(4,wv ((x<<<13)|||(x>>>19)))] fun a b=>cR<|rT 4 (wv ((x<<<13)|||(x>>>19))) b<|⟨congrArg wv (BitVec.or_comm _ _),rfl⟩
theorem Bl(h:Heap)(x:W):Sat Tryz.prog 119 #[wv x,.int .i64 (-6)] h fun v h'=>v=wv (rr x 6)∧h'=h:=by
 refine ag Tryz.func119 17 fun a b=>qP [] b fun a b=>qP [(5,.int .u64 26)] b fun a b=>qS b<|xL 2 x 26<|xR 6 x 6<|xO 7 (x<<<26) (x>>>6) ?_
 exact sT [(4,wv ((x<<<26)|||(x>>>6)))] fun a b=>cR<|rT 4 (wv ((x<<<26)|||(x>>>6))) b<|⟨congrArg wv (BitVec.or_comm _ _),rfl⟩
theorem zd(h:Heap)(x:W):Sat Tryz.prog 119 #[wv x,.int .i64 (-11)] h fun v h'=>v=wv (rr x 11)∧h'=h:=by
 refine ag Tryz.func119 17 fun a b=>qP [] b fun a b=>qP [(5,.int .u64 21)] b fun a b=>qS b<|xL 2 x 21<|xR 6 x 11<|xO 7 (x<<<21) (x>>>11) ?_
 exact sT [(4,wv ((x<<<21)|||(x>>>11)))] fun a b=>cR<|rT 4 (wv ((x<<<21)|||(x>>>11))) b<|⟨congrArg wv (BitVec.or_comm _ _),rfl⟩
theorem ze(h:Heap)(x:W):Sat Tryz.prog 119 #[wv x,.int .i64 (-25)] h fun v h'=>v=wv (rr x 25)∧h'=h:=by
 refine ag Tryz.func119 17 fun a b=>qP [] b fun a b=>qP [(5,.int .u64 7)] b fun a b=>qS b<|xL 2 x 7<|xR 6 x 25<|xO 7 (x<<<7) (x>>>25) ?_
 exact sT [(4,wv ((x<<<7)|||(x>>>25)))] fun a b=>cR<|rT 4 (wv ((x<<<7)|||(x>>>25))) b<|⟨congrArg wv (BitVec.or_comm _ _),rfl⟩
theorem Bm(h:Heap)(x:W):Sat Tryz.prog 119 #[wv x,.int .i64 (-2)] h fun v h'=>v=wv (rr x 2)∧h'=h:=by
 refine ag Tryz.func119 17 fun a b=>qP [] b fun a b=>qP [(5,.int .u64 30)] b fun a b=>qS b<|xL 2 x 30<|xR 6 x 2<|xO 7 (x<<<30) (x>>>2) ?_
 exact sT [(4,wv ((x<<<30)|||(x>>>2)))] fun a b=>cR<|rT 4 (wv ((x<<<30)|||(x>>>2))) b<|⟨congrArg wv (BitVec.or_comm _ _),rfl⟩
theorem zf(h:Heap)(x:W):Sat Tryz.prog 119 #[wv x,.int .i64 (-13)] h fun v h'=>v=wv (rr x 13)∧h'=h:=by
 refine ag Tryz.func119 17 fun a b=>qP [] b fun a b=>qP [(5,.int .u64 19)] b fun a b=>qS b<|xL 2 x 19<|xR 6 x 13<|xO 7 (x<<<19) (x>>>13) ?_
 exact sT [(4,wv ((x<<<19)|||(x>>>13)))] fun a b=>cR<|rT 4 (wv ((x<<<19)|||(x>>>13))) b<|⟨congrArg wv (BitVec.or_comm _ _),rfl⟩
theorem zg(h:Heap)(x:W):Sat Tryz.prog 119 #[wv x,.int .i64 (-22)] h fun v h'=>v=wv (rr x 22)∧h'=h:=by
 refine ag Tryz.func119 17 fun a b=>qP [] b fun a b=>qP [(5,.int .u64 10)] b fun a b=>qS b<|xL 2 x 10<|xR 6 x 22<|xO 7 (x<<<10) (x>>>22) ?_
 exact sT [(4,wv ((x<<<10)|||(x>>>22)))] fun a b=>cR<|rT 4 (wv ((x<<<10)|||(x>>>22))) b<|⟨congrArg wv (BitVec.or_comm _ _),rfl⟩
noncomputable def b92:Code:=Tryz.f92.body.getD .skip
theorem nz(h:Heap)(s:S8)(pa:Addr)(pc:Nat)(p:List UInt8)(hp:∀j,j<64→hcell h (pa.add j)=some (bv (p.getD j 0)))(hK:bq h):Sat Tryz.prog 92 #[.agg #[wv s.a,wv s.b,wv s.c,wv s.d,wv s.e,wv s.f,wv s.g,wv s.h],.slice (some pa) 64 pc] h fun v h'=>v= .agg (sv (piece s p)).toArray ∧Ext h h':=by
 have n:=Ext.refl h
 refine ag Tryz.func92 211 fun a i=>qS i<|tN 0 (pV h.size) #[wv s.a,wv s.b,wv s.c,wv s.d,wv s.e,wv s.f,wv s.g,wv s.h] 145 fun h1 Q l=> ?_
 have S:=aj l
 have U:=n.size
 replace n:=n.ext Q
 refine tN 1 (pV h1.size) #[.int .u32 0,.int .u32 0,.int .u32 0,.int .u32 0,.int .u32 0,.int .u32 0,.int .u32 0,.int .u32 0] 145 fun r L o=> ?_
 have V:=aj o
 have M:=n.size
 replace n:=n.ext L
 replace l:=l.x L
 refine sT [(2,pV h.size),(4,pV h1.size)] fun a i=>qS i<|tN 0 (pV r.size) #[.int .u32 0,.int .u32 0,.int .u32 0,.int .u32 0,.int .u32 0,.int .u32 0,.int .u32 0,.int .u32 0,.int .u32 0,.int .u32 0,.int .u32 0,.int .u32 0,.int .u32 0,.int .u32 0,.int .u32 0,.int .u32 0,.int .u32 0,.int .u32 0,.int .u32 0,.int .u32 0,.int .u32 0,.int .u32 0,.int .u32 0,.int .u32 0,.int .u32 0,.int .u32 0,.int .u32 0,.int .u32 0,.int .u32 0,.int .u32 0,.int .u32 0,.int .u32 0,.int .u32 0,.int .u32 0,.int .u32 0,.int .u32 0,.int .u32 0,.int .u32 0,.int .u32 0,.int .u32 0,.int .u32 0,.int .u32 0,.int .u32 0,.int .u32 0,.int .u32 0,.int .u32 0,.int .u32 0,.int .u32 0,.int .u32 0,.int .u32 0,.int .u32 0,.int .u32 0,.int .u32 0,.int .u32 0,.int .u32 0,.int .u32 0,.int .u32 0,.int .u32 0,.int .u32 0,.int .u32 0,.int .u32 0,.int .u32 0,.int .u32 0,.int .u32 0] 173 fun W t m13=> ?_
 have N:=n.size
 replace n:=n.ext t
 replace l:=l.x t
 replace o:=o.x t
 refine sT [(5,pV r.size)] fun a i=>cS<|qP [(27,.int .i64 0)] i fun a i=>cB 0<|cL (fun m a h'=>∃k:Nat,m=16 - k∧(Ext h h')∧(h'[h.size]? =some (.cells #[wv s.a,wv s.b,wv s.c,wv s.d,wv s.e,wv s.f,wv s.g,wv s.h] 145))∧(h'[h1.size]? =some (.cells #[.int .u32 0,.int .u32 0,.int .u32 0,.int .u32 0,.int .u32 0,.int .u32 0,.int .u32 0,.int .u32 0] 145))∧(k≤16)∧(h'[r.size]? =some (.cells (wl (first p k)).toArray 173))∧(Fr a 211 [(1,.slice (some pa) 64 pc),(2,.pointer (some ⟨h.size,0,none⟩)),(4,.pointer (some ⟨h1.size,0,none⟩)),(5,.pointer (some ⟨r.size,0,none⟩)),(27,.int .i64 ((k:Nat):Int))])) (16 - 0) ⟨0,rfl,n,l,o,(by omega),m13,i.to⟩ ?_
 clear i a
 clear n
 clear l
 clear o
 clear m13
 rintro m a X ⟨k,rfl,n,l,o,O,m13,i⟩
 refine qP [(28,.bool (decide (((k:Nat):Int)<(16:Int))))] i fun a i=>cS<|cJ 28 i (fun z=> ?_) fun z=> ?_
 ·refine cN<|tK<|cS<|cB 1<|qP [(6,nV k)] i fun a i=>cD [0,0,0,4,14,30,62,126,0,0,512,1536,3840,7936,16128,32512,65534,0,0,262144,786432,1966080,4063232,8257536,16646144,33554430,0,0,134217728,402653184,1006632960,2080374784,4227858432,8589934590,17179869183,34359738367] 5 mixed i<|mP 7 [0,1,2] [nV k,.slice (some pa) 64 pc,nV k] ?_
  refine m1 15 3 (.int .i64 ((4*k:Nat):Int)) (.int .i64 (IntKind.i64.wrap (4*((k:Nat):Int)))) (congrArg (Value.int .i64) (gJ (by omega) (by omega) (by omega)))<|mI 31 4 pa 64 1 (4*k) (4*k)<|mL 63 32 5 (bv (p.getD (4*k) 0)) (Calm.load (T:=5) (p:=(Addr.add pa (4*k))) (by kernel_rfl) (Loads.one (k:=1) (by kernel_rfl) (n.cell (hp (4*k) (by omega)))))<|yC 127 6 (p.getD (4*k) 0)<|yL 255 7 (w8 (p.getD (4*k) 0)) 24<|mP 1023 [8,9] [.slice (some pa) 64 pc,nV k]<|m1 2047 10 (.int .i64 ((4*k:Nat):Int)) (.int .i64 (IntKind.i64.wrap (4*((k:Nat):Int)))) (congrArg (Value.int .i64) (gJ (by omega) (by omega) (by omega))) ?_
  refine mA 4095 11 (4*k) 1<|mI 8191 12 pa 64 1 ((4*k)+1) ((4*k)+1)<|mL 16383 8224 13 (bv (p.getD ((4*k)+1) 0)) (Calm.load (T:=5) (p:=(Addr.add pa ((4*k)+1))) (by kernel_rfl) (Loads.one (k:=1) (by kernel_rfl) (n.cell (hp ((4*k)+1) (by omega)))))<|yC 32767 14 (p.getD ((4*k)+1) 0)<|yL 65535 15 (w8 (p.getD ((4*k)+1) 0)) 16<|yO 131071 16 ((w8 (p.getD (4*k) 0))<<<24) ((w8 (p.getD ((4*k)+1) 0))<<<16)<|mP 524287 [17,18] [.slice (some pa) 64 pc,nV k] ?_
  refine m1 1048575 19 (.int .i64 ((4*k:Nat):Int)) (.int .i64 (IntKind.i64.wrap (4*((k:Nat):Int)))) (congrArg (Value.int .i64) (gJ (by omega) (by omega) (by omega)))<|mA 2097151 20 (4*k) 2<|mI 4194303 21 pa 64 1 ((4*k)+2) ((4*k)+2)<|mL 8388607 4202528 22 (bv (p.getD ((4*k)+2) 0)) (Calm.load (T:=5) (p:=(Addr.add pa ((4*k)+2))) (by kernel_rfl) (Loads.one (k:=1) (by kernel_rfl) (n.cell (hp ((4*k)+2) (by omega)))))<|yC 16777215 23 (p.getD ((4*k)+2) 0)<|yL 33554431 24 (w8 (p.getD ((4*k)+2) 0)) 8<|yO 67108863 25 (((w8 (p.getD (4*k) 0))<<<24)|||((w8 (p.getD ((4*k)+1) 0))<<<16)) ((w8 (p.getD ((4*k)+2) 0))<<<8) ?_
  refine mP 268435455 [26,27] [.slice (some pa) 64 pc,nV k]<|m1 536870911 28 (.int .i64 ((4*k:Nat):Int)) (.int .i64 (IntKind.i64.wrap (4*((k:Nat):Int)))) (congrArg (Value.int .i64) (gJ (by omega) (by omega) (by omega)))<|mA 1073741823 29 (4*k) 3<|mI 2147483647 30 pa 64 1 ((4*k)+3) ((4*k)+3)<|mL 4294967295 2151686176 31 (bv (p.getD ((4*k)+3) 0)) (Calm.load (T:=5) (p:=(Addr.add pa ((4*k)+3))) (by kernel_rfl) (Loads.one (k:=1) (by kernel_rfl) (n.cell (hp ((4*k)+3) (by omega)))))<|yC 8589934591 32 (p.getD ((4*k)+3) 0)<|yO 17179869183 33 ((((w8 (p.getD (4*k) 0))<<<24)|||((w8 (p.getD ((4*k)+1) 0))<<<16))|||((w8 (p.getD ((4*k)+2) 0))<<<8)) (w8 (p.getD ((4*k)+3) 0)) ?_
  refine mJ 34359738367 34 r.size 0 64 1 k k<|mV 68719476735 68719476735 35 k [wv (((((w8 (p.getD (4*k) 0))<<<24)|||((w8 (p.getD ((4*k)+1) 0))<<<16))|||((w8 (p.getD ((4*k)+2) 0))<<<8))|||(w8 (p.getD ((4*k)+3) 0)))] (wl (first p k++[(((((w8 (p.getD (4*k) 0))<<<24)|||((w8 (p.getD ((4*k)+1) 0))<<<16))|||((w8 (p.getD ((4*k)+2) 0))<<<8))|||(w8 (p.getD ((4*k)+3) 0)))])) m13 (fun Y u q=> ?_) (hfit:=(wx (eW p k) (by omega))) (h1:=(tf _)) (e:=(td (eW p k) (by omega)))
  replace n:=n.v u
  replace l:=l.y u
  replace o:=o.y u
  replace m13:=q
  refine mE [] fun a i=>bK<|tK<|rS i<|tA 0 k 1<|sE [(27,nV (k+1))] fun a i=> ?_
  show ∃m',m'<_∧_
  refine⟨_,?_,k+1,rfl,n,l,o,(by omega),m13,i.to⟩
  omega
 ·refine cX 0 (xT (xT (xB ?_)))
  refine tK<|cS<|qP [(7,.int .i64 16)] i fun a i=>cB 2<|cL (fun m a h'=>∃k:Nat,m=48 - k∧(Ext h h')∧(h'[h.size]? =some (.cells #[wv s.a,wv s.b,wv s.c,wv s.d,wv s.e,wv s.f,wv s.g,wv s.h] 145))∧(h'[h1.size]? =some (.cells #[.int .u32 0,.int .u32 0,.int .u32 0,.int .u32 0,.int .u32 0,.int .u32 0,.int .u32 0,.int .u32 0] 145))∧(k≤48)∧(h'[r.size]? =some (.cells (wl (sched p k)).toArray 173))∧(Fr a 211 [(2,.pointer (some ⟨h.size,0,none⟩)),(4,.pointer (some ⟨h1.size,0,none⟩)),(5,.pointer (some ⟨r.size,0,none⟩)),(7,.int .i64 ((16+k:Nat):Int))])) (48 - 0) ⟨0,rfl,n,l,o,(by omega),(by have e:k=16:=(by omega);subst e;exact m13),i.to⟩ ?_
  clear i a
  clear n
  clear l
  clear o
  rintro m a Z ⟨k,rfl,n,l,o,O,m13,i⟩
  refine cS<|qP [(67,.bool (decide (((16+k:Nat):Int)<(64:Int))))] i fun a i=>cJ 67 i (fun A=> ?_) fun A=> ?_
  ·refine cN<|tK<|cS<|cB 3<|cS<|cD [0,1,3,7,0,16,48,112,15,511] 10 mixed i<|mP 1 [0] [nV (16+k)] ?_
   refine mU 3 1 (16+k) 15<|mJ 7 2 r.size 0 64 1 ((16+k) - 15) ((16+k) - 15)<|mL 15 8 3 (wv ((sched p k).getD ((16+k) - 15) 0)) (Calm.load (T:=143) (p:=⟨r.size,(16+k) - 15,none⟩) (by kernel_rfl) (Loads.one (k:=1) (by kernel_rfl) ((an m13).trans (jq (bL p k) (by omega)))))<|mP 31 [4] [nV (16+k)]<|mU 63 5 (16+k) 2<|mJ 127 6 r.size 0 64 1 ((16+k) - 2) ((16+k) - 2)<|mL 255 136 7 (wv ((sched p k).getD ((16+k) - 2) 0)) (Calm.load (T:=143) (p:=⟨r.size,(16+k) - 2,none⟩) (by kernel_rfl) (Loads.one (k:=1) (by kernel_rfl) ((an m13).trans (jq (bL p k) (by omega))))) ?_
   refine mP 1023 [8,9] [wv ((sched p k).getD ((16+k) - 15) 0),wv ((sched p k).getD ((16+k) - 2) 0)]<|mE [(8,wv ((sched p k).getD ((16+k) - 15) 0)),(9,wv ((sched p k).getD ((16+k) - 2) 0))] fun a i=>tK<|qS i<|tC 1 (wv (rr ((sched p k).getD ((16+k) - 15) 0) 7)) (Does.call (f:=119) (args:= #[wv ((sched p k).getD ((16+k) - 15) 0),.int .i64 (-7)]) (by kernel_rfl) (Bk _ ((sched p k).getD ((16+k) - 15) 0)))<|tC 3 (wv (rr ((sched p k).getD ((16+k) - 15) 0) 18)) (Does.call (f:=119) (args:= #[wv ((sched p k).getD ((16+k) - 15) 0),.int .i64 (-18)]) (by kernel_rfl) (y_ _ ((sched p k).getD ((16+k) - 15) 0)))<|xX 4 (rr ((sched p k).getD ((16+k) - 15) 0) 7) (rr ((sched p k).getD ((16+k) - 15) 0) 18) ?_
   refine xR 6 ((sched p k).getD ((16+k) - 15) 0) 3<|xX 7 ((rr ((sched p k).getD ((16+k) - 15) 0) 7)^^^(rr ((sched p k).getD ((16+k) - 15) 0) 18)) (((sched p k).getD ((16+k) - 15) 0)>>>3)<|sT [(10,wv (((rr ((sched p k).getD ((16+k) - 15) 0) 7)^^^(rr ((sched p k).getD ((16+k) - 15) 0) 18))^^^(((sched p k).getD ((16+k) - 15) 0)>>>3)))] fun a i=>qS i<|tC 1 (wv (rr ((sched p k).getD ((16+k) - 2) 0) 17)) (Does.call (f:=119) (args:= #[wv ((sched p k).getD ((16+k) - 2) 0),.int .i64 (-17)]) (by kernel_rfl) (za _ ((sched p k).getD ((16+k) - 2) 0)))<|tC 3 (wv (rr ((sched p k).getD ((16+k) - 2) 0) 19)) (Does.call (f:=119) (args:= #[wv ((sched p k).getD ((16+k) - 2) 0),.int .i64 (-19)]) (by kernel_rfl) (zc _ ((sched p k).getD ((16+k) - 2) 0)))<|xX 4 (rr ((sched p k).getD ((16+k) - 2) 0) 17) (rr ((sched p k).getD ((16+k) - 2) 0) 19) ?_
   refine xR 6 ((sched p k).getD ((16+k) - 2) 0) 10<|xX 7 ((rr ((sched p k).getD ((16+k) - 2) 0) 17)^^^(rr ((sched p k).getD ((16+k) - 2) 0) 19)) (((sched p k).getD ((16+k) - 2) 0)>>>10)<|sT [(11,wv (((rr ((sched p k).getD ((16+k) - 2) 0) 17)^^^(rr ((sched p k).getD ((16+k) - 2) 0) 19))^^^(((sched p k).getD ((16+k) - 2) 0)>>>10)))] fun a i=>cD [0,0,2,6,14,0,62,0,128,384,896,2046,0,8190,16383,32767] 13 mixed i<|mP 3 [0,1] [nV (16+k),nV (16+k)]<|mU 7 2 (16+k) 16<|mJ 15 3 r.size 0 64 1 ((16+k) - 16) ((16+k) - 16) ?_
   refine mL 31 16 4 (wv ((sched p k).getD ((16+k) - 16) 0)) (Calm.load (T:=143) (p:=⟨r.size,(16+k) - 16,none⟩) (by kernel_rfl) (Loads.one (k:=1) (by kernel_rfl) ((an m13).trans (jq (bL p k) (by omega)))))<|mP 63 [5] [wv (((rr ((sched p k).getD ((16+k) - 15) 0) 7)^^^(rr ((sched p k).getD ((16+k) - 15) 0) 18))^^^(((sched p k).getD ((16+k) - 15) 0)>>>3))]<|yA 127 6 ((sched p k).getD ((16+k) - 16) 0) (((rr ((sched p k).getD ((16+k) - 15) 0) 7)^^^(rr ((sched p k).getD ((16+k) - 15) 0) 18))^^^(((sched p k).getD ((16+k) - 15) 0)>>>3))<|mP 255 [7] [nV (16+k)]<|mU 511 8 (16+k) 7<|mJ 1023 9 r.size 0 64 1 ((16+k) - 7) ((16+k) - 7)<|mL 2047 1040 10 (wv ((sched p k).getD ((16+k) - 7) 0)) (Calm.load (T:=143) (p:=⟨r.size,(16+k) - 7,none⟩) (by kernel_rfl) (Loads.one (k:=1) (by kernel_rfl) ((an m13).trans (jq (bL p k) (by omega))))) ?_
   refine yA 4095 11 (((sched p k).getD ((16+k) - 16) 0)+(((rr ((sched p k).getD ((16+k) - 15) 0) 7)^^^(rr ((sched p k).getD ((16+k) - 15) 0) 18))^^^(((sched p k).getD ((16+k) - 15) 0)>>>3))) ((sched p k).getD ((16+k) - 7) 0)<|mP 8191 [12] [wv (((rr ((sched p k).getD ((16+k) - 2) 0) 17)^^^(rr ((sched p k).getD ((16+k) - 2) 0) 19))^^^(((sched p k).getD ((16+k) - 2) 0)>>>10))]<|yA 16383 13 ((((sched p k).getD ((16+k) - 16) 0)+(((rr ((sched p k).getD ((16+k) - 15) 0) 7)^^^(rr ((sched p k).getD ((16+k) - 15) 0) 18))^^^(((sched p k).getD ((16+k) - 15) 0)>>>3)))+((sched p k).getD ((16+k) - 7) 0)) (((rr ((sched p k).getD ((16+k) - 2) 0) 17)^^^(rr ((sched p k).getD ((16+k) - 2) 0) 19))^^^(((sched p k).getD ((16+k) - 2) 0)>>>10))<|mJ 32767 14 r.size 0 64 1 (16+k) (16+k) ?_
   refine mV 65535 65535 15 (16+k) [wv (((((sched p k).getD ((16+k) - 16) 0)+(((rr ((sched p k).getD ((16+k) - 15) 0) 7)^^^(rr ((sched p k).getD ((16+k) - 15) 0) 18))^^^(((sched p k).getD ((16+k) - 15) 0)>>>3)))+((sched p k).getD ((16+k) - 7) 0))+(((rr ((sched p k).getD ((16+k) - 2) 0) 17)^^^(rr ((sched p k).getD ((16+k) - 2) 0) 19))^^^(((sched p k).getD ((16+k) - 2) 0)>>>10)))] (wl (sched p k++[(((((sched p k).getD ((16+k) - 16) 0)+(((rr ((sched p k).getD ((16+k) - 15) 0) 7)^^^(rr ((sched p k).getD ((16+k) - 15) 0) 18))^^^(((sched p k).getD ((16+k) - 15) 0)>>>3)))+((sched p k).getD ((16+k) - 7) 0))+(((rr ((sched p k).getD ((16+k) - 2) 0) 17)^^^(rr ((sched p k).getD ((16+k) - 2) 0) 19))^^^(((sched p k).getD ((16+k) - 2) 0)>>>10)))])) m13 (fun a0 w q=> ?_) (hfit:=(wx (bL p k) (by omega))) (h1:=(tf _)) (e:=(td (bL p k) (by omega)))
   replace n:=n.v w
   replace l:=l.y w
   replace o:=o.y w
   replace m13:=q
   refine mE [] fun a i=>bK<|tK<|rS i<|tA 1 (16+k) 1<|sE [(7,nV ((16+k)+1))] fun a i=> ?_
   show ∃m',m'<_∧_
   refine⟨_,?_,k+1,rfl,n,l,o,(by omega),(by rw[show sched p (k+1)=_ from lP p k];exact m13),i.to⟩
   omega
  ·refine cX 2 (xT (xT (xB ?_)))
   refine tK<|cS<|cD [0,1,0,4,0,16,0,64,0,256,0,1024,0,4096,0,16384,3,65551,196671,459007,984063,2035711,4145151,8388607] 14 mixed i<|mP 1 [0] [pV h.size]<|mO 3 2 1 0 (wv s.a) l<|mP 7 [2] [.pointer (some ⟨h.size,1,none⟩)]<|mO 15 10 3 1 (wv s.b) l ?_
   refine mP 31 [4] [.pointer (some ⟨h.size,2,none⟩)]<|mO 63 42 5 2 (wv s.c) l<|mP 127 [6] [.pointer (some ⟨h.size,3,none⟩)]<|mO 255 170 7 3 (wv s.d) l<|mP 511 [8] [.pointer (some ⟨h.size,4,none⟩)]<|mO 1023 682 9 4 (wv s.e) l<|mP 2047 [10] [.pointer (some ⟨h.size,5,none⟩)] ?_
   refine mO 4095 2730 11 5 (wv s.f) l<|mP 8191 [12] [.pointer (some ⟨h.size,6,none⟩)]<|mO 16383 10922 13 6 (wv s.g) l<|mP 32767 [14] [.pointer (some ⟨h.size,7,none⟩)]<|mO 65535 43690 15 7 (wv s.h) l<|mP 16777215 [16,17,18,19,20,21,22,23] [wv s.a,wv s.b,wv s.c,wv s.d,wv s.e,wv s.f,wv s.g,wv s.h]<|mE [(12,wv s.a),(13,wv s.b),(14,wv s.c),(15,wv s.d),(16,wv s.e),(17,wv s.f),(18,wv s.g),(19,wv s.h)] fun a i=> ?_
   refine tK<|cS<|qP [(125,.int .i64 0)] i fun a i=>cB 4<|cL (fun m a h'=>∃k:Nat,∃R:S8,m=64 - k∧(Ext h h')∧(h'[h.size]? =some (.cells #[wv s.a,wv s.b,wv s.c,wv s.d,wv s.e,wv s.f,wv s.g,wv s.h] 145))∧(h'[h1.size]? =some (.cells #[.int .u32 0,.int .u32 0,.int .u32 0,.int .u32 0,.int .u32 0,.int .u32 0,.int .u32 0,.int .u32 0] 145))∧(k≤64)∧(rounds (sched p 48) s k=R)∧(h'[r.size]? =some (.cells (wl (sched p 48)).toArray 173))∧(Fr a 211 [(2,.pointer (some ⟨h.size,0,none⟩)),(4,.pointer (some ⟨h1.size,0,none⟩)),(5,.pointer (some ⟨r.size,0,none⟩)),(12,wv R.a),(13,wv R.b),(14,wv R.c),(15,wv R.d),(16,wv R.e),(17,wv R.f),(18,wv R.g),(19,wv R.h),(125,.int .i64 ((k:Nat):Int))])) (64 - 0) ⟨0,s,rfl,n,l,o,(by omega),rfl,(by have e:k=48:=(by omega);subst e;exact m13),i.to⟩ ?_
   clear i a
   clear n
   clear l
   clear o
   rintro m a a1 ⟨k,R,rfl,n,l,o,O,P,m13,i⟩
   refine qP [(126,.bool (decide (((k:Nat):Int)<(64:Int))))] i fun a i=>cS<|cJ 126 i (fun B=> ?_) fun B=> ?_
   ·refine cN<|tK<|cS<|cB 5<|qP [(20,nV k)] i fun a i=>qS i<|tC 1 (wv (rr R.e 6)) (Does.call (f:=119) (args:= #[wv R.e,.int .i64 (-6)]) (by kernel_rfl) (Bl _ R.e)) ?_
    refine tC 3 (wv (rr R.e 11)) (Does.call (f:=119) (args:= #[wv R.e,.int .i64 (-11)]) (by kernel_rfl) (zd _ R.e))<|xX 4 (rr R.e 6) (rr R.e 11)<|tC 6 (wv (rr R.e 25)) (Does.call (f:=119) (args:= #[wv R.e,.int .i64 (-25)]) (by kernel_rfl) (ze _ R.e))<|xX 7 ((rr R.e 6)^^^(rr R.e 11)) (rr R.e 25)<|sT [(21,wv (((rr R.e 6)^^^(rr R.e 11))^^^(rr R.e 25)))] fun a i=>cS<|cD [0,0,3,0,0,24,0,64,0,448,1016,2047,0,4096,12288,32767,0,65536,196608,524287,1048575] 19 mixed i ?_
    refine mP 3 [0,1] [wv R.h,wv (((rr R.e 6)^^^(rr R.e 11))^^^(rr R.e 25))]<|yA 7 2 R.h (((rr R.e 6)^^^(rr R.e 11))^^^(rr R.e 25))<|mP 31 [3,4] [wv R.e,wv R.f]<|yN 63 5 R.e R.f <|mP 127 [6] [wv R.e]<|yM 255 7 R.e <|mP 511 [8] [wv R.g] ?_
    refine yN 1023 9 (~~~R.e) R.g <|yX 2047 10 (R.e &&&R.f) ((~~~R.e)&&&R.g)<|yA 4095 11 (R.h +(((rr R.e 6)^^^(rr R.e 11))^^^(rr R.e 25))) ((R.e &&&R.f)^^^((~~~R.e)&&&R.g))<|mP 8191 [12] [nV k]<|mJ 16383 13 0 0 64 1 k k<|mL 32767 16384 14 (wv (fZ.getD k 0)) (Calm.load (T:=143) (p:=⟨0,k,none⟩) (by kernel_rfl) (Loads.one (k:=1) (by kernel_rfl) (n.cell (hK k (by omega)))))<|yA 65535 15 ((R.h +(((rr R.e 6)^^^(rr R.e 11))^^^(rr R.e 25)))+((R.e &&&R.f)^^^((~~~R.e)&&&R.g))) (fZ.getD k 0) ?_
    refine mP 131071 [16] [nV k]<|mJ 262143 17 r.size 0 64 1 k k<|mL 524287 278528 18 (wv ((sched p 48).getD k 0)) (Calm.load (T:=143) (p:=⟨r.size,k,none⟩) (by kernel_rfl) (Loads.one (k:=1) (by kernel_rfl) ((an m13).trans (jq (bL p 48) (by omega)))))<|yA 1048575 19 (((R.h +(((rr R.e 6)^^^(rr R.e 11))^^^(rr R.e 25)))+((R.e &&&R.f)^^^((~~~R.e)&&&R.g)))+(fZ.getD k 0)) ((sched p 48).getD k 0)<|mP 2097151 [20] [wv ((((R.h +(((rr R.e 6)^^^(rr R.e 11))^^^(rr R.e 25)))+((R.e &&&R.f)^^^((~~~R.e)&&&R.g)))+(fZ.getD k 0))+((sched p 48).getD k 0))]<|mE [(22,wv ((((R.h +(((rr R.e 6)^^^(rr R.e 11))^^^(rr R.e 25)))+((R.e &&&R.f)^^^((~~~R.e)&&&R.g)))+(fZ.getD k 0))+((sched p 48).getD k 0)))] fun a i=>tK ?_
    refine qS i<|tC 1 (wv (rr R.a 2)) (Does.call (f:=119) (args:= #[wv R.a,.int .i64 (-2)]) (by kernel_rfl) (Bm _ R.a))<|tC 3 (wv (rr R.a 13)) (Does.call (f:=119) (args:= #[wv R.a,.int .i64 (-13)]) (by kernel_rfl) (zf _ R.a))<|xX 4 (rr R.a 2) (rr R.a 13)<|tC 6 (wv (rr R.a 22)) (Does.call (f:=119) (args:= #[wv R.a,.int .i64 (-22)]) (by kernel_rfl) (zg _ R.a))<|xX 7 ((rr R.a 2)^^^(rr R.a 13)) (rr R.a 22)<|sT [(23,wv (((rr R.a 2)^^^(rr R.a 13))^^^(rr R.a 22)))] fun a i=> ?_
    refine qS i<|xN 3 R.a R.b <|xN 6 R.a R.c <|xX 7 (R.a &&&R.b) (R.a &&&R.c)<|xN 10 R.b R.c <|xX 11 ((R.a &&&R.b)^^^(R.a &&&R.c)) (R.b &&&R.c)<|xA 12 (((rr R.a 2)^^^(rr R.a 13))^^^(rr R.a 22)) (((R.a &&&R.b)^^^(R.a &&&R.c))^^^(R.b &&&R.c)) ?_
    refine sT [(24,wv ((((rr R.a 2)^^^(rr R.a 13))^^^(rr R.a 22))+(((R.a &&&R.b)^^^(R.a &&&R.c))^^^(R.b &&&R.c))))] fun a i=>rS i<|xA 5 R.d ((((R.h +(((rr R.e 6)^^^(rr R.e 11))^^^(rr R.e 25)))+((R.e &&&R.f)^^^((~~~R.e)&&&R.g)))+(fZ.getD k 0))+((sched p 48).getD k 0))<|xA 11 ((((R.h +(((rr R.e 6)^^^(rr R.e 11))^^^(rr R.e 25)))+((R.e &&&R.f)^^^((~~~R.e)&&&R.g)))+(fZ.getD k 0))+((sched p 48).getD k 0)) ((((rr R.a 2)^^^(rr R.a 13))^^^(rr R.a 22))+(((R.a &&&R.b)^^^(R.a &&&R.c))^^^(R.b &&&R.c)))<|sE [(12,wv (((((R.h +(((rr R.e 6)^^^(rr R.e 11))^^^(rr R.e 25)))+((R.e &&&R.f)^^^((~~~R.e)&&&R.g)))+(fZ.getD k 0))+((sched p 48).getD k 0))+((((rr R.a 2)^^^(rr R.a 13))^^^(rr R.a 22))+(((R.a &&&R.b)^^^(R.a &&&R.c))^^^(R.b &&&R.c))))),(13,wv R.a),(14,wv R.b),(15,wv R.c),(16,wv (R.d +((((R.h +(((rr R.e 6)^^^(rr R.e 11))^^^(rr R.e 25)))+((R.e &&&R.f)^^^((~~~R.e)&&&R.g)))+(fZ.getD k 0))+((sched p 48).getD k 0)))),(17,wv R.e),(18,wv R.f),(19,wv R.g)] fun a i=>bK<|tK ?_
    refine rS i<|tA 0 k 1<|sE [(125,nV (k+1))] fun a i=> ?_
    show ∃m',m'<_∧_
    refine⟨_,?_,k+1,(Dq (fZ.getD k 0) ((sched p 48).getD k 0) R),rfl,n,l,o,(by omega),(by rw[←P];rfl),m13,i.to⟩
    omega
   ·refine cX 4 (xT (xT (xB ?_)))
    refine tK<|cS<|qP [(198,.agg #[wv R.a,wv R.b,wv R.c,wv R.d,wv R.e,wv R.f,wv R.g,wv R.h]),(199,.int .i64 0)] i fun a i=>cB 6<|cU 9<|ar.step <|qP [(200,.bool true)] i fun a i=> ?_
    refine cS<|cT 200 i<|cN<|tK<|cS<|cB 7<|qP [(25,.int .i64 0),(26,wv R.a)] i fun a i=> ?_
    refine rS i<|tO 2 0 l<|xA 4 s.a R.a <|tV 6 0 [wv (s.a +R.a)] [wv (s.a +R.a),wv s.b,wv s.c,wv s.d,wv s.e,wv s.f,wv s.g,wv s.h] l fun a2 C q=> ?_
    replace n:=n.v C
    replace o:=o.y C
    replace l:=q
    refine sE [] fun a i=>bK<|tK<|rP [(199,.int .i64 1)] i fun a i=>tK (ar.step ?_)
    refine qP [(200,.bool true)] i fun a i=>cS<|cT 200 i<|cN<|tK<|cS<|cB 7 ?_
    refine qP [(25,.int .i64 1),(26,wv R.b)] i fun a i=>rS i<|tO 2 1 l<|xA 4 s.b R.b <|tV 6 1 [wv (s.b +R.b)] [wv (s.a +R.a),wv (s.b +R.b),wv s.c,wv s.d,wv s.e,wv s.f,wv s.g,wv s.h] l fun a3 D q=> ?_
    replace n:=n.v D
    replace o:=o.y D
    replace l:=q
    refine sE [] fun a i=>bK<|tK<|rP [(199,.int .i64 2)] i fun a i=>tK (ar.step ?_)
    refine qP [(200,.bool true)] i fun a i=>cS<|cT 200 i<|cN<|tK<|cS<|cB 7 ?_
    refine qP [(25,.int .i64 2),(26,wv R.c)] i fun a i=>rS i<|tO 2 2 l<|xA 4 s.c R.c <|tV 6 2 [wv (s.c +R.c)] [wv (s.a +R.a),wv (s.b +R.b),wv (s.c +R.c),wv s.d,wv s.e,wv s.f,wv s.g,wv s.h] l fun a4 E q=> ?_
    replace n:=n.v E
    replace o:=o.y E
    replace l:=q
    refine sE [] fun a i=>bK<|tK<|rP [(199,.int .i64 3)] i fun a i=>tK (ar.step ?_)
    refine qP [(200,.bool true)] i fun a i=>cS<|cT 200 i<|cN<|tK<|cS<|cB 7 ?_
    refine qP [(25,.int .i64 3),(26,wv R.d)] i fun a i=>rS i<|tO 2 3 l<|xA 4 s.d R.d <|tV 6 3 [wv (s.d +R.d)] [wv (s.a +R.a),wv (s.b +R.b),wv (s.c +R.c),wv (s.d +R.d),wv s.e,wv s.f,wv s.g,wv s.h] l fun a5 F q=> ?_
    replace n:=n.v F
    replace o:=o.y F
    replace l:=q
    refine sE [] fun a i=>bK<|tK<|rP [(199,.int .i64 4)] i fun a i=>tK (ar.step ?_)
    refine qP [(200,.bool true)] i fun a i=>cS<|cT 200 i<|cN<|tK<|cS<|cB 7 ?_
    refine qP [(25,.int .i64 4),(26,wv R.e)] i fun a i=>rS i<|tO 2 4 l<|xA 4 s.e R.e <|tV 6 4 [wv (s.e +R.e)] [wv (s.a +R.a),wv (s.b +R.b),wv (s.c +R.c),wv (s.d +R.d),wv (s.e +R.e),wv s.f,wv s.g,wv s.h] l fun a6 G q=> ?_
    replace n:=n.v G
    replace o:=o.y G
    replace l:=q
    refine sE [] fun a i=>bK<|tK<|rP [(199,.int .i64 5)] i fun a i=>tK (ar.step ?_)
    refine qP [(200,.bool true)] i fun a i=>cS<|cT 200 i<|cN<|tK<|cS<|cB 7 ?_
    refine qP [(25,.int .i64 5),(26,wv R.f)] i fun a i=>rS i<|tO 2 5 l<|xA 4 s.f R.f <|tV 6 5 [wv (s.f +R.f)] [wv (s.a +R.a),wv (s.b +R.b),wv (s.c +R.c),wv (s.d +R.d),wv (s.e +R.e),wv (s.f +R.f),wv s.g,wv s.h] l fun a7 H q=> ?_
    replace n:=n.v H
    replace o:=o.y H
    replace l:=q
    refine sE [] fun a i=>bK<|tK<|rP [(199,.int .i64 6)] i fun a i=>tK (ar.step ?_)
    refine qP [(200,.bool true)] i fun a i=>cS<|cT 200 i<|cN<|tK<|cS<|cB 7 ?_
    refine qP [(25,.int .i64 6),(26,wv R.g)] i fun a i=>rS i<|tO 2 6 l<|xA 4 s.g R.g <|tV 6 6 [wv (s.g +R.g)] [wv (s.a +R.a),wv (s.b +R.b),wv (s.c +R.c),wv (s.d +R.d),wv (s.e +R.e),wv (s.f +R.f),wv (s.g +R.g),wv s.h] l fun a8 I q=> ?_
    replace n:=n.v I
    replace o:=o.y I
    replace l:=q
    refine sE [] fun a i=>bK<|tK<|rP [(199,.int .i64 7)] i fun a i=>tK (ar.step ?_)
    refine qP [(200,.bool true)] i fun a i=>cS<|cT 200 i<|cN<|tK<|cS<|cB 7 ?_
    refine qP [(25,.int .i64 7),(26,wv R.h)] i fun a i=>rS i<|tO 2 7 l<|xA 4 s.h R.h <|tV 6 7 [wv (s.h +R.h)] [wv (s.a +R.a),wv (s.b +R.b),wv (s.c +R.c),wv (s.d +R.d),wv (s.e +R.e),wv (s.f +R.f),wv (s.g +R.g),wv (s.h +R.h)] l fun a9 J q=> ?_
    replace n:=n.v J
    replace o:=o.y J
    replace l:=q
    refine sE [] fun a i=>bK<|tK<|rP [(199,.int .i64 8)] i fun a i=>tK (ar.step ?_)
    refine qP [(200,.bool false)] i fun a i=>cS<|cF 200 i<|cX 6 (xT (xT (xB ?_)))
    refine tK<|qS i<|tR 0 l<|bt 1 [wv (s.a +R.a),wv (s.b +R.b),wv (s.c +R.c),wv (s.d +R.d),wv (s.e +R.e),wv (s.f +R.f),wv (s.g +R.g),wv (s.h +R.h)] o fun b0 K q=> ?_
    replace n:=n.v K
    replace l:=l.y K
    replace o:=q
    refine sT [] fun a i=>cR<|rB o i ?_
    have e:k=64:=by omega
    subst e
    subst P
    exact⟨rfl,n⟩
noncomputable def b93:Code:=Tryz.f93.body.getD .skip
set_option maxHeartbeats 4000000 in
theorem wA(h:Heap)(s:S8):Sat Tryz.prog 93 #[.agg #[wv s.a,wv s.b,wv s.c,wv s.d,wv s.e,wv s.f,wv s.g,wv s.h]] h fun v h'=>v=hv (told s)∧Ext h h':=by
 have k:=Ext.refl h
 refine ag Tryz.func93 29 fun a i=>qS i<|tN 0 (pV h.size) #[wv s.a,wv s.b,wv s.c,wv s.d,wv s.e,wv s.f,wv s.g,wv s.h] 145 fun h1 g2 o=> ?_
 replace k:=k.ext g2
 refine tN 1 (pV h1.size) (tk s 0).toArray 39 fun h6 g7 l=> ?_
 have a2:=aj l
 have a0:=k.size
 replace k:=k.ext g7
 replace o:=o.x g7
 refine sT [(1,pV h.size),(2,pV h1.size)] fun a i=>qS i<|tN 0 (pV h6.size) (tk s 0).toArray 39 fun a3 n j=> ?_
 have a1:=k.size
 replace k:=k.ext n
 replace o:=o.x n
 replace l:=l.x n
 refine sT [(3,pV h6.size)] fun a i=>cS<|qS i<|tR 0 o<|sT [(7,.agg #[wv s.a,wv s.b,wv s.c,wv s.d,wv s.e,wv s.f,wv s.g,wv s.h]),(8,.int .i64 0)] fun a i=>cB 0<|cU 9 ?_
 refine ar.step <|qP [(9,.bool true)] i fun a i=>cS<|cT 9 i<|cN<|tK<|cS ?_
 refine cB 1<|qP [(4,.int .i64 0),(5,wv s.a)] i fun a i=>qP [(12,.int .i64 0)] i fun a i=>cB 2<|cU 5<|ar.step <|qP [(13,.bool true)] i fun a i=> ?_
 refine cS<|cT 13 i<|cN<|tK<|cS<|cB 3<|qP [(6,.int .i64 0)] i fun a i=> ?_
 refine rS i<|xR 8 s.a 24<|xD 9 (s.a >>>24)<|tV 11 0 [bv (b32 (s.a >>>24))] (tk s 1) j fun a4 p m=> ?_
 replace k:=k.v p
 replace l:=l.y p
 replace j:=m
 refine sE [] fun a i=>bK<|tK<|rP [(12,.int .i64 1)] i fun a i=>tK (ar.step ?_)
 refine qP [(13,.bool true)] i fun a i=>cS<|cT 13 i<|cN<|tK<|cS<|cB 3 ?_
 refine qP [(6,.int .i64 1)] i fun a i=>rS i<|xR 8 s.a 16<|xD 9 (s.a >>>16)<|tV 11 1 [bv (b32 (s.a >>>16))] (tk s 2) j fun a5 q m=> ?_
 replace k:=k.v q
 replace l:=l.y q
 replace j:=m
 refine sE [] fun a i=>bK<|tK<|rP [(12,.int .i64 2)] i fun a i=>tK (ar.step ?_)
 refine qP [(13,.bool true)] i fun a i=>cS<|cT 13 i<|cN<|tK<|cS<|cB 3 ?_
 refine qP [(6,.int .i64 2)] i fun a i=>rS i<|xR 8 s.a 8<|xD 9 (s.a >>>8)<|tV 11 2 [bv (b32 (s.a >>>8))] (tk s 3) j fun a6 r m=> ?_
 replace k:=k.v r
 replace l:=l.y r
 replace j:=m
 refine sE [] fun a i=>bK<|tK<|rP [(12,.int .i64 3)] i fun a i=>tK (ar.step ?_)
 refine qP [(13,.bool true)] i fun a i=>cS<|cT 13 i<|cN<|tK<|cS<|cB 3 ?_
 refine qP [(6,.int .i64 3)] i fun a i=>rS i<|xR 8 s.a 0<|xD 9 (s.a >>>0)<|tV 11 3 [bv (b32 (s.a >>>0))] (tk s 4) j fun a7 t m=> ?_
 replace k:=k.v t
 replace l:=l.y t
 replace j:=m
 refine sE [] fun a i=>bK<|tK<|rP [(12,.int .i64 4)] i fun a i=>tK (ar.step ?_)
 refine qP [(13,.bool false)] i fun a i=>cS<|cF 13 i<|cX 2 (xT (xT (xB ?_)))
 refine bK<|tK<|rP [(8,.int .i64 1)] i fun a i=>tK (ar.step ?_)
 refine qP [(9,.bool true)] i fun a i=>cS<|cT 9 i<|cN<|tK<|cS<|cB 1 ?_
 refine qP [(4,.int .i64 1),(5,wv s.b)] i fun a i=>qP [(12,.int .i64 0)] i fun a i=>cB 2<|cU 5<|ar.step <|qP [(13,.bool true)] i fun a i=>cS ?_
 refine cT 13 i<|cN<|tK<|cS<|cB 3<|qP [(6,.int .i64 0)] i fun a i=>rS i ?_
 refine xR 8 s.b 24<|xD 9 (s.b >>>24)<|tV 11 4 [bv (b32 (s.b >>>24))] (tk s 5) j fun a8 u m=> ?_
 replace k:=k.v u
 replace l:=l.y u
 replace j:=m
 refine sE [] fun a i=>bK<|tK<|rP [(12,.int .i64 1)] i fun a i=>tK (ar.step ?_)
 refine qP [(13,.bool true)] i fun a i=>cS<|cT 13 i<|cN<|tK<|cS<|cB 3 ?_
 refine qP [(6,.int .i64 1)] i fun a i=>rS i<|xR 8 s.b 16<|xD 9 (s.b >>>16)<|tV 11 5 [bv (b32 (s.b >>>16))] (tk s 6) j fun a9 w m=> ?_
 replace k:=k.v w
 replace l:=l.y w
 replace j:=m
 refine sE [] fun a i=>bK<|tK<|rP [(12,.int .i64 2)] i fun a i=>tK (ar.step ?_)
 refine qP [(13,.bool true)] i fun a i=>cS<|cT 13 i<|cN<|tK<|cS<|cB 3 ?_
 refine qP [(6,.int .i64 2)] i fun a i=>rS i<|xR 8 s.b 8<|xD 9 (s.b >>>8)<|tV 11 6 [bv (b32 (s.b >>>8))] (tk s 7) j fun b0 z m=> ?_
 replace k:=k.v z
 replace l:=l.y z
 replace j:=m
 refine sE [] fun a i=>bK<|tK<|rP [(12,.int .i64 3)] i fun a i=>tK (ar.step ?_)
 refine qP [(13,.bool true)] i fun a i=>cS<|cT 13 i<|cN<|tK<|cS<|cB 3 ?_
 refine qP [(6,.int .i64 3)] i fun a i=>rS i<|xR 8 s.b 0<|xD 9 (s.b >>>0)<|tV 11 7 [bv (b32 (s.b >>>0))] (tk s 8) j fun b1 A m=> ?_
 replace k:=k.v A
 replace l:=l.y A
 replace j:=m
 refine sE [] fun a i=>bK<|tK<|rP [(12,.int .i64 4)] i fun a i=>tK (ar.step ?_)
 refine qP [(13,.bool false)] i fun a i=>cS<|cF 13 i<|cX 2 (xT (xT (xB ?_)))
 refine bK<|tK<|rP [(8,.int .i64 2)] i fun a i=>tK (ar.step ?_)
 refine qP [(9,.bool true)] i fun a i=>cS<|cT 9 i<|cN<|tK<|cS<|cB 1 ?_
 refine qP [(4,.int .i64 2),(5,wv s.c)] i fun a i=>qP [(12,.int .i64 0)] i fun a i=>cB 2<|cU 5<|ar.step <|qP [(13,.bool true)] i fun a i=>cS ?_
 refine cT 13 i<|cN<|tK<|cS<|cB 3<|qP [(6,.int .i64 0)] i fun a i=>rS i ?_
 refine xR 8 s.c 24<|xD 9 (s.c >>>24)<|tV 11 8 [bv (b32 (s.c >>>24))] (tk s 9) j fun b2 B m=> ?_
 replace k:=k.v B
 replace l:=l.y B
 replace j:=m
 refine sE [] fun a i=>bK<|tK<|rP [(12,.int .i64 1)] i fun a i=>tK (ar.step ?_)
 refine qP [(13,.bool true)] i fun a i=>cS<|cT 13 i<|cN<|tK<|cS<|cB 3 ?_
 refine qP [(6,.int .i64 1)] i fun a i=>rS i<|xR 8 s.c 16<|xD 9 (s.c >>>16)<|tV 11 9 [bv (b32 (s.c >>>16))] (tk s 10) j fun b3 C m=> ?_
 replace k:=k.v C
 replace l:=l.y C
 replace j:=m
 refine sE [] fun a i=>bK<|tK<|rP [(12,.int .i64 2)] i fun a i=>tK (ar.step ?_)
 refine qP [(13,.bool true)] i fun a i=>cS<|cT 13 i<|cN<|tK<|cS<|cB 3 ?_
 refine qP [(6,.int .i64 2)] i fun a i=>rS i<|xR 8 s.c 8<|xD 9 (s.c >>>8)<|tV 11 10 [bv (b32 (s.c >>>8))] (tk s 11) j fun b5 D m=> ?_
 replace k:=k.v D
 replace l:=l.y D
 replace j:=m
 refine sE [] fun a i=>bK<|tK<|rP [(12,.int .i64 3)] i fun a i=>tK (ar.step ?_)
 refine qP [(13,.bool true)] i fun a i=>cS<|cT 13 i<|cN<|tK<|cS<|cB 3 ?_
 refine qP [(6,.int .i64 3)] i fun a i=>rS i<|xR 8 s.c 0<|xD 9 (s.c >>>0)<|tV 11 11 [bv (b32 (s.c >>>0))] (tk s 12) j fun b6 E m=> ?_
 replace k:=k.v E
 replace l:=l.y E
 replace j:=m
 refine sE [] fun a i=>bK<|tK<|rP [(12,.int .i64 4)] i fun a i=>tK (ar.step ?_)
 refine qP [(13,.bool false)] i fun a i=>cS<|cF 13 i<|cX 2 (xT (xT (xB ?_)))
 refine bK<|tK<|rP [(8,.int .i64 3)] i fun a i=>tK (ar.step ?_)
 refine qP [(9,.bool true)] i fun a i=>cS<|cT 9 i<|cN<|tK<|cS<|cB 1 ?_
 refine qP [(4,.int .i64 3),(5,wv s.d)] i fun a i=>qP [(12,.int .i64 0)] i fun a i=>cB 2<|cU 5<|ar.step <|qP [(13,.bool true)] i fun a i=>cS ?_
 refine cT 13 i<|cN<|tK<|cS<|cB 3<|qP [(6,.int .i64 0)] i fun a i=>rS i ?_
 refine xR 8 s.d 24<|xD 9 (s.d >>>24)<|tV 11 12 [bv (b32 (s.d >>>24))] (tk s 13) j fun b7 F m=> ?_
 replace k:=k.v F
 replace l:=l.y F
 replace j:=m
 refine sE [] fun a i=>bK<|tK<|rP [(12,.int .i64 1)] i fun a i=>tK (ar.step ?_)
 refine qP [(13,.bool true)] i fun a i=>cS<|cT 13 i<|cN<|tK<|cS<|cB 3 ?_
 refine qP [(6,.int .i64 1)] i fun a i=>rS i<|xR 8 s.d 16<|xD 9 (s.d >>>16)<|tV 11 13 [bv (b32 (s.d >>>16))] (tk s 14) j fun b8 G m=> ?_
 replace k:=k.v G
 replace l:=l.y G
 replace j:=m
 refine sE [] fun a i=>bK<|tK<|rP [(12,.int .i64 2)] i fun a i=>tK (ar.step ?_)
 refine qP [(13,.bool true)] i fun a i=>cS<|cT 13 i<|cN<|tK<|cS<|cB 3 ?_
 refine qP [(6,.int .i64 2)] i fun a i=>rS i<|xR 8 s.d 8<|xD 9 (s.d >>>8)<|tV 11 14 [bv (b32 (s.d >>>8))] (tk s 15) j fun c0 H m=> ?_
 replace k:=k.v H
 replace l:=l.y H
 replace j:=m
 refine sE [] fun a i=>bK<|tK<|rP [(12,.int .i64 3)] i fun a i=>tK (ar.step ?_)
 refine qP [(13,.bool true)] i fun a i=>cS<|cT 13 i<|cN<|tK<|cS<|cB 3 ?_
 refine qP [(6,.int .i64 3)] i fun a i=>rS i<|xR 8 s.d 0<|xD 9 (s.d >>>0)<|tV 11 15 [bv (b32 (s.d >>>0))] (tk s 16) j fun c1 I m=> ?_
 replace k:=k.v I
 replace l:=l.y I
 replace j:=m
 refine sE [] fun a i=>bK<|tK<|rP [(12,.int .i64 4)] i fun a i=>tK (ar.step ?_)
 refine qP [(13,.bool false)] i fun a i=>cS<|cF 13 i<|cX 2 (xT (xT (xB ?_)))
 refine bK<|tK<|rP [(8,.int .i64 4)] i fun a i=>tK (ar.step ?_)
 refine qP [(9,.bool true)] i fun a i=>cS<|cT 9 i<|cN<|tK<|cS<|cB 1 ?_
 refine qP [(4,.int .i64 4),(5,wv s.e)] i fun a i=>qP [(12,.int .i64 0)] i fun a i=>cB 2<|cU 5<|ar.step <|qP [(13,.bool true)] i fun a i=>cS ?_
 refine cT 13 i<|cN<|tK<|cS<|cB 3<|qP [(6,.int .i64 0)] i fun a i=>rS i ?_
 refine xR 8 s.e 24<|xD 9 (s.e >>>24)<|tV 11 16 [bv (b32 (s.e >>>24))] (tk s 17) j fun c2 J m=> ?_
 replace k:=k.v J
 replace l:=l.y J
 replace j:=m
 refine sE [] fun a i=>bK<|tK<|rP [(12,.int .i64 1)] i fun a i=>tK (ar.step ?_)
 refine qP [(13,.bool true)] i fun a i=>cS<|cT 13 i<|cN<|tK<|cS<|cB 3 ?_
 refine qP [(6,.int .i64 1)] i fun a i=>rS i<|xR 8 s.e 16<|xD 9 (s.e >>>16)<|tV 11 17 [bv (b32 (s.e >>>16))] (tk s 18) j fun c3 K m=> ?_
 replace k:=k.v K
 replace l:=l.y K
 replace j:=m
 refine sE [] fun a i=>bK<|tK<|rP [(12,.int .i64 2)] i fun a i=>tK (ar.step ?_)
 refine qP [(13,.bool true)] i fun a i=>cS<|cT 13 i<|cN<|tK<|cS<|cB 3 ?_
 refine qP [(6,.int .i64 2)] i fun a i=>rS i<|xR 8 s.e 8<|xD 9 (s.e >>>8)<|tV 11 18 [bv (b32 (s.e >>>8))] (tk s 19) j fun c4 L m=> ?_
 replace k:=k.v L
 replace l:=l.y L
 replace j:=m
 refine sE [] fun a i=>bK<|tK<|rP [(12,.int .i64 3)] i fun a i=>tK (ar.step ?_)
 refine qP [(13,.bool true)] i fun a i=>cS<|cT 13 i<|cN<|tK<|cS<|cB 3 ?_
 refine qP [(6,.int .i64 3)] i fun a i=>rS i<|xR 8 s.e 0<|xD 9 (s.e >>>0)<|tV 11 19 [bv (b32 (s.e >>>0))] (tk s 20) j fun c5 M m=> ?_
 replace k:=k.v M
 replace l:=l.y M
 replace j:=m
 refine sE [] fun a i=>bK<|tK<|rP [(12,.int .i64 4)] i fun a i=>tK (ar.step ?_)
 refine qP [(13,.bool false)] i fun a i=>cS<|cF 13 i<|cX 2 (xT (xT (xB ?_)))
 refine bK<|tK<|rP [(8,.int .i64 5)] i fun a i=>tK (ar.step ?_)
 refine qP [(9,.bool true)] i fun a i=>cS<|cT 9 i<|cN<|tK<|cS<|cB 1 ?_
 refine qP [(4,.int .i64 5),(5,wv s.f)] i fun a i=>qP [(12,.int .i64 0)] i fun a i=>cB 2<|cU 5<|ar.step <|qP [(13,.bool true)] i fun a i=>cS ?_
 refine cT 13 i<|cN<|tK<|cS<|cB 3<|qP [(6,.int .i64 0)] i fun a i=>rS i ?_
 refine xR 8 s.f 24<|xD 9 (s.f >>>24)<|tV 11 20 [bv (b32 (s.f >>>24))] (tk s 21) j fun c6 N m=> ?_
 replace k:=k.v N
 replace l:=l.y N
 replace j:=m
 refine sE [] fun a i=>bK<|tK<|rP [(12,.int .i64 1)] i fun a i=>tK (ar.step ?_)
 refine qP [(13,.bool true)] i fun a i=>cS<|cT 13 i<|cN<|tK<|cS<|cB 3 ?_
 refine qP [(6,.int .i64 1)] i fun a i=>rS i<|xR 8 s.f 16<|xD 9 (s.f >>>16)<|tV 11 21 [bv (b32 (s.f >>>16))] (tk s 22) j fun c7 O m=> ?_
 replace k:=k.v O
 replace l:=l.y O
 replace j:=m
 refine sE [] fun a i=>bK<|tK<|rP [(12,.int .i64 2)] i fun a i=>tK (ar.step ?_)
 refine qP [(13,.bool true)] i fun a i=>cS<|cT 13 i<|cN<|tK<|cS<|cB 3 ?_
 refine qP [(6,.int .i64 2)] i fun a i=>rS i<|xR 8 s.f 8<|xD 9 (s.f >>>8)<|tV 11 22 [bv (b32 (s.f >>>8))] (tk s 23) j fun c8 P m=> ?_
 replace k:=k.v P
 replace l:=l.y P
 replace j:=m
 refine sE [] fun a i=>bK<|tK<|rP [(12,.int .i64 3)] i fun a i=>tK (ar.step ?_)
 refine qP [(13,.bool true)] i fun a i=>cS<|cT 13 i<|cN<|tK<|cS<|cB 3 ?_
 refine qP [(6,.int .i64 3)] i fun a i=>rS i<|xR 8 s.f 0<|xD 9 (s.f >>>0)<|tV 11 23 [bv (b32 (s.f >>>0))] (tk s 24) j fun c9 Q m=> ?_
 replace k:=k.v Q
 replace l:=l.y Q
 replace j:=m
 refine sE [] fun a i=>bK<|tK<|rP [(12,.int .i64 4)] i fun a i=>tK (ar.step ?_)
 refine qP [(13,.bool false)] i fun a i=>cS<|cF 13 i<|cX 2 (xT (xT (xB ?_)))
 refine bK<|tK<|rP [(8,.int .i64 6)] i fun a i=>tK (ar.step ?_)
 refine qP [(9,.bool true)] i fun a i=>cS<|cT 9 i<|cN<|tK<|cS<|cB 1 ?_
 refine qP [(4,.int .i64 6),(5,wv s.g)] i fun a i=>qP [(12,.int .i64 0)] i fun a i=>cB 2<|cU 5<|ar.step <|qP [(13,.bool true)] i fun a i=>cS ?_
 refine cT 13 i<|cN<|tK<|cS<|cB 3<|qP [(6,.int .i64 0)] i fun a i=>rS i ?_
 refine xR 8 s.g 24<|xD 9 (s.g >>>24)<|tV 11 24 [bv (b32 (s.g >>>24))] (tk s 25) j fun d0 R m=> ?_
 replace k:=k.v R
 replace l:=l.y R
 replace j:=m
 refine sE [] fun a i=>bK<|tK<|rP [(12,.int .i64 1)] i fun a i=>tK (ar.step ?_)
 refine qP [(13,.bool true)] i fun a i=>cS<|cT 13 i<|cN<|tK<|cS<|cB 3 ?_
 refine qP [(6,.int .i64 1)] i fun a i=>rS i<|xR 8 s.g 16<|xD 9 (s.g >>>16)<|tV 11 25 [bv (b32 (s.g >>>16))] (tk s 26) j fun d1 S m=> ?_
 replace k:=k.v S
 replace l:=l.y S
 replace j:=m
 refine sE [] fun a i=>bK<|tK<|rP [(12,.int .i64 2)] i fun a i=>tK (ar.step ?_)
 refine qP [(13,.bool true)] i fun a i=>cS<|cT 13 i<|cN<|tK<|cS<|cB 3 ?_
 refine qP [(6,.int .i64 2)] i fun a i=>rS i<|xR 8 s.g 8<|xD 9 (s.g >>>8)<|tV 11 26 [bv (b32 (s.g >>>8))] (tk s 27) j fun d2 T m=> ?_
 replace k:=k.v T
 replace l:=l.y T
 replace j:=m
 refine sE [] fun a i=>bK<|tK<|rP [(12,.int .i64 3)] i fun a i=>tK (ar.step ?_)
 refine qP [(13,.bool true)] i fun a i=>cS<|cT 13 i<|cN<|tK<|cS<|cB 3 ?_
 refine qP [(6,.int .i64 3)] i fun a i=>rS i<|xR 8 s.g 0<|xD 9 (s.g >>>0)<|tV 11 27 [bv (b32 (s.g >>>0))] (tk s 28) j fun d3 U m=> ?_
 replace k:=k.v U
 replace l:=l.y U
 replace j:=m
 refine sE [] fun a i=>bK<|tK<|rP [(12,.int .i64 4)] i fun a i=>tK (ar.step ?_)
 refine qP [(13,.bool false)] i fun a i=>cS<|cF 13 i<|cX 2 (xT (xT (xB ?_)))
 refine bK<|tK<|rP [(8,.int .i64 7)] i fun a i=>tK (ar.step ?_)
 refine qP [(9,.bool true)] i fun a i=>cS<|cT 9 i<|cN<|tK<|cS<|cB 1 ?_
 refine qP [(4,.int .i64 7),(5,wv s.h)] i fun a i=>qP [(12,.int .i64 0)] i fun a i=>cB 2<|cU 5<|ar.step <|qP [(13,.bool true)] i fun a i=>cS ?_
 refine cT 13 i<|cN<|tK<|cS<|cB 3<|qP [(6,.int .i64 0)] i fun a i=>rS i ?_
 refine xR 8 s.h 24<|xD 9 (s.h >>>24)<|tV 11 28 [bv (b32 (s.h >>>24))] (tk s 29) j fun d4 V m=> ?_
 replace k:=k.v V
 replace l:=l.y V
 replace j:=m
 refine sE [] fun a i=>bK<|tK<|rP [(12,.int .i64 1)] i fun a i=>tK (ar.step ?_)
 refine qP [(13,.bool true)] i fun a i=>cS<|cT 13 i<|cN<|tK<|cS<|cB 3 ?_
 refine qP [(6,.int .i64 1)] i fun a i=>rS i<|xR 8 s.h 16<|xD 9 (s.h >>>16)<|tV 11 29 [bv (b32 (s.h >>>16))] (tk s 30) j fun d5 W m=> ?_
 replace k:=k.v W
 replace l:=l.y W
 replace j:=m
 refine sE [] fun a i=>bK<|tK<|rP [(12,.int .i64 2)] i fun a i=>tK (ar.step ?_)
 refine qP [(13,.bool true)] i fun a i=>cS<|cT 13 i<|cN<|tK<|cS<|cB 3 ?_
 refine qP [(6,.int .i64 2)] i fun a i=>rS i<|xR 8 s.h 8<|xD 9 (s.h >>>8)<|tV 11 30 [bv (b32 (s.h >>>8))] (tk s 31) j fun d6 X m=> ?_
 replace k:=k.v X
 replace l:=l.y X
 replace j:=m
 refine sE [] fun a i=>bK<|tK<|rP [(12,.int .i64 3)] i fun a i=>tK (ar.step ?_)
 refine qP [(13,.bool true)] i fun a i=>cS<|cT 13 i<|cN<|tK<|cS<|cB 3 ?_
 refine qP [(6,.int .i64 3)] i fun a i=>rS i<|xR 8 s.h 0<|xD 9 (s.h >>>0)<|tV 11 31 [bv (b32 (s.h >>>0))] (tk s 32) j fun d7 Y m=> ?_
 replace k:=k.v Y
 replace l:=l.y Y
 replace j:=m
 refine sE [] fun a i=>bK<|tK<|rP [(12,.int .i64 4)] i fun a i=>tK (ar.step ?_)
 refine qP [(13,.bool false)] i fun a i=>cS<|cF 13 i<|cX 2 (xT (xT (xB ?_)))
 refine bK<|tK<|rP [(8,.int .i64 8)] i fun a i=>tK (ar.step ?_)
 refine qP [(9,.bool false)] i fun a i=>cS<|cF 9 i<|cX 0 (xT (xT (xB ?_)))
 refine tK<|qS i<|tR 0 j<|bt 1 (tk s 32) l fun d8 Z m=> ?_
 replace k:=k.v Z
 replace l:=m
 exact sT [] fun a i=>cR<|rB l i<|⟨rfl,k⟩
noncomputable def b91:Code:=Tryz.f91.body.getD .skip
theorem uQ(h:Heap):Sat Tryz.prog 91 #[] h fun v h'=>v= .agg (sv H0).toArray ∧Ext h h':=by
 have b:=Ext.refl h
 refine ag Tryz.func91 2 fun a c=>qS c<|tN 0 (pV h.size) #[.int .u32 0,.int .u32 0,.int .u32 0,.int .u32 0,.int .u32 0,.int .u32 0,.int .u32 0,.int .u32 0] 145 fun j e d=> ?_
 have f:=b.size
 replace b:=b.ext e
 refine sT [(0,pV h.size)] fun a c=>qS c<|bt 1 [.int .u32 1779033703,.int .u32 3144134277,.int .u32 1013904242,.int .u32 2773480762,.int .u32 1359893119,.int .u32 2600822924,.int .u32 528734635,.int .u32 1541459225] d fun k g i=> ?_
 replace b:=b.v g
 replace d:=i
 exact sT [] fun a c=>cR<|rB d c<|⟨by kernel_rfl,b⟩
noncomputable def b52:Code:=Tryz.f52.body.getD .skip
theorem tj(h:Heap):Sat Tryz.prog 52 #[] h fun v h'=>∃b,v= .pointer (some ⟨b,0,none⟩)∧rl h' b none H0 [] 0∧h.size ≤b∧Ext h h':=by
 have i:=Ext.refl h
 refine ag Tryz.func52 4 fun a j=>qP [] j fun a j=>qS j<|tG 0 (uQ _) ?_
 rintro _ k ⟨rfl,g⟩
 replace i:=i.ext g
 clear g
 refine tN 2 (pV k.size) #[wv H0.a,wv H0.b,wv H0.c,wv H0.d,wv H0.e,wv H0.f,wv H0.g,wv H0.h,.slice none 0 0,.int .u64 0] 149 fun o l m=> ?_
 have n:=i.size
 replace i:=i.ext l
 exact sT [(0,pV k.size)] fun a j=>cR<|rT 0 (pV k.size) j<|⟨_,rfl,⟨none,0,rfl,by simp,m,Own.nil _ _ _⟩,by omega,i⟩
noncomputable def b53:Code:=Tryz.f53.body.getD .skip
theorem nA(h:Heap)(b:Nat)(o:Option Nat)(st:S8)(r bs:List UInt8)(n:Nat)(va:Option Addr)(vc:Nat)(hs:rl h b o st r n)(hr:Row h (.slice va bs.length vc) bs.length 1 (bs.map bv))(hvb:bs=[]∨aZ (.slice va bs.length vc)≠some b)(hb0:0<b)(ho0:o≠some 0)(kt:bq h)(h1:r.length +bs.length ≤1099511627776)(h2:n+bs.length ≤1099511627776):Sat Tryz.prog 53 #[.pointer (some ⟨b,0,none⟩),.slice va bs.length vc] h fun _ h'=>∃o',rl h' b o' (run st (r++bs)) (rem (r++bs)) (n+bs.length)∧(o'=o∨∃g,o'=some g∧h.size ≤g)∧Gr (fun k=>k=b∨some k=o) h h':=by
 obtain⟨R,cap,N,hob,q,own⟩:=hs
 have U:h[b]? =_:=q
 have u:=Gr.refl (fun k=>k=b∨some k=o) h
 have Cp:=hob
 rw[N] at hob
 refine ag Tryz.func53 50 fun a y=>qS y<|tO 3 9 q<|t1 6 (.int .u64 ((bs.length :Nat):Int)) (.int .u64 (IntKind.u64.wrap ((bs.length :Nat):Int))) (congrArg (Value.int .u64) (mW (by omega)))<|t1 7 (.int .u64 ((n+bs.length :Nat):Int)) (.int .u64 (IntKind.u64.wrap (((n:Nat):Int)+((bs.length :Nat):Int)))) (congrArg (Value.int .u64) (mX (by omega) (by omega)))<|tV 10 9 [.int .u64 ((n+bs.length :Nat):Int)] [wv st.a,wv st.b,wv st.c,wv st.d,wv st.e,wv st.f,wv st.g,wv st.h,.slice R r.length cap,.int .u64 ((n+bs.length :Nat):Int)] q fun h1 K G=> ?_
 replace u:=u.grew K (by rintro _ ⟨⟩;exact .inl (.inl rfl))
 replace kt:=kt.grew K (by simp;omega)
 replace own:=own.kept K (by rw[ae];right;exact hob)
 replace hr:=hr.kept' K (hvb.imp (fun e=>by rw[e];rfl) .inr)
 replace q:=G
 refine sT [] fun a y=>qS y<|tO 4 8 q<|tF 6 (Does.dp (t:=32) (E:=5) (sz:=1) (db:=1) (n:=r.length) (m:=bs.length) (v:= .slice R r.length cap) (x:= .slice va bs.length vc) (xs:=(r.map bv)) (ys:=(bs.map bv)) (by kernel_rfl) (by kernel_rfl) own hr (aB _) (by unfold maxLen;omega) (by omega)) ?_
 rintro _ h7 ⟨A,B,rfl,p,L,C⟩
 clear own
 rw[ae,←N] at L
 rw[ae,←N] at C
 have sz:=u.1
 replace u:=u.grew L (fun k O=> .inl (.inr O.symm))
 replace kt:=kt.grew L (fun O=>by have:=kt.lt;exact ho0 O.symm)
 replace q:=Grew.blk L q Cp.symm
 have Cq:A.map (·.block)≠some b:=by
  rcases C with e|e
  ·rw[e];exact Cp
  ·rw[e];have:=aj U;simp;omega
 replace C:A.map (·.block)=o∨∃g,A.map (·.block)=some g∧h.size ≤g:=by
  rcases C with e|e
  ·exact .inl e
  ·exact .inr ⟨_,e,sz⟩
 refine tV 9 8 [.slice A (r.length +bs.length) B] [wv st.a,wv st.b,wv st.c,wv st.d,wv st.e,wv st.f,wv st.g,wv st.h,.slice A (r.length +bs.length) B,.int .u64 ((n+bs.length :Nat):Int)] q fun h8 P G=> ?_
 replace u:=u.grew P (by rintro _ ⟨⟩;exact .inl (.inl rfl))
 replace kt:=kt.grew P (by simp;omega)
 replace p:=p.kept P (by rw[ae];right;exact Cq)
 replace q:=G
 refine sT [] fun a y=>cB 0 ?_
 simp only[←List.length_append,←List.map_append] at q p
 refine cL (fun m a h'=>∃i:S8,∃l:List UInt8,∃z:Option Addr,∃j:Nat,m=l.length ∧(Gr (fun k=>k=b∨some k=o) h h')∧(bq h')∧(run i l=run st (r++bs)∧rem l=rem (r++bs))∧(h'[b]? =some (.cells #[wv i.a,wv i.b,wv i.c,wv i.d,wv i.e,wv i.f,wv i.g,wv i.h,.slice z l.length j,.int .u64 ((n+bs.length :Nat):Int)] 149))∧(Own h' (.slice z l.length j) 5 l.length 1 (l.map bv))∧(z.map (·.block)≠some b∧(z.map (·.block)=o∨∃g,z.map (·.block)=some g∧h.size ≤g))∧(Fr a 50 [(0,.pointer (some ⟨b,0,none⟩))])) ((r++bs).length) ⟨st,(r++bs),A,B,rfl,u,kt,⟨rfl,rfl⟩,q,p,⟨Cq,C⟩,y.to⟩ ?_
 clear y a
 clear u
 clear kt
 clear q
 clear p
 rintro m a V ⟨i,l,z,j,rfl,u,kt,M,q,own,ho',y⟩
 refine cS<|qS y<|tO 3 8 q<|sT [(28,.bool (decide ((64:Int)≤((l.length :Nat):Int))))] fun a y=>cJ 28 y (fun J=> ?_) fun J=> ?_
 ·have hl:64≤l.length :=by omega
  obtain⟨F,s,rfl,S⟩:=own.oD (by omega)
  refine cN<|tK<|cB 1<|cS<|cD [0,0,2,6,14,0,32,96,224,480,1022,2047,4095,8191] 3 mixed y<|mP 15 [0,1,2,3] [pV b,pV b,pV b,pV b]<|mQ 31 16 4 0 [wv i.a,wv i.b,wv i.c,wv i.d,wv i.e,wv i.f,wv i.g,wv i.h] q ?_
  refine mP 255 [5,6,7] [pV b,pV b,.pointer (some ⟨b,8,none⟩)]<|mO 511 272 8 8 (.slice (some ⟨F,s,none⟩) l.length j) q<|mF 1023 9 (.slice (some ⟨F,s,none⟩) 64 j) (fun h=>Calm.cn (a:=(some ⟨F,s,none⟩)) (len:=l.length) (cap:=j) (sz:=1) (x:=(some ⟨F,s,none⟩)) 0 64 j 64 j (by kernel_rfl) (.inl ⟨rfl,rfl⟩) (.inr rfl) (.inl ⟨rfl,rfl⟩) (by omega) (by omega) (ny _) (by first|rfl|omega) (by first|rfl|omega) h)<|gC 2047 2046 10 (nz _ i ⟨F,s,none⟩ j (l.take 64) (wz own hl) kt) ?_
  rintro _ W ⟨rfl,g⟩
  replace u:=u.ext g
  replace kt:=kt.ext g
  replace own:=own.ext g
  replace q:=q.x g
  clear g
  refine mP 8191 [11,12] [pV b,pV b]<|mV 16383 16383 13 0 [wv ((piece i (l.take 64)).a),wv ((piece i (l.take 64)).b),wv ((piece i (l.take 64)).c),wv ((piece i (l.take 64)).d),wv ((piece i (l.take 64)).e),wv ((piece i (l.take 64)).f),wv ((piece i (l.take 64)).g),wv ((piece i (l.take 64)).h)] [wv ((piece i (l.take 64)).a),wv ((piece i (l.take 64)).b),wv ((piece i (l.take 64)).c),wv ((piece i (l.take 64)).d),wv ((piece i (l.take 64)).e),wv ((piece i (l.take 64)).f),wv ((piece i (l.take 64)).g),wv ((piece i (l.take 64)).h),.slice (some ⟨F,s,none⟩) l.length j,.int .u64 ((n+bs.length :Nat):Int)] q fun X H G=> ?_
  replace u:=u.grew H (by rintro _ ⟨⟩;exact .inl (.inl rfl))
  replace kt:=kt.grew H (by simp;omega)
  replace own:=own.kept H (by rw[ae];right;exact ho'.1)
  replace q:=G
  refine mE [] fun a y=>tK<|rS y<|tO 4 8 q ?_
  obtain⟨D,w⟩:∃x,x=if j=64 then (some ⟨F,s,none⟩:Option Addr) else (some ⟨F,s,none⟩:Option Addr).map (·.add (64*1)):=⟨_,rfl⟩
  have p:=own.drop 64 hl
  rw[←w] at p
  refine tC 5 (.slice D (l.length - 64) (j - 64)) ((fun h=>Calm.cn (a:=(some ⟨F,s,none⟩)) (len:=l.length) (cap:=j) (sz:=1) (x:=D) 64 l.length j (l.length - 64) (j - 64) (by kernel_rfl) (.inl ⟨rfl,rfl⟩) (.inl ⟨rfl,rfl⟩) (.inr rfl) (by omega) (by omega) w (by first|rfl|omega) (by first|rfl|omega) h) _)<|tV 8 8 [.slice D (l.length - 64) (j - 64)] [wv ((piece i (l.take 64)).a),wv ((piece i (l.take 64)).b),wv ((piece i (l.take 64)).c),wv ((piece i (l.take 64)).d),wv ((piece i (l.take 64)).e),wv ((piece i (l.take 64)).f),wv ((piece i (l.take 64)).g),wv ((piece i (l.take 64)).h),.slice D (l.length - 64) (j - 64),.int .u64 ((n+bs.length :Nat):Int)] q fun Y I G=> ?_
  replace u:=u.grew I (by rintro _ ⟨⟩;exact .inl (.inl rfl))
  replace kt:=kt.grew I (by simp;omega)
  replace p:=p.kept I (by rw[ae,gM w];right;exact ho'.1)
  replace q:=G
  refine sE [] fun a y=> ?_
  have Q:l.length - 64=(l.drop 64).length :=by simp
  rw[Nat.mul_one,←List.map_drop] at p
  rw[Q] at q p
  refine bK ?_
  show ∃m',m'<_∧_
  refine⟨_,?_,(piece i (l.take 64)),(l.drop 64),D,(j - 64),rfl,u,kt,⟨by rw[←M.1,gK hl],by rw[←M.2,gL hl]⟩,q,p,⟨by rw[gM w];exact ho'.1,by rw[gM w];exact ho'.2⟩,y.to⟩
  omega
 ·refine cX 0 (xT (xT (xB ?_)))
  refine n0 y ?_
  have Z:i=run st (r++bs):=by rw[←M.1,run_end (by omega)]
  have T:l=rem (r++bs):=by rw[←M.2,kX (by omega)]
  exact⟨_,⟨z,j,rfl,ho'.1,Z▸T▸q,T▸own⟩,ho'.2,u⟩
noncomputable def b54:Code:=Tryz.f54.body.getD .skip
set_option maxHeartbeats 1000000 in
theorem tm(h:Heap)(b:Nat)(o:Option Nat)(st:S8)(r:List UInt8)(n:Nat)(hs:rl h b o st r n)(kt:bq h)(h1:r.length ≤1099511627776)(h2:n≤1099511627776):Sat Tryz.prog 54 #[.pointer (some ⟨b,0,none⟩)] h fun v h'=>v=hv (fin st r n)∧Ext h h':=by
 obtain⟨ad,cap,ho,m9,D,J⟩:=hs
 have hb:b<h.size :=aj D
 have n1:=kt.lt
 have n2:∀k,o=some k→k<h.size :=fun k hk=>J.lt (by rw[ae,←ho];exact hk)
 have A:=Ext.refl h
 refine ag Tryz.func54 54 fun a p=>qS p<|tN 0 (pV h.size) #[.int .u8 0,.int .u8 0,.int .u8 0,.int .u8 0,.int .u8 0,.int .u8 0,.int .u8 0,.int .u8 0,.int .u8 0,.int .u8 0,.int .u8 0,.int .u8 0,.int .u8 0,.int .u8 0,.int .u8 0,.int .u8 0,.int .u8 0,.int .u8 0,.int .u8 0,.int .u8 0,.int .u8 0,.int .u8 0,.int .u8 0,.int .u8 0,.int .u8 0,.int .u8 0,.int .u8 0,.int .u8 0,.int .u8 0,.int .u8 0,.int .u8 0,.int .u8 0] 39 fun h1 g2 C=> ?_
 have n3:=aj C
 have n4:=A.size
 replace A:=A.ext g2
 replace kt:=kt.ext g2
 replace J:=J.ext g2
 replace D:=D.x g2
 refine sT [(2,pV h.size)] fun a p=>qS p ?_
 have w:=Ext.refl h1
 refine tN 0 (.slice (some ⟨h1.size,0,none⟩) 0 0) #[] 5 fun h6 g7 m8=> ?_
 have k5:=w.size
 replace A:=A.ext g7
 replace kt:=kt.ext g7
 replace J:=J.ext g7
 replace w:=w.ext g7
 replace D:=D.x g7
 replace C:=C.x g7
 refine tO 4 8 D ?_
 have i:Own h6 (.slice (some ⟨h1.size,0,none⟩) 0 0) 5 0 1 (([]:List UInt8).map bv):=Own.empty 1 m8
 have aH:∀k,((some ⟨h1.size,0,none⟩):Option Addr).map (·.block)=some k→h1.size ≤k:=Bf _ (by omega)
 have F:=w.size
 refine tF 5 (Does.dp (t:=32) (E:=5) (sz:=1) (db:=1) (n:=0) (m:=r.length) (v:= .slice (some ⟨h1.size,0,none⟩) 0 0) (x:= .slice ad r.length cap) (xs:=([]:List UInt8).map bv) (ys:=r.map bv) (by kernel_rfl) (by kernel_rfl) i J.row (aB _) (by unfold maxLen;first|omega| (simp only[List.length_append,List.length_cons,List.length_nil,List.length_replicate,bG];omega)) (by first|omega| (simp only[List.length_append,List.length_cons,List.length_nil,List.length_replicate,bG];omega))) ?_
 rintro _ g9 ⟨d3,a0,rfl,s,a1,d4⟩
 rw[ae] at a1 d4
 replace A:=A.grew a1 (fun k hk=>by have:=aH k hk;omega)
 replace kt:=kt.grew a1 (fun e=>by have:=aH _ e.symm;omega)
 replace w:=w.grew a1 (fun k hk=>by have:=aH k hk;omega)
 replace D:=D.y a1 (fun e=>by have:=aH _ e.symm;omega)
 replace C:=C.y a1 (fun e=>by have:=aH _ e.symm;omega)
 replace i:Own g9 (.slice d3 (r).length a0) 5 (r).length 1 (r.map bv):=Own.app s (by first|rfl|simp) (by first| (simp;done)| (simp;omega))
 replace aH:=dS aH d4 (by omega)
 clear s a1 d4 F
 clear J
 refine sT [(3,.slice d3 (0+r.length) a0)] fun a p=> ?_
 have q:(0+r.length :Nat)=r.length :=by first| (simp;done)| (simp;omega)
 rw[q] at p;clear q
 refine qS p<|tN 1 (.slice (some ⟨g9.size,0,none⟩) 1 1) #[.int .u8 128] 5 fun n5 c5 i6=> ?_
 replace A:=A.ext c5
 replace kt:=kt.ext c5
 replace w:=w.ext c5
 replace i:=i.ext c5
 replace D:=D.x c5
 replace C:=C.x c5
 have u:=Row.blk (n:=1) (sz:=1) (l:=[bv (128:UInt8)]) i6 rfl
 clear i6
 have F:=w.size
 refine tF 2 (Does.dp (t:=32) (E:=5) (sz:=1) (db:=1) (n:=r.length) (m:=1) (v:= .slice d3 r.length a0) (x:= .slice (some ⟨g9.size,0,none⟩) 1 1) (xs:=r.map bv) (ys:=([(128:UInt8)]).map bv) (by kernel_rfl) (by kernel_rfl) i u (aB _) (by unfold maxLen;first|omega| (simp only[List.length_append,List.length_cons,List.length_nil,List.length_replicate,bG];omega)) (by first|omega| (simp only[List.length_append,List.length_cons,List.length_nil,List.length_replicate,bG];omega))) ?_
 rintro _ i7 ⟨c2,P,rfl,s,a2,d5⟩
 rw[ae] at a2 d5
 replace A:=A.grew a2 (fun k hk=>by have:=aH k hk;omega)
 replace kt:=kt.grew a2 (fun e=>by have:=aH _ e.symm;omega)
 replace w:=w.grew a2 (fun k hk=>by have:=aH k hk;omega)
 replace D:=D.y a2 (fun e=>by have:=aH _ e.symm;omega)
 replace C:=C.y a2 (fun e=>by have:=aH _ e.symm;omega)
 replace i:Own i7 (.slice c2 ((r++[(128:UInt8)])).length P) 5 ((r++[(128:UInt8)])).length 1 ((r++[(128:UInt8)]).map bv):=Own.app s (by first|rfl|simp) (by first| (simp;done)| (simp;omega))
 replace aH:=dS aH d5 (by omega)
 clear s a2 d5 F
 clear u
 refine sT [(3,.slice c2 (r.length +1) P)] fun a p=> ?_
 have q:(r.length +1:Nat)=(r++[(128:UInt8)]).length :=by first| (simp;done)| (simp;omega)
 rw[q] at p;clear q
 refine cS<|cB 0 ?_
 have hz:(r++[(128:UInt8)]).length =r.length +1:=by simp
 have n6:bG (r.length +1)=(120 - (r.length +1)%64)%64:=rfl
 have j8:(r++[(128:UInt8)]).length =(r++[128]++List.replicate 0 (0:UInt8)).length :=by simp
 rw[j8] at p
 have d6:Own i7 (.slice c2 (r++[128]++List.replicate 0 (0:UInt8)).length P) 5 (r++[128]++List.replicate 0 (0:UInt8)).length 1 ((r++[128]++List.replicate 0 (0:UInt8)).map bv):=by simpa using i
 refine cL (fun m a h'=>∃j:Nat,∃I:Option Addr,∃B:Nat,m=bG (r.length +1) - j∧(Ext h h')∧(Ext h1 h')∧(bq h')∧(h'[b]? =some (.cells #[wv st.a,wv st.b,wv st.c,wv st.d,wv st.e,wv st.f,wv st.g,wv st.h,.slice ad r.length cap,.int .u64 ((n:Nat):Int)] 149))∧(h'[h.size]? =some (.cells #[.int .u8 0,.int .u8 0,.int .u8 0,.int .u8 0,.int .u8 0,.int .u8 0,.int .u8 0,.int .u8 0,.int .u8 0,.int .u8 0,.int .u8 0,.int .u8 0,.int .u8 0,.int .u8 0,.int .u8 0,.int .u8 0,.int .u8 0,.int .u8 0,.int .u8 0,.int .u8 0,.int .u8 0,.int .u8 0,.int .u8 0,.int .u8 0,.int .u8 0,.int .u8 0,.int .u8 0,.int .u8 0,.int .u8 0,.int .u8 0,.int .u8 0,.int .u8 0] 39))∧(j≤bG (r.length +1))∧(Own h' (.slice I (r++[128]++List.replicate j 0).length B) 5 (r++[128]++List.replicate j 0).length 1 ((r++[128]++List.replicate j 0).map bv))∧(∀k,I.map (·.block)=some k→h1.size ≤k)∧(Fr a 54 [(0,.pointer (some ⟨b,0,none⟩)),(2,.pointer (some ⟨h.size,0,none⟩)),(3,.slice I ((r++[128]++List.replicate j 0).length) B)])) (bG (r.length +1) - 0) ⟨0,c2,P,rfl,A,w,kt,D,C,(by omega),d6,aH,p.to⟩ ?_
 clear p a
 clear A
 clear w
 clear kt
 clear D
 clear C
 clear d6
 clear aH
 rintro m a f4 ⟨j,I,B,rfl,A,w,kt,D,C,hj,i,aH,p⟩
 have j9:(r++[128]++List.replicate j 0).length =r.length +1+j:=by simp;omega
 refine cS<|qS p<|t1 2 (.int .i64 ((((r++[128]++List.replicate j 0).length)%64:Nat):Int)) (.int .i64 (Int.tmod (((r++[128]++List.replicate j 0).length :Nat):Int) 64)) (congrArg (Value.int .i64) (fj ((r++[128]++List.replicate j 0).length) 64))<|sT [(18,.bool (!decide (((((r++[128]++List.replicate j 0).length)%64:Nat):Int)=(56:Int))))] fun a p=>cI 18 p (fun i8=> ?_) fun i8=> ?_
 ·refine cN<|tK<|cB 1<|rS p<|tN 1 (.slice (some ⟨f4.size,0,none⟩) 1 1) #[.int .u8 0] 5 fun n7 c6 i9=> ?_
  replace A:=A.ext c6
  replace w:=w.ext c6
  replace kt:=kt.ext c6
  replace i:=i.ext c6
  replace D:=D.x c6
  replace C:=C.x c6
  have u:=Row.blk (n:=1) (sz:=1) (l:=[bv (0:UInt8)]) i9 rfl
  clear i9
  have F:=w.size
  refine tF 2 (Does.dp (t:=32) (E:=5) (sz:=1) (db:=1) (n:=(r++[128]++List.replicate j 0).length) (m:=1) (v:= .slice I ((r++[128]++List.replicate j 0).length) B) (x:= .slice (some ⟨f4.size,0,none⟩) 1 1) (xs:=(r++[128]++List.replicate j 0).map bv) (ys:=([(0:UInt8)]).map bv) (by kernel_rfl) (by kernel_rfl) i u (aB _) (by unfold maxLen;first|omega| (simp only[List.length_append,List.length_cons,List.length_nil,List.length_replicate,bG];omega)) (by first|omega| (simp only[List.length_append,List.length_cons,List.length_nil,List.length_replicate,bG];omega))) ?_
  rintro _ k0 ⟨d7,a3,rfl,s,a4,d8⟩
  rw[ae] at a4 d8
  replace A:=A.grew a4 (fun k hk=>by have:=aH k hk;omega)
  replace w:=w.grew a4 (fun k hk=>by have:=aH k hk;omega)
  replace kt:=kt.grew a4 (fun e=>by have:=aH _ e.symm;omega)
  replace D:=D.y a4 (fun e=>by have:=aH _ e.symm;omega)
  replace C:=C.y a4 (fun e=>by have:=aH _ e.symm;omega)
  replace i:Own k0 (.slice d7 (((r++[128]++List.replicate j 0)++[(0:UInt8)])).length a3) 5 (((r++[128]++List.replicate j 0)++[(0:UInt8)])).length 1 (((r++[128]++List.replicate j 0)++[(0:UInt8)]).map bv):=Own.app s (by first|rfl|simp) (by first| (simp;done)| (simp;omega))
  replace aH:=dS aH d8 (by omega)
  clear s a4 d8 F
  clear u
  refine sE [(3,.slice d7 (((r++[128]++List.replicate j 0).length)+1) a3)] fun a p=> ?_
  have q:(((r++[128]++List.replicate j 0).length)+1:Nat)=((r++[128]++List.replicate j 0)++[(0:UInt8)]).length :=by first| (simp;done)| (simp;omega)
  rw[q] at p;clear q
  refine bK ?_
  have q:((r++[128]++List.replicate j 0)++[(0:UInt8)]).length =(r++[128]++List.replicate (j+1) (0:UInt8)).length :=by simp[List.replicate_succ']
  rw[q] at p;clear q
  show ∃m',m'<_∧_
  refine⟨_,?_,(j+1),d7,a3,rfl,A,w,kt,D,C,(by omega),(by simpa[List.replicate_succ'] using i),aH,p.to⟩
  omega
 ·refine cX 0 (xT (xT (xB ?_)))
  refine tK<|cS<|qP [(22,.int .i64 0)] p fun a p=>cB 2 ?_
  have ej:j=bG (r.length +1):=by omega
  subst ej
  obtain⟨T0,j0⟩:∃T:List UInt8,(r++[128]++List.replicate (bG (r.length +1)) 0)=T:=⟨_,rfl⟩
  rw[j0] at i p j9
  refine cU 9<|ar.step <|qP [(23,.bool true)] p fun a p=>cS<|cT 23 p<|cN<|tK ?_
  refine cS<|cB 3<|qP [(4,.int .i64 0)] p fun a p=>rS p<|tO 4 9 D<|t1 5 (.int .u64 ((8*n:Nat):Int)) (.int .u64 (IntKind.u64.wrap (8*((n:Nat):Int)))) (congrArg (Value.int .u64) (mX (by omega) (by omega)))<|t1 9 (.int .u64 (((8*n)/2^56:Nat):Int)) (.int .u64 (Int.fdiv ((8*n:Nat):Int) (2^56))) (congrArg (Value.int .u64) (bM (8*n) 56)) ?_
  refine t1 10 (bv (UInt8.ofNat ((8*n)/2^56))) (.int .u8 (IntKind.u8.wrap (((8*n)/2^56:Nat):Int))) (bn _)<|tN 11 (.slice (some ⟨f4.size,0,none⟩) 1 1) #[bv (UInt8.ofNat ((8*n)/2^56))] 5 fun n8 c7 j1=> ?_
  replace A:=A.ext c7
  replace w:=w.ext c7
  replace kt:=kt.ext c7
  replace i:=i.ext c7
  replace D:=D.x c7
  replace C:=C.x c7
  have u:=Row.blk (n:=1) (sz:=1) (l:=[bv (UInt8.ofNat ((8*n)/2^56))]) j1 rfl
  clear j1
  have F:=w.size
  refine tF 12 (Does.dp (t:=32) (E:=5) (sz:=1) (db:=1) (n:=T0.length) (m:=1) (v:= .slice I T0.length B) (x:= .slice (some ⟨f4.size,0,none⟩) 1 1) (xs:=T0.map bv) (ys:=([UInt8.ofNat ((8*n)/2^56)]).map bv) (by kernel_rfl) (by kernel_rfl) i u (aB _) (by unfold maxLen;first|omega| (simp only[List.length_append,List.length_cons,List.length_nil,List.length_replicate,bG];omega)) (by first|omega| (simp only[List.length_append,List.length_cons,List.length_nil,List.length_replicate,bG];omega))) ?_
  rintro _ i0 ⟨d9,a5,rfl,s,a6,e2⟩
  rw[ae] at a6 e2
  replace A:=A.grew a6 (fun k hk=>by have:=aH k hk;omega)
  replace w:=w.grew a6 (fun k hk=>by have:=aH k hk;omega)
  replace kt:=kt.grew a6 (fun e=>by have:=aH _ e.symm;omega)
  replace D:=D.y a6 (fun e=>by have:=aH _ e.symm;omega)
  replace C:=C.y a6 (fun e=>by have:=aH _ e.symm;omega)
  replace i:Own i0 (.slice d9 ((T0++[UInt8.ofNat ((8*n)/2^56)])).length a5) 5 ((T0++[UInt8.ofNat ((8*n)/2^56)])).length 1 ((T0++[UInt8.ofNat ((8*n)/2^56)]).map bv):=Own.app s (by first|rfl|simp) (by first| (simp;done)| (simp;omega))
  replace aH:=dS aH e2 (by omega)
  clear s a6 e2 F
  clear u
  obtain⟨T1,f5⟩:∃T:List UInt8,(T0++[UInt8.ofNat ((8*n)/2^56)])=T:=⟨_,rfl⟩
  rw[f5] at i
  have k6:T1.length =T0.length +1:=by rw[←f5];simp
  refine sE [(3,.slice d9 (T0.length +1) a5)] fun a p=> ?_
  have q:(T0.length +1:Nat)=T1.length :=by first| (rw[←f5];simp;done)| (simp;done)| (simp;omega)
  rw[q] at p;clear q
  refine bK<|tK<|rP [(22,.int .i64 1)] p fun a p=>tK (ar.step ?_)
  refine qP [(23,.bool true)] p fun a p=>cS<|cT 23 p<|cN<|tK<|cS<|cB 3 ?_
  refine qP [(4,.int .i64 1)] p fun a p=>rS p<|tO 4 9 D<|t1 5 (.int .u64 ((8*n:Nat):Int)) (.int .u64 (IntKind.u64.wrap (8*((n:Nat):Int)))) (congrArg (Value.int .u64) (mX (by omega) (by omega)))<|t1 9 (.int .u64 (((8*n)/2^48:Nat):Int)) (.int .u64 (Int.fdiv ((8*n:Nat):Int) (2^48))) (congrArg (Value.int .u64) (bM (8*n) 48))<|t1 10 (bv (UInt8.ofNat ((8*n)/2^48))) (.int .u8 (IntKind.u8.wrap (((8*n)/2^48:Nat):Int))) (bn _)<|tN 11 (.slice (some ⟨i0.size,0,none⟩) 1 1) #[bv (UInt8.ofNat ((8*n)/2^48))] 5 fun n9 c8 j2=> ?_
  replace A:=A.ext c8
  replace w:=w.ext c8
  replace kt:=kt.ext c8
  replace i:=i.ext c8
  replace D:=D.x c8
  replace C:=C.x c8
  have u:=Row.blk (n:=1) (sz:=1) (l:=[bv (UInt8.ofNat ((8*n)/2^48))]) j2 rfl
  clear j2
  have F:=w.size
  refine tF 12 (Does.dp (t:=32) (E:=5) (sz:=1) (db:=1) (n:=T1.length) (m:=1) (v:= .slice d9 T1.length a5) (x:= .slice (some ⟨i0.size,0,none⟩) 1 1) (xs:=T1.map bv) (ys:=([UInt8.ofNat ((8*n)/2^48)]).map bv) (by kernel_rfl) (by kernel_rfl) i u (aB _) (by unfold maxLen;first|omega| (simp only[List.length_append,List.length_cons,List.length_nil,List.length_replicate,bG];omega)) (by first|omega| (simp only[List.length_append,List.length_cons,List.length_nil,List.length_replicate,bG];omega))) ?_
  rintro _ i1 ⟨e3,a7,rfl,s,a8,e4⟩
  rw[ae] at a8 e4
  replace A:=A.grew a8 (fun k hk=>by have:=aH k hk;omega)
  replace w:=w.grew a8 (fun k hk=>by have:=aH k hk;omega)
  replace kt:=kt.grew a8 (fun e=>by have:=aH _ e.symm;omega)
  replace D:=D.y a8 (fun e=>by have:=aH _ e.symm;omega)
  replace C:=C.y a8 (fun e=>by have:=aH _ e.symm;omega)
  replace i:Own i1 (.slice e3 ((T1++[UInt8.ofNat ((8*n)/2^48)])).length a7) 5 ((T1++[UInt8.ofNat ((8*n)/2^48)])).length 1 ((T1++[UInt8.ofNat ((8*n)/2^48)]).map bv):=Own.app s (by first|rfl|simp) (by first| (simp;done)| (simp;omega))
  replace aH:=dS aH e4 (by omega)
  clear s a8 e4 F
  clear u
  obtain⟨T2,f6⟩:∃T:List UInt8,(T1++[UInt8.ofNat ((8*n)/2^48)])=T:=⟨_,rfl⟩
  rw[f6] at i
  have k7:T2.length =T1.length +1:=by rw[←f6];simp
  refine sE [(3,.slice e3 (T1.length +1) a7)] fun a p=> ?_
  have q:(T1.length +1:Nat)=T2.length :=by first| (rw[←f6];simp;done)| (simp;done)| (simp;omega)
  rw[q] at p;clear q
  refine bK<|tK<|rP [(22,.int .i64 2)] p fun a p=>tK (ar.step ?_)
  refine qP [(23,.bool true)] p fun a p=>cS<|cT 23 p<|cN<|tK<|cS<|cB 3 ?_
  refine qP [(4,.int .i64 2)] p fun a p=>rS p<|tO 4 9 D<|t1 5 (.int .u64 ((8*n:Nat):Int)) (.int .u64 (IntKind.u64.wrap (8*((n:Nat):Int)))) (congrArg (Value.int .u64) (mX (by omega) (by omega)))<|t1 9 (.int .u64 (((8*n)/2^40:Nat):Int)) (.int .u64 (Int.fdiv ((8*n:Nat):Int) (2^40))) (congrArg (Value.int .u64) (bM (8*n) 40))<|t1 10 (bv (UInt8.ofNat ((8*n)/2^40))) (.int .u8 (IntKind.u8.wrap (((8*n)/2^40:Nat):Int))) (bn _)<|tN 11 (.slice (some ⟨i1.size,0,none⟩) 1 1) #[bv (UInt8.ofNat ((8*n)/2^40))] 5 fun o0 c9 j3=> ?_
  replace A:=A.ext c9
  replace w:=w.ext c9
  replace kt:=kt.ext c9
  replace i:=i.ext c9
  replace D:=D.x c9
  replace C:=C.x c9
  have u:=Row.blk (n:=1) (sz:=1) (l:=[bv (UInt8.ofNat ((8*n)/2^40))]) j3 rfl
  clear j3
  have F:=w.size
  refine tF 12 (Does.dp (t:=32) (E:=5) (sz:=1) (db:=1) (n:=T2.length) (m:=1) (v:= .slice e3 T2.length a7) (x:= .slice (some ⟨i1.size,0,none⟩) 1 1) (xs:=T2.map bv) (ys:=([UInt8.ofNat ((8*n)/2^40)]).map bv) (by kernel_rfl) (by kernel_rfl) i u (aB _) (by unfold maxLen;first|omega| (simp only[List.length_append,List.length_cons,List.length_nil,List.length_replicate,bG];omega)) (by first|omega| (simp only[List.length_append,List.length_cons,List.length_nil,List.length_replicate,bG];omega))) ?_
  rintro _ i2 ⟨e5,a9,rfl,s,b0,e6⟩
  rw[ae] at b0 e6
  replace A:=A.grew b0 (fun k hk=>by have:=aH k hk;omega)
  replace w:=w.grew b0 (fun k hk=>by have:=aH k hk;omega)
  replace kt:=kt.grew b0 (fun e=>by have:=aH _ e.symm;omega)
  replace D:=D.y b0 (fun e=>by have:=aH _ e.symm;omega)
  replace C:=C.y b0 (fun e=>by have:=aH _ e.symm;omega)
  replace i:Own i2 (.slice e5 ((T2++[UInt8.ofNat ((8*n)/2^40)])).length a9) 5 ((T2++[UInt8.ofNat ((8*n)/2^40)])).length 1 ((T2++[UInt8.ofNat ((8*n)/2^40)]).map bv):=Own.app s (by first|rfl|simp) (by first| (simp;done)| (simp;omega))
  replace aH:=dS aH e6 (by omega)
  clear s b0 e6 F
  clear u
  obtain⟨T3,f7⟩:∃T:List UInt8,(T2++[UInt8.ofNat ((8*n)/2^40)])=T:=⟨_,rfl⟩
  rw[f7] at i
  have k8:T3.length =T2.length +1:=by rw[←f7];simp
  refine sE [(3,.slice e5 (T2.length +1) a9)] fun a p=> ?_
  have q:(T2.length +1:Nat)=T3.length :=by first| (rw[←f7];simp;done)| (simp;done)| (simp;omega)
  rw[q] at p;clear q
  refine bK<|tK<|rP [(22,.int .i64 3)] p fun a p=>tK (ar.step ?_)
  refine qP [(23,.bool true)] p fun a p=>cS<|cT 23 p<|cN<|tK<|cS<|cB 3 ?_
  refine qP [(4,.int .i64 3)] p fun a p=>rS p<|tO 4 9 D<|t1 5 (.int .u64 ((8*n:Nat):Int)) (.int .u64 (IntKind.u64.wrap (8*((n:Nat):Int)))) (congrArg (Value.int .u64) (mX (by omega) (by omega)))<|t1 9 (.int .u64 (((8*n)/2^32:Nat):Int)) (.int .u64 (Int.fdiv ((8*n:Nat):Int) (2^32))) (congrArg (Value.int .u64) (bM (8*n) 32))<|t1 10 (bv (UInt8.ofNat ((8*n)/2^32))) (.int .u8 (IntKind.u8.wrap (((8*n)/2^32:Nat):Int))) (bn _)<|tN 11 (.slice (some ⟨i2.size,0,none⟩) 1 1) #[bv (UInt8.ofNat ((8*n)/2^32))] 5 fun o1 d0 j4=> ?_
  replace A:=A.ext d0
  replace w:=w.ext d0
  replace kt:=kt.ext d0
  replace i:=i.ext d0
  replace D:=D.x d0
  replace C:=C.x d0
  have u:=Row.blk (n:=1) (sz:=1) (l:=[bv (UInt8.ofNat ((8*n)/2^32))]) j4 rfl
  clear j4
  have F:=w.size
  refine tF 12 (Does.dp (t:=32) (E:=5) (sz:=1) (db:=1) (n:=T3.length) (m:=1) (v:= .slice e5 T3.length a9) (x:= .slice (some ⟨i2.size,0,none⟩) 1 1) (xs:=T3.map bv) (ys:=([UInt8.ofNat ((8*n)/2^32)]).map bv) (by kernel_rfl) (by kernel_rfl) i u (aB _) (by unfold maxLen;first|omega| (simp only[List.length_append,List.length_cons,List.length_nil,List.length_replicate,bG];omega)) (by first|omega| (simp only[List.length_append,List.length_cons,List.length_nil,List.length_replicate,bG];omega))) ?_
  rintro _ i3 ⟨e7,b1,rfl,s,b2,e8⟩
  rw[ae] at b2 e8
  replace A:=A.grew b2 (fun k hk=>by have:=aH k hk;omega)
  replace w:=w.grew b2 (fun k hk=>by have:=aH k hk;omega)
  replace kt:=kt.grew b2 (fun e=>by have:=aH _ e.symm;omega)
  replace D:=D.y b2 (fun e=>by have:=aH _ e.symm;omega)
  replace C:=C.y b2 (fun e=>by have:=aH _ e.symm;omega)
  replace i:Own i3 (.slice e7 ((T3++[UInt8.ofNat ((8*n)/2^32)])).length b1) 5 ((T3++[UInt8.ofNat ((8*n)/2^32)])).length 1 ((T3++[UInt8.ofNat ((8*n)/2^32)]).map bv):=Own.app s (by first|rfl|simp) (by first| (simp;done)| (simp;omega))
  replace aH:=dS aH e8 (by omega)
  clear s b2 e8 F
  clear u
  obtain⟨T4,f8⟩:∃T:List UInt8,(T3++[UInt8.ofNat ((8*n)/2^32)])=T:=⟨_,rfl⟩
  rw[f8] at i
  have k9:T4.length =T3.length +1:=by rw[←f8];simp
  refine sE [(3,.slice e7 (T3.length +1) b1)] fun a p=> ?_
  have q:(T3.length +1:Nat)=T4.length :=by first| (rw[←f8];simp;done)| (simp;done)| (simp;omega)
  rw[q] at p;clear q
  refine bK<|tK<|rP [(22,.int .i64 4)] p fun a p=>tK (ar.step ?_)
  refine qP [(23,.bool true)] p fun a p=>cS<|cT 23 p<|cN<|tK<|cS<|cB 3 ?_
  refine qP [(4,.int .i64 4)] p fun a p=>rS p<|tO 4 9 D<|t1 5 (.int .u64 ((8*n:Nat):Int)) (.int .u64 (IntKind.u64.wrap (8*((n:Nat):Int)))) (congrArg (Value.int .u64) (mX (by omega) (by omega)))<|t1 9 (.int .u64 (((8*n)/2^24:Nat):Int)) (.int .u64 (Int.fdiv ((8*n:Nat):Int) (2^24))) (congrArg (Value.int .u64) (bM (8*n) 24))<|t1 10 (bv (UInt8.ofNat ((8*n)/2^24))) (.int .u8 (IntKind.u8.wrap (((8*n)/2^24:Nat):Int))) (bn _)<|tN 11 (.slice (some ⟨i3.size,0,none⟩) 1 1) #[bv (UInt8.ofNat ((8*n)/2^24))] 5 fun o2 d1 j5=> ?_
  replace A:=A.ext d1
  replace w:=w.ext d1
  replace kt:=kt.ext d1
  replace i:=i.ext d1
  replace D:=D.x d1
  replace C:=C.x d1
  have u:=Row.blk (n:=1) (sz:=1) (l:=[bv (UInt8.ofNat ((8*n)/2^24))]) j5 rfl
  clear j5
  have F:=w.size
  refine tF 12 (Does.dp (t:=32) (E:=5) (sz:=1) (db:=1) (n:=T4.length) (m:=1) (v:= .slice e7 T4.length b1) (x:= .slice (some ⟨i3.size,0,none⟩) 1 1) (xs:=T4.map bv) (ys:=([UInt8.ofNat ((8*n)/2^24)]).map bv) (by kernel_rfl) (by kernel_rfl) i u (aB _) (by unfold maxLen;first|omega| (simp only[List.length_append,List.length_cons,List.length_nil,List.length_replicate,bG];omega)) (by first|omega| (simp only[List.length_append,List.length_cons,List.length_nil,List.length_replicate,bG];omega))) ?_
  rintro _ i4 ⟨e9,b3,rfl,s,b5,f0⟩
  rw[ae] at b5 f0
  replace A:=A.grew b5 (fun k hk=>by have:=aH k hk;omega)
  replace w:=w.grew b5 (fun k hk=>by have:=aH k hk;omega)
  replace kt:=kt.grew b5 (fun e=>by have:=aH _ e.symm;omega)
  replace D:=D.y b5 (fun e=>by have:=aH _ e.symm;omega)
  replace C:=C.y b5 (fun e=>by have:=aH _ e.symm;omega)
  replace i:Own i4 (.slice e9 ((T4++[UInt8.ofNat ((8*n)/2^24)])).length b3) 5 ((T4++[UInt8.ofNat ((8*n)/2^24)])).length 1 ((T4++[UInt8.ofNat ((8*n)/2^24)]).map bv):=Own.app s (by first|rfl|simp) (by first| (simp;done)| (simp;omega))
  replace aH:=dS aH f0 (by omega)
  clear s b5 f0 F
  clear u
  obtain⟨T5,f9⟩:∃T:List UInt8,(T4++[UInt8.ofNat ((8*n)/2^24)])=T:=⟨_,rfl⟩
  rw[f9] at i
  have l0:T5.length =T4.length +1:=by rw[←f9];simp
  refine sE [(3,.slice e9 (T4.length +1) b3)] fun a p=> ?_
  have q:(T4.length +1:Nat)=T5.length :=by first| (rw[←f9];simp;done)| (simp;done)| (simp;omega)
  rw[q] at p;clear q
  refine bK<|tK<|rP [(22,.int .i64 5)] p fun a p=>tK (ar.step ?_)
  refine qP [(23,.bool true)] p fun a p=>cS<|cT 23 p<|cN<|tK<|cS<|cB 3 ?_
  refine qP [(4,.int .i64 5)] p fun a p=>rS p<|tO 4 9 D<|t1 5 (.int .u64 ((8*n:Nat):Int)) (.int .u64 (IntKind.u64.wrap (8*((n:Nat):Int)))) (congrArg (Value.int .u64) (mX (by omega) (by omega)))<|t1 9 (.int .u64 (((8*n)/2^16:Nat):Int)) (.int .u64 (Int.fdiv ((8*n:Nat):Int) (2^16))) (congrArg (Value.int .u64) (bM (8*n) 16))<|t1 10 (bv (UInt8.ofNat ((8*n)/2^16))) (.int .u8 (IntKind.u8.wrap (((8*n)/2^16:Nat):Int))) (bn _)<|tN 11 (.slice (some ⟨i4.size,0,none⟩) 1 1) #[bv (UInt8.ofNat ((8*n)/2^16))] 5 fun o3 d2 j6=> ?_
  replace A:=A.ext d2
  replace w:=w.ext d2
  replace kt:=kt.ext d2
  replace i:=i.ext d2
  replace D:=D.x d2
  replace C:=C.x d2
  have u:=Row.blk (n:=1) (sz:=1) (l:=[bv (UInt8.ofNat ((8*n)/2^16))]) j6 rfl
  clear j6
  have F:=w.size
  refine tF 12 (Does.dp (t:=32) (E:=5) (sz:=1) (db:=1) (n:=T5.length) (m:=1) (v:= .slice e9 T5.length b3) (x:= .slice (some ⟨i4.size,0,none⟩) 1 1) (xs:=T5.map bv) (ys:=([UInt8.ofNat ((8*n)/2^16)]).map bv) (by kernel_rfl) (by kernel_rfl) i u (aB _) (by unfold maxLen;first|omega| (simp only[List.length_append,List.length_cons,List.length_nil,List.length_replicate,bG];omega)) (by first|omega| (simp only[List.length_append,List.length_cons,List.length_nil,List.length_replicate,bG];omega))) ?_
  rintro _ f1 ⟨b6,Q,rfl,s,K,b7⟩
  rw[ae] at K b7
  replace A:=A.grew K (fun k hk=>by have:=aH k hk;omega)
  replace w:=w.grew K (fun k hk=>by have:=aH k hk;omega)
  replace kt:=kt.grew K (fun e=>by have:=aH _ e.symm;omega)
  replace D:=D.y K (fun e=>by have:=aH _ e.symm;omega)
  replace C:=C.y K (fun e=>by have:=aH _ e.symm;omega)
  replace i:Own f1 (.slice b6 ((T5++[UInt8.ofNat ((8*n)/2^16)])).length Q) 5 ((T5++[UInt8.ofNat ((8*n)/2^16)])).length 1 ((T5++[UInt8.ofNat ((8*n)/2^16)]).map bv):=Own.app s (by first|rfl|simp) (by first| (simp;done)| (simp;omega))
  replace aH:=dS aH b7 (by omega)
  clear s K b7 F
  clear u
  obtain⟨T6,g0⟩:∃T:List UInt8,(T5++[UInt8.ofNat ((8*n)/2^16)])=T:=⟨_,rfl⟩
  rw[g0] at i
  have l1:T6.length =T5.length +1:=by rw[←g0];simp
  refine sE [(3,.slice b6 (T5.length +1) Q)] fun a p=> ?_
  have q:(T5.length +1:Nat)=T6.length :=by first| (rw[←g0];simp;done)| (simp;done)| (simp;omega)
  rw[q] at p;clear q
  refine bK<|tK<|rP [(22,.int .i64 6)] p fun a p=>tK (ar.step ?_)
  refine qP [(23,.bool true)] p fun a p=>cS<|cT 23 p<|cN<|tK<|cS<|cB 3 ?_
  refine qP [(4,.int .i64 6)] p fun a p=>rS p<|tO 4 9 D<|t1 5 (.int .u64 ((8*n:Nat):Int)) (.int .u64 (IntKind.u64.wrap (8*((n:Nat):Int)))) (congrArg (Value.int .u64) (mX (by omega) (by omega)))<|t1 9 (.int .u64 (((8*n)/2^8:Nat):Int)) (.int .u64 (Int.fdiv ((8*n:Nat):Int) (2^8))) (congrArg (Value.int .u64) (bM (8*n) 8))<|t1 10 (bv (UInt8.ofNat ((8*n)/2^8))) (.int .u8 (IntKind.u8.wrap (((8*n)/2^8:Nat):Int))) (bn _)<|tN 11 (.slice (some ⟨f1.size,0,none⟩) 1 1) #[bv (UInt8.ofNat ((8*n)/2^8))] 5 fun l2 N g5=> ?_
  replace A:=A.ext N
  replace w:=w.ext N
  replace kt:=kt.ext N
  replace i:=i.ext N
  replace D:=D.x N
  replace C:=C.x N
  have u:=Row.blk (n:=1) (sz:=1) (l:=[bv (UInt8.ofNat ((8*n)/2^8))]) g5 rfl
  clear g5
  have F:=w.size
  refine tF 12 (Does.dp (t:=32) (E:=5) (sz:=1) (db:=1) (n:=T6.length) (m:=1) (v:= .slice b6 T6.length Q) (x:= .slice (some ⟨f1.size,0,none⟩) 1 1) (xs:=T6.map bv) (ys:=([UInt8.ofNat ((8*n)/2^8)]).map bv) (by kernel_rfl) (by kernel_rfl) i u (aB _) (by unfold maxLen;first|omega| (simp only[List.length_append,List.length_cons,List.length_nil,List.length_replicate,bG];omega)) (by first|omega| (simp only[List.length_append,List.length_cons,List.length_nil,List.length_replicate,bG];omega))) ?_
  rintro _ f2 ⟨b8,R,rfl,s,L,c0⟩
  rw[ae] at L c0
  replace A:=A.grew L (fun k hk=>by have:=aH k hk;omega)
  replace w:=w.grew L (fun k hk=>by have:=aH k hk;omega)
  replace kt:=kt.grew L (fun e=>by have:=aH _ e.symm;omega)
  replace D:=D.y L (fun e=>by have:=aH _ e.symm;omega)
  replace C:=C.y L (fun e=>by have:=aH _ e.symm;omega)
  replace i:Own f2 (.slice b8 ((T6++[UInt8.ofNat ((8*n)/2^8)])).length R) 5 ((T6++[UInt8.ofNat ((8*n)/2^8)])).length 1 ((T6++[UInt8.ofNat ((8*n)/2^8)]).map bv):=Own.app s (by first|rfl|simp) (by first| (simp;done)| (simp;omega))
  replace aH:=dS aH c0 (by omega)
  clear s L c0 F
  clear u
  obtain⟨T7,g1⟩:∃T:List UInt8,(T6++[UInt8.ofNat ((8*n)/2^8)])=T:=⟨_,rfl⟩
  rw[g1] at i
  have l3:T7.length =T6.length +1:=by rw[←g1];simp
  refine sE [(3,.slice b8 (T6.length +1) R)] fun a p=> ?_
  have q:(T6.length +1:Nat)=T7.length :=by first| (rw[←g1];simp;done)| (simp;done)| (simp;omega)
  rw[q] at p;clear q
  refine bK<|tK<|rP [(22,.int .i64 7)] p fun a p=>tK (ar.step ?_)
  refine qP [(23,.bool true)] p fun a p=>cS<|cT 23 p<|cN<|tK<|cS<|cB 3 ?_
  refine qP [(4,.int .i64 7)] p fun a p=>rS p<|tO 4 9 D<|t1 5 (.int .u64 ((8*n:Nat):Int)) (.int .u64 (IntKind.u64.wrap (8*((n:Nat):Int)))) (congrArg (Value.int .u64) (mX (by omega) (by omega)))<|t1 9 (.int .u64 (((8*n)/2^0:Nat):Int)) (.int .u64 (Int.fdiv ((8*n:Nat):Int) (2^0))) (congrArg (Value.int .u64) (bM (8*n) 0))<|t1 10 (bv (UInt8.ofNat ((8*n)/2^0))) (.int .u8 (IntKind.u8.wrap (((8*n)/2^0:Nat):Int))) (bn _)<|tN 11 (.slice (some ⟨f2.size,0,none⟩) 1 1) #[bv (UInt8.ofNat ((8*n)/2^0))] 5 fun l4 O g6=> ?_
  replace A:=A.ext O
  replace w:=w.ext O
  replace kt:=kt.ext O
  replace i:=i.ext O
  replace D:=D.x O
  replace C:=C.x O
  have u:=Row.blk (n:=1) (sz:=1) (l:=[bv (UInt8.ofNat ((8*n)/2^0))]) g6 rfl
  clear g6
  have F:=w.size
  refine tF 12 (Does.dp (t:=32) (E:=5) (sz:=1) (db:=1) (n:=T7.length) (m:=1) (v:= .slice b8 T7.length R) (x:= .slice (some ⟨f2.size,0,none⟩) 1 1) (xs:=T7.map bv) (ys:=([UInt8.ofNat ((8*n)/2^0)]).map bv) (by kernel_rfl) (by kernel_rfl) i u (aB _) (by unfold maxLen;first|omega| (simp only[List.length_append,List.length_cons,List.length_nil,List.length_replicate,bG];omega)) (by first|omega| (simp only[List.length_append,List.length_cons,List.length_nil,List.length_replicate,bG];omega))) ?_
  rintro _ H ⟨S,U,rfl,s,M,c1⟩
  rw[ae] at M c1
  replace A:=A.grew M (fun k hk=>by have:=aH k hk;omega)
  replace w:=w.grew M (fun k hk=>by have:=aH k hk;omega)
  replace kt:=kt.grew M (fun e=>by have:=aH _ e.symm;omega)
  replace D:=D.y M (fun e=>by have:=aH _ e.symm;omega)
  replace C:=C.y M (fun e=>by have:=aH _ e.symm;omega)
  replace i:Own H (.slice S ((T7++[UInt8.ofNat ((8*n)/2^0)])).length U) 5 ((T7++[UInt8.ofNat ((8*n)/2^0)])).length 1 ((T7++[UInt8.ofNat ((8*n)/2^0)]).map bv):=Own.app s (by first|rfl|simp) (by first| (simp;done)| (simp;omega))
  replace aH:=dS aH c1 (by omega)
  clear s M c1 F
  clear u
  obtain⟨T8,g3⟩:∃T:List UInt8,(T7++[UInt8.ofNat ((8*n)/2^0)])=T:=⟨_,rfl⟩
  rw[g3] at i
  have l5:T8.length =T7.length +1:=by rw[←g3];simp
  refine sE [(3,.slice S (T7.length +1) U)] fun a p=> ?_
  have q:(T7.length +1:Nat)=T8.length :=by first| (rw[←g3];simp;done)| (simp;done)| (simp;omega)
  rw[q] at p;clear q
  refine bK<|tK<|rP [(22,.int .i64 8)] p fun a p=>tK (ar.step ?_)
  refine qP [(23,.bool false)] p fun a p=>cS<|cF 23 p<|cX 2 (xT (xT (xB ?_)))
  refine tK<|qS p<|tQ 3 0 [wv st.a,wv st.b,wv st.c,wv st.d,wv st.e,wv st.f,wv st.g,wv st.h] D ?_
  have hne0:S.map (·.block)≠some (H.size):=by intro e;have:=i.lt (k:=H.size) (by rw[ae];exact e);omega
  refine tN 4 (pV H.size) #[.int .u32 0,.int .u32 0,.int .u32 0,.int .u32 0,.int .u32 0,.int .u32 0,.int .u32 0,.int .u32 0] 145 fun l6 W c3=> ?_
  have k1:=A.size
  have k2:=w.size
  replace A:=A.ext W
  replace w:=w.ext W
  replace kt:=kt.ext W
  replace i:=i.ext W
  replace C:=C.x W
  refine bt 5 [wv st.a,wv st.b,wv st.c,wv st.d,wv st.e,wv st.f,wv st.g,wv st.h] c3 fun l7 X zq=> ?_
  replace A:=A.v X
  replace w:=w.grew X (by rintro _ ⟨⟩;omega)
  replace kt:=kt.grew X (by simp;omega)
  replace i:=i.kept X (by rw[ae];right;first|exact hne0| (intro e;have:=aH _ e;omega))
  replace C:=C.y X
  replace c3:=zq
  refine sT [(5,pV H.size)] fun a p=>cS<|cB 4 ?_
  subst g3 g1 g0 f9 f8 f7 f6 f5 j0
  have g8:(((((((((r++[128]++List.replicate (bG (r.length +1)) 0)++[UInt8.ofNat ((8*n)/2^56)])++[UInt8.ofNat ((8*n)/2^48)])++[UInt8.ofNat ((8*n)/2^40)])++[UInt8.ofNat ((8*n)/2^32)])++[UInt8.ofNat ((8*n)/2^24)])++[UInt8.ofNat ((8*n)/2^16)])++[UInt8.ofNat ((8*n)/2^8)])++[UInt8.ofNat ((8*n)/2^0)])=padded r n:=by simp[padded,wy]
  rw[g8] at p i
  have j7:=lR r n
  clear g8
  refine cL (fun m a h'=>∃z:S8,∃G:List UInt8,∃I:Option Addr,∃B:Nat,m=G.length ∧(Ext h h')∧(Ext h1 h')∧(bq h')∧(h'[h.size]? =some (.cells #[.int .u8 0,.int .u8 0,.int .u8 0,.int .u8 0,.int .u8 0,.int .u8 0,.int .u8 0,.int .u8 0,.int .u8 0,.int .u8 0,.int .u8 0,.int .u8 0,.int .u8 0,.int .u8 0,.int .u8 0,.int .u8 0,.int .u8 0,.int .u8 0,.int .u8 0,.int .u8 0,.int .u8 0,.int .u8 0,.int .u8 0,.int .u8 0,.int .u8 0,.int .u8 0,.int .u8 0,.int .u8 0,.int .u8 0,.int .u8 0,.int .u8 0,.int .u8 0] 39))∧(run z G=run st (padded r n))∧(G.length %64=0)∧(h'[H.size]? =some (.cells #[wv z.a,wv z.b,wv z.c,wv z.d,wv z.e,wv z.f,wv z.g,wv z.h] 145))∧(Own h' (.slice I G.length B) 5 G.length 1 (G.map bv))∧(∀k,I.map (·.block)=some k→h1.size ≤k)∧(I.map (·.block)≠some (H.size))∧(Fr a 54 [(2,.pointer (some ⟨h.size,0,none⟩)),(3,.slice I G.length B),(5,.pointer (some ⟨H.size,0,none⟩))])) ((padded r n).length) ⟨st,(padded r n),S,U,rfl,A,w,kt,C,rfl,j7,c3,i,aH,hne0,p.to⟩ ?_
  clear p a
  clear A
  clear w
  clear kt
  clear C
  clear j7
  clear c3
  clear i
  clear aH
  clear hne0
  rintro m a l8 ⟨z,G,I,B,rfl,A,w,kt,C,hi,l9,m5,i,aH,hne,p⟩
  refine cS<|qP [(45,.bool (decide ((0:Int)<((G.length :Nat):Int))))] p fun a p=>cJ 45 p (fun i5=> ?_) fun i5=> ?_
  ·have hl:64≤G.length :=by omega
   obtain⟨gb,Y,rfl,m0⟩:=i.oD (by omega)
   refine cN<|tK<|cB 5<|cS<|cD [0,0,2,7,15] 12 mixed p<|mR 1 1 0 m5<|mP 3 [1] [.slice (some ⟨gb,Y,none⟩) G.length B] ?_
   refine mF 7 2 (.slice (some ⟨gb,Y,none⟩) 64 B) (fun h=>Calm.cn (a:=(some ⟨gb,Y,none⟩)) (len:=G.length) (cap:=B) (sz:=1) (x:=(some ⟨gb,Y,none⟩)) 0 64 B 64 B (by kernel_rfl) (.inl ⟨rfl,rfl⟩) (.inr rfl) (.inl ⟨rfl,rfl⟩) (by omega) (by omega) (ny _) (by first|rfl|omega) (by first|rfl|omega) h)<|gC 15 15 3 (nz _ z ⟨gb,Y,none⟩ B (G.take 64) (wz i hl) kt) ?_
   rintro _ m2 ⟨rfl,g⟩
   replace A:=A.ext g
   replace w:=w.ext g
   replace kt:=kt.ext g
   replace i:=i.ext g
   replace C:=C.x g
   replace m5:=m5.x g
   clear g
   refine mV 31 31 4 0 [wv ((piece z (G.take 64)).a),wv ((piece z (G.take 64)).b),wv ((piece z (G.take 64)).c),wv ((piece z (G.take 64)).d),wv ((piece z (G.take 64)).e),wv ((piece z (G.take 64)).f),wv ((piece z (G.take 64)).g),wv ((piece z (G.take 64)).h)] [wv ((piece z (G.take 64)).a),wv ((piece z (G.take 64)).b),wv ((piece z (G.take 64)).c),wv ((piece z (G.take 64)).d),wv ((piece z (G.take 64)).e),wv ((piece z (G.take 64)).f),wv ((piece z (G.take 64)).g),wv ((piece z (G.take 64)).h)] m5 fun m4 Z zq=> ?_
   replace A:=A.v Z
   replace w:=w.grew Z (by rintro _ ⟨⟩;omega)
   replace kt:=kt.grew Z (by simp;omega)
   replace i:=i.kept Z (by rw[ae];right;first|exact hne| (intro e;have:=aH _ e;omega))
   replace C:=C.y Z
   replace m5:=zq
   refine mE [] fun a p=>tK<|rS p ?_
   obtain⟨g4,c4⟩:∃x,x=if B=64 then (some ⟨gb,Y,none⟩:Option Addr) else (some ⟨gb,Y,none⟩:Option Addr).map (·.add (64*1)):=⟨_,rfl⟩
   have V:=i.drop 64 hl
   rw[←c4] at V
   refine tC 1 (.slice g4 (G.length - 64) (B - 64)) ((fun h=>Calm.cn (a:=(some ⟨gb,Y,none⟩)) (len:=G.length) (cap:=B) (sz:=1) (x:=g4) 64 G.length B (G.length - 64) (B - 64) (by kernel_rfl) (.inl ⟨rfl,rfl⟩) (.inl ⟨rfl,rfl⟩) (.inr rfl) (by omega) (by omega) c4 (by first|rfl|omega) (by first|rfl|omega) h) _)<|sE [(3,.slice g4 (G.length - 64) (B - 64))] fun a p=> ?_
   have k3:G.length - 64=(G.drop 64).length :=by simp
   rw[Nat.mul_one,←List.map_drop] at V
   rw[k3] at p V
   refine bK ?_
   show ∃m',m'<_∧_
   refine⟨_,?_,(piece z (G.take 64)),(G.drop 64),g4,(B - 64),rfl,A,w,kt,C,(by rw[←hi,gK hl]),(by rw[List.length_drop];omega),m5,V,(by intro k hk;rw[gM c4] at hk;exact aH k hk),(by rw[gM c4];exact hne),p.to⟩
   omega
  ·refine cX 4 (xT (xT (xB ?_)))
   refine tK<|qS p<|tR 0 m5<|tG 1 (wA _ z) ?_
   rintro _ m6 ⟨rfl,g⟩
   replace A:=A.ext g
   replace kt:=kt.ext g
   replace i:=i.ext g
   replace C:=C.x g
   clear g
   have k4:z=run st (padded r n):=by rw[←hi,run_end (by omega)]
   refine tV 2 0 ((told z).map bv) ((told z).map bv) C (fun m7 f3 zq=> ?_) (h1:=(aB _))
   replace A:=A.v f3
   clear w
   replace kt:=kt.grew f3 (by simp;omega)
   replace i:=i.kept f3 (by rw[ae];right;intro e;have:=aH _ e;omega)
   replace C:=zq
   exact sT [] fun a p=>cR<|aA [.cell 2 39] [.agg (((told z).map bv).toArray)] (.agg (((told z).map bv).toArray)) rfl p ⟨⟨_,rfl,Loads.all (vs:=(told z).map bv) (by kernel_rfl) C⟩,trivial⟩ rfl<|⟨by rw[k4];rfl,A⟩
noncomputable def E7:Code:=Tryz.f112.body.getD .skip
theorem zh(h:Heap)(l:List UInt8)(va:Option Addr)(vc:Nat)(hr:Row h (.slice va l.length vc) l.length 1 (l.map bv))(hlt:l=[]∨∀k,aZ (.slice va l.length vc)=some k→k<h.size)(kt:bq h)(hn:l.length ≤1099511627776):Sat Tryz.prog 112 #[.slice va l.length vc] h fun v h'=>v=hv (sha l)∧Ext h h':=by
 have c:=Ext.refl h
 have r:=kt.lt
 refine ag Tryz.func112 10 fun a f=>qS f<|tN 0 (pV h.size) #[.int .u8 0,.int .u8 0,.int .u8 0,.int .u8 0,.int .u8 0,.int .u8 0,.int .u8 0,.int .u8 0,.int .u8 0,.int .u8 0,.int .u8 0,.int .u8 0,.int .u8 0,.int .u8 0,.int .u8 0,.int .u8 0,.int .u8 0,.int .u8 0,.int .u8 0,.int .u8 0,.int .u8 0,.int .u8 0,.int .u8 0,.int .u8 0,.int .u8 0,.int .u8 0,.int .u8 0,.int .u8 0,.int .u8 0,.int .u8 0,.int .u8 0,.int .u8 0] 39 fun h1 n d=> ?_
 have s:=aj d
 have t:=c.size
 replace c:=c.ext n
 replace kt:=kt.ext n
 replace hr:=hr.ext n
 refine sT [(2,pV h.size)] fun a f=>qS f<|tG 0 (tj _) ?_
 rintro _ B ⟨b,rfl,q,o,g⟩
 replace c:=c.ext g
 replace kt:=kt.ext g
 replace hr:=hr.ext g
 replace d:=d.x g
 clear g
 refine sT [(3,pV b)] fun a f=>qS f<|tG 2 (nA _ b none H0 [] l 0 va vc q hr (hlt.imp id fun hlt e=>by have:=hlt _ e;omega) (by omega) (by simp) kt (by simpa using hn) (by omega)) ?_
 rintro _ u ⟨w,i,y,g⟩
 simp only[List.nil_append,Nat.zero_add] at i
 have j:∀k,(k=b∨some k=none)→_≤k:=fun k p=>p.elim (fun e=>e▸o) (fun e=>by cases e)
 replace kt:=kt.gr g (by simp;omega)
 replace d:=g.blk d (by simp;omega)
 replace c:=Gr.dD c g (fun k p=>by have:=j k p;omega)
 clear q hr j
 refine sT [] fun a f=>qS f ?_
 have z:=oC l.length l (Nat.le_refl _)
 refine tG 1 ((tm _ b w _ _ _ i kt (by omega) (by omega)).mono (R':=fun v h'=>v=hv (sha l)∧Ext u h') fun v h' e=>⟨e.1.trans (by rw[tg]),e.2⟩) ?_
 rintro _ C ⟨rfl,g⟩
 replace c:=c.ext g
 replace kt:=kt.ext g
 replace d:=d.x g
 clear g
 refine tV 2 0 ((sha l).map bv) ((sha l).map bv) d (fun D m A=> ?_) (h1:=(aB _))
 replace c:=c.v m
 replace kt:=kt.grew m (by simp;omega)
 replace d:=A
 exact sT [] fun a f=>cR<|aA [.cell 2 39] [.agg (((sha l).map bv).toArray)] (.agg (((sha l).map bv).toArray)) rfl f ⟨⟨_,rfl,Loads.all (vs:=(sha l).map bv) (by kernel_rfl) d⟩,trivial⟩ rfl<|⟨rfl,c⟩
end Go.Proofs.YtegkejcglfgpmaaGreatDoor
end
section
namespace Go.aL
open Go Go.ai
def pv(h:Heap)(b:Nat)(o:Option Nat)(l:List UInt8):Prop:=rl h b o (run H0 l) (rem l) l.length
theorem pv.ext{h h':Heap}{b:Nat}{o:Option Nat}{l:List UInt8}(s:pv h b o l)(g:Ext h h'):pv h' b o l:=rl.ext s g
theorem pv.lt{h:Heap}{b:Nat}{o:Option Nat}{l:List UInt8}(s:pv h b o l):b<h.size ∧∀k,o=some k→k<h.size :=rl.lt s
theorem Gr.own{F:Nat→Prop}{h h':Heap}{v:Value}{E:TypeId}{n sz:Nat}{xs:List Value}(g:Gr F h h')(w:Own h v E n sz xs)(hne:∀k,aZ v=some k→¬F k):Own h' v E n sz xs:=by
  refine⟨w.1,w.2.imp id ?_⟩
  rintro⟨b,off,cap,l,e,hg,r⟩
  exact⟨b,off,cap,l,e,g.blk hg (hne b (by rw[e];rfl)),r⟩
theorem wB(l:List UInt8):(rem l).length ≤l.length :=(oC l.length l (Nat.le_refl _)).2.1
theorem DK{P:Program}{ops:Array Oper}{base:Nat→Value}{vals:aQ}{i:Nat}{n:Nat}{l r:List UInt8}(hx:Co P ops base vals i=some (false,(l.map bv).toArray,(r.map bv).toArray,n))(hl:l.length =n)(hr:r.length =n)(h:Heap):
    Go.ai.Calm P ops base vals i h (.bool (!decide (l=r))):=by
  have:=Calm.E5 hx hl hr h
  rwa [show(decide (l=r)==false)= !decide (l=r) by cases decide (l=r)<;>rfl] at this
def Sep(lo hi:Nat)(l:List (Option Nat)):Prop:=(∀x∈l,∀k,x=some k→lo≤k∧k<hi)∧l.Pairwise fun x y=>∀k,x=some k→y≠some k
theorem Sep.nil(lo hi:Nat):Sep lo hi []:=⟨by simp,List.Pairwise.nil⟩
theorem Sep.up{lo n m:Nat}{l:List (Option Nat)}(s:Sep lo n l)(h:n≤m):Sep lo m l:=⟨fun x hx k e=>⟨(s.1 x hx k e).1,Nat.lt_of_lt_of_le (s.1 x hx k e).2 h⟩,s.2⟩
theorem Sep.cons{lo n m:Nat}{l:List (Option Nat)}{x:Option Nat}(s:Sep lo n l)(h:n≤m)(h0:lo≤n)(hx:∀k,x=some k→n≤k∧k<m):Sep lo m (x::l):=
  ⟨fun y hy k e=>by
    rcases List.mem_cons.1 hy with rfl|hy
    · have:=hx k e;exact⟨by omega,this.2⟩
    · exact(s.up h).1 y hy k e,
   List.pairwise_cons.2 ⟨fun y hy k e ey=>by have:=(s.1 y hy k ey).2;have:=(hx k e).1;omega,s.2⟩⟩
theorem Sep.new{lo n m:Nat}{l:List (Option Nat)}(s:Sep lo n l)(h0:lo≤n)(h:n<m):Sep lo m (some n::l):=
  s.cons (Nat.le_of_lt h) h0 (fun k e=>by cases e;exact⟨Nat.le_refl _,h⟩)
theorem Sep.none{lo n:Nat}{l:List (Option Nat)}(s:Sep lo n l)(h0:lo≤n):Sep lo n (none::l):=s.cons (Nat.le_refl _) h0 (fun k e=>by cases e)
theorem Sep.ne{lo n:Nat}{l:List (Option Nat)}(s:Sep lo n l){i j:Nat}{x y:Option Nat}(hx:l[i]? =some x)(hy:l[j]? =some y)(hij:i≠j)(k:Nat)(e:x=some k):y≠some k:=by
  obtain⟨hi,rfl⟩:=List.getElem?_eq_some_iff.1 hx
  obtain⟨hj,rfl⟩:=List.getElem?_eq_some_iff.1 hy
  rcases Nat.lt_or_gt_of_ne hij with h|h
  · exact List.pairwise_iff_getElem.1 s.2 i j hi hj h k e
  · intro e';exact List.pairwise_iff_getElem.1 s.2 j i hj hi h k e' e
theorem Sep.ap{lo n:Nat}{l:List (Option Nat)}(s:Sep lo n l)(i j:Nat){x y:Option Nat}(hx:l[i]? =some x:=by rfl)(hy:l[j]? =some y:=by rfl)(hij:i≠j:=by decide):x=Option.none ∨x≠y:=by
  cases x with
  |none=>exact .inl rfl
  |some k=>exact .inr fun e=>s.ne hx hy hij k rfl e.symm
theorem Sep.bp{lo n:Nat}{l:List (Option Nat)}(s:Sep lo n l)(i j:Nat){b:Nat}{y:Option Nat}(hx:l[i]? =some (some b):=by rfl)(hy:l[j]? =some y:=by rfl)(hij:i≠j:=by decide):some b≠y:=fun e=>s.ne hx hy hij b rfl e.symm
theorem Sep.gF{lo n:Nat}{l:List (Option Nat)}(s:Sep lo n l)(i j m:Nat){x o:Option Nat}{b:Nat}(hx:l[i]? =some x)(hb:l[j]? =some (some b))(ho:l[m]? =some o)(hij:i≠j)(him:i≠m):∀k,x=some k→¬(k=b∨some k=o):=by
  rintro k e (rfl|e')
  · exact s.ne hx hb hij _ e rfl
  · exact s.ne hx ho him _ e e'.symm
theorem Sep.low{lo n:Nat}{l:List (Option Nat)}(s:Sep lo n l)(i:Nat){x:Option Nat}(hx:l[i]? =some x):∀k,x=some k→lo≤k:=by
  obtain⟨hi,rfl⟩:=List.getElem?_eq_some_iff.1 hx
  exact fun k e=>(s.1 _ (List.getElem_mem hi) k e).1
theorem Sep.rm{lo n:Nat}{l:List (Option Nat)}(s:Sep lo n l)(j m:Nat){o:Option Nat}{b:Nat}(hb:l[j]? =some (some b))(ho:l[m]? =some o):∀k,(k=b∨some k=o)→lo≤k:=by
  rintro k (rfl|e)
  · exact s.low j hb _ rfl
  · exact s.low m ho _ e.symm
theorem Sep.zero{lo n:Nat}{l:List (Option Nat)}(s:Sep lo n l)(i:Nat){x:Option Nat}(hx:l[i]? =some x)(h0:0<lo):some 0≠x:=fun e=>by have:=s.low i hx 0 e.symm;omega
theorem Sep.nB{lo n:Nat}{l:List (Option Nat)}(s:Sep lo n l)(j m:Nat){o:Option Nat}{b:Nat}(hb:l[j]? =some (some b))(ho:l[m]? =some o)(h0:0<lo):¬(0=b∨some 0=o):=fun h=>by have:=s.rm j m hb ho 0 h;omega
theorem Sep.set{lo n m:Nat}{l:List (Option Nat)}(s:Sep lo n l)(h:n≤m)(h0:lo≤n)(i:Nat){x y:Option Nat}(hx:l[i]? =some x)(hy:y=x∨y=Option.none ∨∃g,y=some g∧n≤g)(hlt:∀k,y=some k→k<m):Sep lo m (l.set i y):=by
  obtain⟨hi,rfl⟩:=List.getElem?_eq_some_iff.1 hx
  have up:=s.up h
  refine⟨fun z hz k e=> ?_, ?_⟩
  · rcases List.mem_or_eq_of_mem_set hz with hz | rfl
    · exact up.1 z hz k e
    · rcases hy with rfl | rfl | ⟨g, rfl, hg⟩
      · exact up.1 _ (List.getElem_mem hi) k e
      · cases e
      · cases e;exact⟨by omega,hlt _ rfl⟩
  · rw [List.pairwise_iff_getElem]
    intro a b ha hb hab k e e'
    simp only[List.length_set] at ha hb
    rw[List.getElem_set] at e e'
    have old:=List.pairwise_iff_getElem.1 s.2 a b ha hb hab k
    split at e<;>split at e'
    · omega
    · rcases hy with rfl | rfl | ⟨g, rfl, hg⟩
      · subst i;exact old e e'
      · cases e
      · cases e;have:=(s.1 _ (List.getElem_mem (l:=l) (by omega)) _ e').2;omega
    · rcases hy with rfl | rfl | ⟨g, rfl, hg⟩
      · subst i;exact old e e'
      · cases e'
      · cases e';have:=(s.1 _ (List.getElem_mem (l:=l) (by omega)) _ e).2;omega
    · exact old e e'
end Go.aL
namespace Go.Proofs.YtegkejcglfgpmaaGreatDoor
open Go Go.ai Go.aL
theorem AV(h:Heap):Sat Tryz.prog 52 #[] h fun v h'=>∃b,v= .pointer (some ⟨b,0,none⟩)∧pv h' b none []∧h.size ≤b∧Ext h h':=tj h
theorem kY(h:Heap)(b:Nat)(o:Option Nat)(l bs:List UInt8)(va:Option Addr)(vc:Nat)(hs:pv h b o l)(hr:Row h (.slice va bs.length vc) bs.length 1 (bs.map bv))(hvb:bs=[]∨aZ (.slice va bs.length vc)≠some b)(hb0:0<b)(ho0:o≠some 0)(kt:bq h)(h1:l.length +bs.length ≤1099511627776):
    Sat Tryz.prog 53 #[.pointer (some ⟨b,0,none⟩), .slice va bs.length vc] h fun _ h'=>∃o',pv h' b o' (l++bs)∧(o'=o∨∃g,o'=some g∧h.size ≤g)∧Gr (fun k=>k=b∨some k=o) h h':=by
  have hl:=wB l
  refine(nA h b o _ _ bs _ va vc hs hr hvb hb0 ho0 kt (by omega) h1).mono fun v h' ⟨o',s,e,g⟩=>⟨o', ?_,e,g⟩
  unfold pv
  rw[iS l.length H0 l bs (Nat.le_refl _),lQ l.length l bs (Nat.le_refl _),List.length_append]
  exact s
theorem tn(h:Heap)(b:Nat)(o:Option Nat)(l bs:List UInt8)(n:Nat)(va:Option Addr)(vc:Nat)(hs:pv h b o l)(hr:Row h (.slice va n vc) n 1 (bs.map bv))(hn:bs.length =n)(hvb:bs=[]∨aZ (.slice va n vc)≠some b)(hb0:0<b)(ho0:o≠some 0)(kt:bq h)(h1:l.length +bs.length ≤1099511627776):
    Sat Tryz.prog 53 #[.pointer (some ⟨b,0,none⟩), .slice va n vc] h fun _ h'=>∃o',pv h' b o' (l++bs)∧(o'=o∨∃g,o'=some g∧h.size ≤g)∧Gr (fun k=>k=b∨some k=o) h h':=by
  subst hn;exact kY h b o l bs va vc hs hr hvb hb0 ho0 kt h1
theorem AW(h:Heap)(b:Nat)(o:Option Nat)(l:List UInt8)(hs:pv h b o l)(kt:bq h)(h1:l.length ≤1099511627776):
    Sat Tryz.prog 54 #[.pointer (some ⟨b,0,none⟩)] h fun v h'=>v=hv (sha l)∧Ext h h':=by
  have hl:=wB l
  exact(tm h b o _ _ _ hs kt (by omega) h1).mono fun v h' ⟨e,g⟩=>⟨e.trans (by rw[tg]),g⟩
end Go.Proofs.YtegkejcglfgpmaaGreatDoor
namespace Go.aL
open Go Go.ai
theorem Sep.nw{lo:Nat}{h h':Heap}{l:List (Option Nat)}{o:Obj}(s:Sep lo h.size l)(h0:lo≤h.size)(m:h'[h.size]? =some o):Sep lo h'.size (some h.size ::l):=s.new h0 (aj m)
theorem Sep.l{lo n:Nat}{l:List (Option Nat)}(s:Sep lo n l)(i:Nat){x:Option Nat}(hx:l[i]? =some x:=by rfl):∀k,x=some k→lo≤k:=s.low i hx
theorem Sep.co{lo:Nat}{h h':Heap}{l:List (Option Nat)}{ad:Option Addr}{n c m sz:Nat}{E:TypeId}{xs:List Value}(s:Sep lo h.size l)(g:Ext h h')(hge:∀k,ad.map (fun(x:Addr)=>x.block)=some k→h.size ≤k)(w:Own h' (.slice ad n c) E m sz xs)(h0:lo≤h.size):Sep lo h'.size (ad.map (fun(x:Addr)=>x.block)::l):=
  s.cons g.size h0 fun k e=>⟨hge k e,w.lt (by rw[ae];exact e)⟩
theorem Sep.sa{lo:Nat}{h h':Heap}{l:List (Option Nat)}{a ad:Option Addr}{o:Option Nat}{n c m sz:Nat}{E:TypeId}{xs:List Value}(s:Sep lo h.size l)(g:Grew o h h')(i:Nat)(hb:ad.map (fun(x:Addr)=>x.block)=a.map (fun(x:Addr)=>x.block)∨ad.map (fun(x:Addr)=>x.block)=some h.size)(w:Own h' (.slice ad n c) E m sz xs)(h0:lo≤h.size)(hx:l[i]? =some (a.map (fun(x:Addr)=>x.block)):=by rfl):Sep lo h'.size (l.set i (ad.map (fun(x:Addr)=>x.block))):=
  s.set g.1 h0 i hx (hb.imp id fun e=> .inr ⟨_,e,Nat.le_refl _⟩) fun k e=>w.lt (by rw[ae];exact e)
abbrev Sl:=Option Addr×Nat×List UInt8
def SV(t:Sl):Value:= .slice t.1 t.2.2.length t.2.1
def Rws(h:Heap)(va:Option Addr)(vc:Nat)(sl:List Sl):Prop:=
  Row h (.slice va sl.length vc) sl.length 1 (sl.map SV)∧∀t∈sl,Row h (.slice t.1 t.2.2.length t.2.1) t.2.2.length 1 (t.2.2.map bv)∧(t.2.2 =[]∨∀k,aZ (.slice t.1 t.2.2.length t.2.1)=some k→k<h.size)
def flat(sl:List Sl):List UInt8:=sl.flatMap (·.2.2)
end Go.aL
end
section
namespace Go.Proofs.YtegkejcglfgpmaaGreatDoor.tp
theorem one_le{H:Type}(d:DataW H):1≤Rows.uptoBulk d:=by
  cases d with
  |lit l=>cases l<;>simp[Rows.uptoBulk]
  |nil=>simp[Rows.uptoBulk]
  |ptr d=>simp[Rows.uptoBulk]
  |slice elems spare=>simp[Rows.uptoBulk]
  |agg parts=>simp[Rows.uptoBulk]
  |iface t d=>simp[Rows.uptoBulk]
  |map entries=>simp[Rows.uptoBulk]
  |held h=>simp[Rows.uptoBulk]
theorem length_le{H:Type}(l:List (DataW H)):l.length ≤Rows.uptoBulkAll l:=by
  induction l with
  |nil=>simp[Rows.uptoBulkAll]
  |cons x r ih=>have:=one_le x;simp only[Rows.uptoBulkAll,List.length_cons];omega
theorem pw{H:Type}(elems spare:List (DataW H)):elems.length +spare.length +1≤Rows.uptoBulk (.slice elems spare):=by
  have h1:=length_le elems
  have h2:=length_le spare
  simp only[Rows.uptoBulk]
  omega
theorem bound{H:Type}{l:List (DataW H)}(hk:Rows.uptoSmall H l=true):Rows.uptoBulkAll l≤1048576:=by
  simpa[Rows.uptoSmall] using hk
end Go.Proofs.YtegkejcglfgpmaaGreatDoor.tp
end
section
namespace Go.Proofs.YtegkejcglfgpmaaGreatDoor
open Go.ChangeShapes Go.WideShapes Go.ChangeAt Go.RowKit
theorem own:ownKnob Tryz.prog.godebug =none:=by kernel_rfl
theorem gTab:Tryz.prog.globalNamed "muniment/sha.k" =some 0:=by kernel_rfl
theorem wC:(Tryz.prog.globals[0]?).map (·.type)=some 173:=by kernel_rfl
theorem wD:Tryz.prog.cellsOf 173=64:=by kernel_rfl
theorem uR:Tryz.prog.cellsOf 143=1:=by kernel_rfl
theorem laidOut:laidOutB Tryz.prog =true:=by kernel_rfl
theorem Bn:Tryz.prog.underlying 173=some (.array 64 143):=by kernel_rfl
theorem zi:Tryz.prog.underlying 143=some (.int .u32):=by kernel_rfl
theorem zj{W:World}(h:laidMetH Tryz.prog [("muniment/sha.k",Rows.laid_muniment_sha_k)] W):aL.bq W.heap :=by
  have t:Lib.TabIs Tryz.prog W "muniment/sha.k" .u32 (aL.fZ.map fun x=>(x.toNat :Int)):=
    Lib.tabIs_of_head (rest:=[]) gTab wC Bn zi uR wD h
  intro j hj
  have hl:j<aL.fZ.length :=hj
  rw[←ai.eD rfl,t.cell gTab j (by rw[List.length_map];exact hl)]
  simp[List.getD,hl,aL.wv]
theorem wE{W W':World}(s:ai.Same W W')(e:ai.Ext W.heap W'.heap):Below W.heap.size W W':=
  ⟨s.os,s.tape,s.output,e.size,fun k hk=>e.get k hk (by simp)⟩
section
variable {H:Type} {enc:TypeId×Value→H}
theorem iM{P:Program}(hl:laidOutB P=true){W W':World}{sp:Nat→Bool}(hb:Below W.heap.size W W'):∀{ts:List TypeId} {vs:List Value} {ds:List (DataW H)} {ps:List MemPlace},
    (∀t∈ts,P.readableRec t=true∧t<P.types.size)→DataW.TrodAll enc P W 0 (fun _=>true) true ts vs ds ps→(∀x∈ps,x.block <W.heap.size)→(∀x∈ps,sp x.block =true)→DataW.TrodAll enc P W' 0 sp true ts vs ds ps
  | [], vs, ds, ps, _, h, _, _ => by
    obtain⟨rfl,rfl,rfl⟩:=trodAll_nil h
    rfl
  | t :: ts, vs, ds, ps, ht, h, hlt, hs => by
    obtain⟨v,vs1,d,ds1,p,q,rfl,rfl,rfl,h1,h2⟩:=trodAll_cons h
    have ht0:=ht t (List.mem_cons_self ..)
    exact trodAll_cons_mk (WideElems.Trod_stays hl ht0.1 ht0.2 h1 (fun x hx=>hb.same (hlt x (List.mem_append_left _ hx))) (fun x hx=>hs x (List.mem_append_left _ hx)))<|iM hl hb (fun t h=>ht t (List.mem_cons_of_mem _ h)) h2 (fun x hx=>hlt x (List.mem_append_right _ hx)) (fun x hx=>hs x (List.mem_append_right _ hx))
theorem wF{P:Program}{f:Func}{s:ChangeSpec}{W W':World}{args:Array Value}{ds gs:List (DataW H)}{before:List MemPlace}{tb:TypeId}
    (hl:laidOutB P=true) (hres:f.resultTypes = #[tb]) (htb:P.underlying tb=some .bool) (hts:∀t∈f.params.toList,P.readableRec t=true∧t<P.types.size) (hv:s.vars =[])
    (h1:(s.fn H (ds++gs)).results =[.lit (.bool true)]) (h2:(s.fn H (ds++gs)).args =ds) (h3:(s.fn H (ds++gs)).vars =[])
    (hW:DataW.Whole enc P f.params.toList s.vars false W args.toList ds gs before) (hb:Below W.heap.size W W'):s.post enc P f false true false false W args (.bool true) W':=by
  have hlt:∀x∈before,x.block <W.heap.size :=hW.lt
  have hW0:=hW
  obtain⟨p,q,hA,hV,rfl,_,_⟩:=hW
  rw[hv] at hV
  obtain⟨rfl,rfl⟩:=trodVars_none hV
  have hr:∀(b:Nat) (sp:Nat→Bool) (hd:Bool),DataW.TrodAll enc P W' b sp hd f.resultTypes.toList ((Value.bool true).resultList f.resultTypes.size) (s.fn H (ds++[])).results []:=by
    intro b sp hd
    rw[hres,h1]
    exact trodAll_cons_mk (shut_bool htb true) trodAll_mk0
  refine⟨ds,[],_,[],p,[],hW0,hr _ _ _, ?_, ?_,hb.frame _,fun h=>by cases h⟩
  · rw [h2]
    exact iM hl hb hts hA (fun x hx=>hlt x (List.mem_append_left _ hx)) (fun x hx=>by simpa using hlt x (List.mem_append_left _ hx))
  · rw[hv,h3];rfl
end
def BR(h:ai.Heap)(s:aL.Sl):Prop:=ai.Row h (.slice s.1 s.2.2.length s.2.1) s.2.2.length 1 (s.2.2.map aL.bv)∧(s.2.2 =[]∨∀k,ai.aZ (.slice s.1 s.2.2.length s.2.1)=some k→k<h.size)
theorem Cr{n:Int}(hw:(Lit.int .u8 n).wf =true):Value.int .u8 n=aL.bv (UInt8.ofNat n.toNat):=by
  simp only[Lit.wf,Bool.and_eq_true,decide_eq_true_eq] at hw
  have h0:(0:Int)≤n∧n≤255:=by simpa[IntKind.min,IntKind.max,IntKind.signed,IntKind.bits] using hw
  unfold aL.bv
  congr 1
  rw[UInt8.toNat_ofNat',Nat.mod_eq_of_lt (by omega)]
  omega
section
variable {H:Type} {enc:TypeId×Value→H}
theorem open_bytes {P : Program} {W : World} {t e : TypeId} {fuel : Nat} {cs : List Value} {x : DataW H × List MemPlace} (ht : P.underlying t = some (.slice e)) (he : P.underlying e = some (.int .u8)) (hc : P.cellsOf e = 1)
    (h:DataW.trod enc P W 0 (fun _=>true) true fuel t cs=some x):∃s:aL.Sl,cs=[.slice s.1 s.2.2.length s.2.1]∧BR W.heap s∧s.2.2.length +1≤Rows.uptoBulk x.1 :=by
  rcases open_ints ht he hc h with⟨rfl,rfl⟩|⟨a,len,cap,zs,rfl,_,hle,_,hzl,rfl,hcell,hwf⟩
  · exact⟨(none,0,[]),rfl,⟨ai.Row.nil W.heap 1, .inl rfl⟩,by simp[Rows.uptoBulk]⟩
  · have E8 : zs.length = cap := hzl
    have hlen:((zs.take len).map fun z:Int=>UInt8.ofNat z.toNat).length =len:=by simp;omega
    refine⟨(some a,cap,(zs.take len).map fun z:Int=>UInt8.ofNat z.toNat),by rw[hlen],⟨⟨by simp, .inr ⟨a,cap,rfl,by rw[hlen];exact hle,fun j u hu=> ?_⟩⟩, ?_⟩, ?_⟩
    · rw [List.getElem?_map, List.getElem?_map] at hu
      have hj:j<len:=by
        apply Nat.lt_of_not_le
        intro hh
        rw[List.getElem?_eq_none (by simp;omega)] at hu
        cases hu
      have hjz:j<zs.length :=by omega
      rw[List.getElem?_take_of_lt hj,List.getElem?_eq_getElem hjz] at hu
      simp only[Option.map_some,Option.some.injEq] at hu
      subst hu
      rw[←Cr (hwf _ (List.getElem_mem hjz)), ←ai.eD rfl,hcell j hjz]
      simp[List.getD,hjz]
    · by_cases h0 : len = 0
      · left;subst h0;simp
      · right
        intro k hk
        have:=hcell 0 (by omega)
        rw[ai.eD rfl] at this
        have:=ai.gI this
        rw[ai.add_block] at this
        simp only[ai.aZ,Option.some.injEq] at hk
        omega
    · have := tp.pw (H := H) (lits .u8 (zs.take len)) (lits .u8 (zs.drop len))
      simp only[lits,List.length_map] at this
      simp only[lits]
      have h2:(zs.take len).length =len:=by simp;omega
      have h3:((zs.take len).map fun z:Int=>UInt8.ofNat z.toNat).length =len:=hlen
      show((zs.take len).map fun z:Int=>UInt8.ofNat z.toNat).length +1≤_
      rw[h3]
      omega
end
end Go.Proofs.YtegkejcglfgpmaaGreatDoor
end
section
namespace Go.Proofs
open Go.Shelf
def Tryz.sortL_ren :Go.Shelf.Ren :=⟨fun|6=>73|15=>90|14=>110|28=>117|29=>118|20=>125|21=>126|22=>127|23=>128|24=>129|25=>130|26=>131|27=>132|46=>141|47=>142|48=>143|49=>144|50=>145|57=>147|n=>n,fun|22=>42|24=>9|25=>132|3=>3|39=>142|0=>0|53=>143|55=>147|4=>4|46=>185|45=>184|50=>136|5=>5|9=>9|66=>195|70=>199|76=>201|77=>202|n=>n,fun|n=>n⟩
theorem Tryz.sortL :Go.Proofs.SlLaysF.n6 Tryz.prog Tryz.sortL_ren :={
  mixed:=by kernel_rfl
  f6:=⟨Tryz.f73.name,by decide,Tryz.func73.trans (congrArg some (by kernel_rfl))⟩
  f14:=⟨Tryz.f110.name,by decide,Tryz.func110.trans (congrArg some (by kernel_rfl))⟩
  f15:=Tryz.func90.trans (congrArg some (by kernel_rfl))
  f20:=⟨Tryz.f125.name,by decide,Tryz.func125.trans (congrArg some (by kernel_rfl))⟩
  f21:=⟨Tryz.f126.name,by decide,Tryz.func126.trans (congrArg some (by kernel_rfl))⟩
  f22:=⟨Tryz.f127.name,by decide,Tryz.func127.trans (congrArg some (by kernel_rfl))⟩
  f23:=⟨Tryz.f128.name,by decide,Tryz.func128.trans (congrArg some (by kernel_rfl))⟩
  f24:=⟨Tryz.f129.name,by decide,Tryz.func129.trans (congrArg some (by kernel_rfl))⟩
  f25:=⟨Tryz.f130.name,by decide,Tryz.func130.trans (congrArg some (by kernel_rfl))⟩
  f26:=⟨Tryz.f131.name,by decide,Tryz.func131.trans (congrArg some (by kernel_rfl))⟩
  f27:=⟨Tryz.f132.name,by decide,Tryz.func132.trans (congrArg some (by kernel_rfl))⟩
  f28:=Tryz.func117.trans (congrArg some (by kernel_rfl))
  f29:=Tryz.func118.trans (congrArg some (by kernel_rfl))
  f46:=⟨Tryz.f141.name,by decide,Tryz.func141.trans (congrArg some (by kernel_rfl))⟩
  f47:=Tryz.func142.trans (congrArg some (by kernel_rfl))
  f48:=Tryz.func143.trans (congrArg some (by kernel_rfl))
  f49:=⟨Tryz.f144.name,by decide,Tryz.func144.trans (congrArg some (by kernel_rfl))⟩
  f50:=⟨Tryz.f145.name,by decide,Tryz.func145.trans (congrArg some (by kernel_rfl))⟩
  f57:=⟨Tryz.f147.name,by decide,Tryz.func147.trans (congrArg some (by kernel_rfl))⟩
  t0:=Tryz.underlying0
  a0:=Tryz.isAgg0
  z0:=Tryz.sizeOf0
  v0:=Tryz.zeroValue0
  t3:=Tryz.underlying3
  a3:=Tryz.isAgg3
  z3:=Tryz.sizeOf3
  v3:=Tryz.zeroValue3
  t4:=Tryz.underlying4
  a4:=Tryz.isAgg4
  z4:=Tryz.sizeOf4
  v4:=Tryz.zeroValue4
  t5:=Tryz.underlying5
  a5:=Tryz.isAgg5
  z5:=Tryz.sizeOf5
  v5:=Tryz.zeroValue5
  t9:=Tryz.underlying9
  a9:=Tryz.isAgg9
  z9:=Tryz.sizeOf9
  v9:=Tryz.zeroValue9
  t22:=Tryz.underlying42
  a22:=Tryz.isAgg42
  z22:=Tryz.sizeOf42
  v22:=Tryz.zeroValue42
  a24:=Tryz.isAgg9
  z24:=Tryz.sizeOf9
  t25:=Tryz.underlying132
  a25:=Tryz.isAgg132
  z25:=Tryz.sizeOf132
  v25:=Tryz.zeroValue132
  t39:=Tryz.underlying142
  a39:=Tryz.isAgg142
  z39:=Tryz.sizeOf142
  v39:=Tryz.zeroValue142
  t45:=Tryz.underlying184
  a45:=Tryz.isAgg184
  z45:=Tryz.sizeOf184
  v45:=Tryz.zeroValue184
  t46:=Tryz.underlying185
  a46:=Tryz.isAgg185
  z46:=Tryz.sizeOf185
  v46:=Tryz.zeroValue185
  t50:=Tryz.underlying136
  a50:=Tryz.isAgg136
  z50:=Tryz.sizeOf136
  v50:=Tryz.zeroValue136
  t53:=Tryz.underlying143
  a53:=Tryz.isAgg143
  z53:=Tryz.sizeOf143
  v53:=Tryz.zeroValue143
  t55:=Tryz.underlying147
  a55:=Tryz.isAgg147
  z55:=Tryz.sizeOf147
  v55:=Tryz.zeroValue147
  t66:=Tryz.underlying195
  a66:=Tryz.isAgg195
  z66:=Tryz.sizeOf195
  v66:=Tryz.zeroValue195
  t70:=Tryz.underlying199
  a70:=Tryz.isAgg199
  z70:=Tryz.sizeOf199
  v70:=Tryz.zeroValue199
  t76:=Tryz.underlying201
  a76:=Tryz.isAgg201
  z76:=Tryz.sizeOf201
  v76:=Tryz.zeroValue201
  t77:=Tryz.underlying202
  a77:=Tryz.isAgg202
  z77:=Tryz.sizeOf202
  v77:=Tryz.zeroValue202 }
def Tryz.wG :Go.Shelf.Ren :=⟨fun|106=>74|213=>111|265=>133|n=>n,fun|9=>9|3=>3|n=>n,fun|n=>n⟩
theorem Tryz.cmpL :Go.Proofs.Lays.n106 Tryz.prog Tryz.wG :={
  mixed:=by kernel_rfl
  f106:=Tryz.func74.trans (congrArg some (by kernel_rfl))
  f213:=Tryz.func111.trans (congrArg some (by kernel_rfl))
  f265:=Tryz.func133.trans (congrArg some (by kernel_rfl))
  t3:=Tryz.underlying3
  a3:=Tryz.isAgg3
  z3:=Tryz.sizeOf3
  v3:=Tryz.zeroValue3
  t9:=Tryz.underlying9
  a9:=Tryz.isAgg9
  z9:=Tryz.sizeOf9
  v9:=Tryz.zeroValue9 }
end Go.Proofs
end
