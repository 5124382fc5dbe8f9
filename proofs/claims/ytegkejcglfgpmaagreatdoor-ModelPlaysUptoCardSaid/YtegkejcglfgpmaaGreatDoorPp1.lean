/- The walks and the plain laws, part 1: Lane, ShaMath, HashEq, ShaA, ShaB, ShaC, ShaD. Conditions: those that each theorem names. -/
import Derived.Test.YtegkejcglfgpmaaGreatDoorCards
import Derived.Test.YtegkejcglfgpmaaGreatDoorTie
import Derived.Orders
import Derived.Below
import Derived.KernelRfl
import Derived.Laws.AppendOwn
import Derived.LoopN
import Derived.Laws.Cells
import Derived.Test.YtegkejcglfgpmaaGreatDoorRows
import Derived.WalkKit
import Derived.ProofKit
import Derived.OpenShut
import Derived.Deep.DeepHandedRow
import Derived.Deep.Slices
import Derived.Lib.LaidTab
import Derived.Carry
import Derived.Shelf.SlSortCmp.NoneTotal
import Derived.Shelf.Small.Strs
import Derived.Test.YtegkejcglfgpmaaGreatDoorProg
import Derived.Laws.IdiomRangeMap
import Derived.Maps.RangeRun
import Derived.Lib.Bytealg
import Derived.Laws.BytesString
import Derived.Lib.AppendStr
import Derived.ChangeShapes
import Derived.Lib.ConvBytes
section
namespace Go.Lane
open Go
abbrev Heap:=Array Obj
structure Same(w w':World):Prop where
  os:w'.os =w.os
  tape:w'.tape =w.tape
  output:w'.output =w.output
theorem Same.refl(w:World):Same w w:=⟨rfl,rfl,rfl⟩
theorem Same.trans{a b c:World}(h:Same a b)(k:Same b c):Same a c:=⟨k.os.trans h.os,k.tape.trans h.tape,k.output.trans h.output⟩
def Sat(P:Program)(f:FuncId)(args:Array Value)(h:Heap)(R:Value→Heap→Prop):Prop:=
  ∀w:World,w.heap =h→Calls P f args w fun e w'=>∃v,e= .returned v∧Same w w'∧R v w'.heap
theorem Sat.mono{P:Program}{f:FuncId}{args:Array Value}{h:Heap}{R R':Value→Heap→Prop}(s:Sat P f args h R)(hr:∀v h',R v h'→R' v h'):Sat P f args h R':=
  fun w hw=>(s w hw).mono fun _ _ ⟨v,e,sm,r⟩=>⟨v,e,sm,hr _ _ r⟩
def lk : List (Nat × Value) → Nat → Value → Value
  |[],_,d=>d
  | (k, v) :: r, i, d => match Nat.beq k i with
    |true=>v
    |false=>lk r i d
structure Fr(a:Act)(n:Nat)(L:List (Nat×Value)):Prop where
  defers:a.defers =[]
  size:a.tmps.size =n
  get:∀t,a.tmps.getD t undef=lk L t (a.tmps.getD t undef)
def ev(base:Nat→Value):Operand→Value
  | .tmp t=>base t
  | .const v=>v
  | .global g=> .pointer (some ⟨g,0,none⟩)
  | .func f=> .func (.func f) #[] #[]
def dst(ops:Array Oper)(i:Nat):Option Tmp:=(ops[i]?).bind (·.dst)
def lastP (p : Nat → Bool) : Nat → Option Nat
  |0=>none
  | k + 1 => match p k with
    |true=>some k
    |false=>lastP p k
theorem lastP_some{p:Nat→Bool}:∀{k i:Nat},lastP p k=some i→i<k∧p i=true∧∀j,i<j→j<k→p j=false
  |0,_,h=>by simp[lastP] at h
  | k + 1, i, h => by
    unfold lastP at h
    split at h
    · rename_i hp
      obtain rfl:k=i:=by simpa using h
      exact⟨by omega,hp,fun j h1 h2=>by omega⟩
    · rename_i hp
      obtain⟨h1,h2,h3⟩:=lastP_some h
      refine⟨by omega,h2,fun j h4 h5=> ?_⟩
      by_cases e:j=k
      · subst e;exact hp
      · exact h3 j h4 (by omega)
theorem lastP_none{p:Nat→Bool}:∀{k:Nat},lastP p k=none→∀j,j<k→p j=false
  |0,_,j,hj=>by omega
  | k + 1, h, j, hj => by
    unfold lastP at h
    split at h
    · simp at h
    · rename_i hp
      by_cases e:j=k
      · subst e;exact hp
      · exact lastP_none h j (by omega)
theorem lastP_eq_some{p:Nat→Bool}{k i:Nat}(h1:i<k)(h2:p i=true)(h3:∀j,i<j→j<k→p j=false):lastP p k=some i:=by
  cases h:lastP p k with
  |none=>have:=lastP_none h i h1;simp[h2] at this
  | some j =>
    obtain⟨a,b,c⟩:=lastP_some h
    rcases Nat.lt_trichotomy i j with hl|he|hl
    · have:=h3 j hl a;simp[b] at this
    · rw[he]
    · have:=c i hl h1;simp[h2] at this
theorem lastP_eq_none{p:Nat→Bool}{k:Nat}(h:∀j,j<k→p j=false):lastP p k=none:=by
  cases e:lastP p k with
  |none=>rfl
  |some j=>obtain⟨a,b,_⟩:=lastP_some e;have:=h j a;simp[b] at this
abbrev Vals:=Nat→Value
def vset(vals:Vals)(i:Nat)(v:Value):Vals:=fun k=>match Nat.beq k i with|true=>v|false=>vals k
theorem vset_same(vals:Vals)(i:Nat)(v:Value):vset vals i v i=v:=by simp[vset]
theorem vset_ne{vals:Vals}{i k:Nat}{v:Value}(h:k≠i):vset vals i v k=vals k:=by
  have:Nat.beq k i=false:=by
    cases e:Nat.beq k i with
    |false=>rfl
    |true=>exact absurd (Nat.eq_of_beq_eq_true e) h
  simp[vset,this]
def slotE(ops:Array Oper)(base:Nat→Value)(vals:Vals)(j t:Nat):Value:=
  match lastP (fun i=>dst ops i==some t) j with
  |some i=>vals i
  |none=>base t
def slotS(ops:Array Oper)(base:Nat→Value)(vals:Vals)(s:Nat→Bool)(t:Nat):Value:=
  match lastP (fun i=>s i&&dst ops i==some t) ops.size with
  |some i=>vals i
  |none=>base t
def env(ops:Array Oper)(base:Nat→Value)(vals:Vals)(j:Nat):Operand→Value:=ev (slotE ops base vals j)
def wantedE (ops : Array Oper) (e : Operand → Value) (o : Oper) : Bool :=
  match o.guard with
  |none=>true
  | some (g, want) => (match dst ops g with
    |some t=>(match e (.tmp t) with| .bool b=>some b|_=>none)
    |none=>none)==some want
def EffU (P : Program) (e : Operand → Value) (o : Oper) (h : Heap) (R : Value → Heap → Prop) : Prop :=
  ∀ w : World, w.heap = h → match (execOp e o).run P w with
    | .ok (.value v) w'=>Same w w'∧R v w'.heap
    | .ok .skip w'=>Same w w'∧R undef w'.heap
    | .ok (.enter f args) w'=>Same w w'∧Sat P f args w'.heap R
    |_=>False
def CalmU(P:Program)(e:Operand→Value)(o:Oper)(h:Heap)(v:Value):Prop:=EffU P e o h fun v' h'=>v'=v∧h'=h
def Good (P : Program) (ops : Array Oper) (base : Nat → Value) (vals : Vals) (h : Heap) (j : Nat) : Prop :=
  ∃ o, ops[j]? = some o ∧ ((wantedE ops (env ops base vals j) o = true ∧ CalmU P (env ops base vals j) o h (vals j)) ∨
    (wantedE ops (env ops base vals j) o=false∧vals j=undef))
def anc(A:List Nat)(j:Nat):Nat:=A.getD j 0
def edgesOk(A:List Nat)(j:Nat)(o:Oper):Bool:=
  let es:=o.after.toList.filter fun e=>Region.binds .any e
  es.all (fun e=>Nat.blt e.on j)&&
  (let u:=es.foldl (fun m e=>m|||2^e.on |||anc A e.on) 0
   anc A j==u)
def pairOk(ops:Array Oper)(A:List Nat)(j:Nat)(oj:Oper):Nat→List Oper→Bool
  |_,[]=>true
  |i,oi::r=>(Nat.ble j i||oi.apart ops oj||(anc A j).testBit i)&&pairOk ops A j oj (i+1) r
def opsOk(ops:Array Oper)(A:List Nat)(n:Nat):Nat→List Oper→Bool
  |_,[]=>true
  |j,o::r=>edgesOk A j o&&pairOk ops A j o 0 ops.toList &&(match o.dst with|some d=>Nat.blt d n|none=>true)&&
      (match o.op with| .select .. =>false|_=>true)&&opsOk ops A n (j+1) r
def regOk(ops:Array Oper)(A:List Nat)(n:Nat):Bool:=opsOk ops A n 0 ops.toList
structure OpsOk(ops:Array Oper)(A:List Nat)(n:Nat)(j:Nat)(o:Oper):Prop where
  edge:∀e∈o.after,Region.binds .any e=true→e.on <j
  up:∀i,(anc A j).testBit i=true→∃e∈o.after,Region.binds .any e=true∧(e.on =i∨(anc A e.on).testBit i=true)
  has:∀e∈o.after,Region.binds .any e=true→(anc A j).testBit e.on =true
  pair:∀i oi,ops[i]? =some oi→i<j→oi.apart ops o=true∨(anc A j).testBit i=true
  dst:∀d,o.dst =some d→d<n
  sel:∀cs b,o.op ≠ .select cs b
theorem foldl_or_bit(A:List Nat)(i:Nat):∀(es:List Edge) (m:Nat),
    (es.foldl (fun m e=>m|||2^e.on |||anc A e.on) m).testBit i=true→m.testBit i=true∨∃e∈es,e.on =i∨(anc A e.on).testBit i=true
  |[],m,h=> .inl h
  | e :: es, m, h => by
    rcases foldl_or_bit A i es _ h with h|⟨e',he,h⟩
    · simp only [Nat.testBit_or, Nat.testBit_two_pow, Bool.or_eq_true, decide_eq_true_eq] at h
      rcases h with(h|h)|h
      · exact .inl h
      · exact .inr ⟨e,List.mem_cons_self, .inl h⟩
      · exact .inr ⟨e,List.mem_cons_self, .inr h⟩
    · exact .inr ⟨e',List.mem_cons_of_mem _ he,h⟩
theorem foldl_or_keeps(A:List Nat)(i:Nat):∀(es:List Edge) (m:Nat),m.testBit i=true→(es.foldl (fun m e=>m|||2^e.on |||anc A e.on) m).testBit i=true
  |[],_,h=>h
  |_::es,_,h=>foldl_or_keeps A i es _ (by simp[Nat.testBit_or,h])
theorem foldl_or_has(A:List Nat):∀(es:List Edge) (m:Nat) (e:Edge),e∈es→(es.foldl (fun m e=>m|||2^e.on |||anc A e.on) m).testBit e.on =true
  | e' :: es, m, e, h => by
    rcases List.mem_cons.1 h with h|h
    · subst h;exact foldl_or_keeps A e.on es _ (by simp[Nat.testBit_or])
    · exact foldl_or_has A es _ e h
theorem edgesOk_spec{A:List Nat}{j:Nat}{o:Oper}(h:edgesOk A j o=true):
    (∀e∈o.after,Region.binds .any e=true→e.on <j)∧
    (∀i,(anc A j).testBit i=true→∃e∈o.after,Region.binds .any e=true∧(e.on =i∨(anc A e.on).testBit i=true))∧
    (∀e∈o.after,Region.binds .any e=true→(anc A j).testBit e.on =true):=by
  simp only[edgesOk,Bool.and_eq_true,beq_iff_eq] at h
  obtain⟨h1,h2⟩:=h
  refine⟨?_, ?_,fun e he hb=>by rw[h2];exact foldl_or_has A _ 0 e (List.mem_filter.2 ⟨by simpa using he,hb⟩)⟩
  · intro e he hb
    have:=List.all_eq_true.1 h1 e (List.mem_filter.2 ⟨by simpa using he,hb⟩)
    simpa using this
  · intro i hi
    have h3:=hi
    rw[h2] at h3
    rcases foldl_or_bit A i _ _ h3 with h3|⟨e,he,h3⟩
    · simp at h3
    · obtain ⟨h4, h5⟩ := List.mem_filter.1 he
      exact⟨e,by simpa using h4,h5,h3⟩
theorem pairOk_spec{ops:Array Oper}{A:List Nat}{j:Nat}{oj:Oper}:∀{l:List Oper} {k:Nat},(∀i,l[i]? =ops[k+i]?)→pairOk ops A j oj k l=true→
    ∀i oi,k≤i→ops[i]? =some oi→i<j→oi.apart ops oj=true∨(anc A j).testBit i=true
  | [], k, hl, _, i, oi, hk, hi, _ => by
    have:=hl (i - k);rw[show k+(i - k)=i by omega,hi] at this;simp at this
  | o :: l, k, hl, h, i, oi, hk, hi, hij => by
    simp only[pairOk,Bool.and_eq_true] at h
    by_cases e:i=k
    · subst e
      have h0:some o=ops[i]? :=by simpa using hl 0
      rw[hi] at h0
      obtain rfl:o=oi:=Option.some.inj h0
      have h1:=h.1
      simp only[Bool.or_eq_true,Nat.ble_eq] at h1
      rcases h1 with(h1|h1)|h1
      · omega
      · exact .inl h1
      · exact .inr h1
    · exact pairOk_spec (l:=l) (k:=k+1) (fun q=>by have:=hl (q+1);simpa[Nat.add_assoc,Nat.add_comm 1 q] using this) h.2 i oi (by omega) hi hij
theorem opsOk_spec{ops:Array Oper}{A:List Nat}{n:Nat}:∀{l:List Oper} {k:Nat},(∀i,l[i]? =ops[k+i]?)→opsOk ops A n k l=true→
    ∀j o,k≤j→ops[j]? =some o→OpsOk ops A n j o
  | [], k, hl, _, i, oi, hk, hi => by
    have:=hl (i - k);rw[show k+(i - k)=i by omega,hi] at this;simp at this
  | o :: l, k, hl, h, j, oj, hk, hj => by
    simp only[opsOk,Bool.and_eq_true] at h
    obtain⟨⟨⟨⟨h1,h2⟩,h3⟩,h4⟩,h5⟩:=h
    by_cases e:j=k
    · subst e
      have h0:some o=ops[j]? :=by simpa using hl 0
      rw[hj] at h0
      obtain rfl:o=oj:=Option.some.inj h0
      obtain⟨e1,e2,e3⟩:=edgesOk_spec h1
      refine⟨e1,e2,e3,fun i oi hi hij=>pairOk_spec (l:=ops.toList) (k:=0) (fun q=>by simp) h2 i oi (by omega) hi hij,fun d hd=> ?_,fun cs b hs=> ?_⟩
      · rw[hd] at h3;simpa using h3
      · rw[hs] at h4;simp at h4
    · exact opsOk_spec (l:=l) (k:=k+1) (fun q=>by have:=hl (q+1);simpa[Nat.add_assoc,Nat.add_comm 1 q] using this) h5 j oj (by omega) hj
theorem regOk_spec{ops:Array Oper}{A:List Nat}{n:Nat}(h:regOk ops A n=true){j:Nat}{o:Oper}(ho:ops[j]? =some o):OpsOk ops A n j o:=
  opsOk_spec (l:=ops.toList) (k:=0) (fun i=>by simp) h j o (by omega) ho
end Go.Lane
namespace Go.Lane
open Go
theorem lastP_ext{p q:Nat→Bool}:∀{k:Nat},(∀i,i<k→p i=q i)→lastP p k=lastP q k
  |0,_=>rfl
  | k + 1, h => by
    unfold lastP
    rw[h k (by omega),lastP_ext (k:=k) fun i hi=>h i (by omega)]
theorem lastP_cut{p:Nat→Bool}{j:Nat}:∀{k:Nat},j≤k→(∀i,j≤i→i<k→p i=false)→lastP p k=lastP p j
  | 0, hj, _ => by obtain rfl : j = 0 := by omega
                   rfl
  | k + 1, hj, h => by
    by_cases e:j=k+1
    · rw[e]
    · conv => lhs; unfold lastP
      rw[h k (by omega) (by omega)]
      exact lastP_cut (k:=k) (by omega) fun i h1 h2=>h i h1 (by omega)
section
variable {P:Program} {ops:Array Oper} {A:List Nat} {n:Nat} {base:Nat→Value}
abbrev Lst(listed:Array Bool)(i:Nat):Bool:=listed.getD i false
def ClosedL(ops:Array Oper)(L:Nat→Bool):Prop:=∀j o,ops[j]? =some o→L j=true→∀e∈o.after,Region.binds .any e=true→L e.on =true
theorem anc_listed(hok:regOk ops A n=true){L:Nat→Bool}(hc:ClosedL ops L):∀(m j:Nat) (o:Oper),j≤m→ops[j]? =some o→
    (∀e∈o.after,Region.binds .any e=true→L e.on =true)→∀i,(anc A j).testBit i=true→L i=true
  | m, j, o, hm, ho, hp, i, hi => by
    obtain⟨e,he,hb,h⟩:=(regOk_spec hok ho).up i hi
    have hlt:=(regOk_spec hok ho).edge e he hb
    rcases h with h|h
    · exact h▸hp e he hb
    · have hj := (Array.getElem?_eq_some_iff.1 ho).1
      obtain⟨oe,hoe⟩:∃oe,ops[e.on]? =some oe:=⟨_,Array.getElem?_eq_getElem (by omega)⟩
      match m,hm with
      |0,hm=>omega
      |m+1,hm=>exact anc_listed hok hc m e.on oe (by omega) hoe (fun e' he' hb'=>hc e.on oe hoe (hp e he hb) e' he' hb') i h
theorem apart_false_of_write_look{x y:Oper}{d:Nat}(hx:x.dst =some d)(hy:d∈y.looksAt ops):x.apart ops y=false:=by
  cases h:x.apart ops y with
  |false=>rfl
  |true=>exact absurd hy ((Oper.apart_spec h).1 d hx)
theorem apart_false_of_look_write{x y:Oper}{d:Nat}(hx:y.dst =some d)(hy:d∈x.looksAt ops):x.apart ops y=false:=by
  cases h:x.apart ops y with
  |false=>rfl
  |true=>exact absurd hy ((Oper.apart_spec h).2.2 d hx)
theorem apart_false_of_write_write{x y:Oper}{d:Nat}(hx:x.dst =some d)(hy:y.dst =some d):x.apart ops y=false:=by
  cases h:x.apart ops y with
  |false=>rfl
  |true=>exact absurd hy ((Oper.apart_spec h).2.1 d hx)
theorem dst_eq{i:Nat}{o:Oper}(ho:ops[i]? =some o):dst ops i=o.dst :=by simp[dst,ho]
theorem op_of_dst{i t:Nat}(h:(dst ops i==some t)=true):∃o,ops[i]? =some o∧o.dst =some t:=by
  simp only[beq_iff_eq] at h
  unfold dst at h
  cases ho:ops[i]? with
  |none=>simp[ho] at h
  |some o=>exact⟨o,rfl,by simpa[ho] using h⟩
theorem slot_ready (hok : regOk ops A n = true) {vals : Vals} {L : Nat → Bool} (hc : ClosedL ops L) {j : Nat} {o : Oper} (ho : ops[j]? = some o) (hn : L j = false)
    (hp:∀e∈o.after,Region.binds .any e=true→L e.on =true) {t:Nat} (ht:t∈o.looksAt ops):slotS ops base vals L t=slotE ops base vals j t:=by
  have hj:=(Array.getElem?_eq_some_iff.1 ho).1
  have hup:=anc_listed hok hc j j o (Nat.le_refl _) ho hp
  have h1:∀i,j≤i→i<ops.size →(L i&&dst ops i==some t)=false:=by
    intro i hi hs
    cases hL:L i with
    |false=>rfl
    | true =>
      cases hd:(dst ops i==some t) with
      |false=>rfl
      | true =>
        exfalso
        obtain⟨oi,hoi,hd'⟩:=op_of_dst hd
        have hne:i≠j:=fun e=>by rw[e,hn] at hL;cases hL
        rcases(regOk_spec hok hoi).pair j o ho (by omega) with h|h
        · rw[apart_false_of_look_write hd' ht] at h;cases h
        · have := anc_listed hok hc i i oi (Nat.le_refl _) hoi (fun e he hb => hc i oi hoi hL e he hb) j h
          rw[hn] at this;cases this
  have h2:∀i,i<j→(L i&&dst ops i==some t)=(dst ops i==some t):=by
    intro i hi
    cases hd:(dst ops i==some t) with
    |false=>simp
    | true =>
      obtain⟨oi,hoi,hd'⟩:=op_of_dst hd
      rcases(regOk_spec hok ho).pair i oi hoi hi with h|h
      · rw[apart_false_of_write_look hd' ht] at h;cases h
      · rw[hup i h];rfl
  unfold slotS slotE
  rw[lastP_cut (p:=fun i=>L i&&dst ops i==some t) (Nat.le_of_lt hj) h1,lastP_ext h2]
structure SimSt(ops:Array Oper)(n:Nat)(base:Nat→Value)(P:Program)(w0:World)(D X Wd:Nat)(vals:Vals)(h:Heap)(listed:Array Bool)(a:Act)(w:World):Prop where
  size:listed.size =ops.size
  sub:∀i,Lst listed i=true→D.testBit i=true
  sup:∀i,i<ops.size →X.testBit i=true→Lst listed i=true
  closed:ClosedL ops (Lst listed)
  defers:a.defers =[]
  tsize:a.tmps.size =n
  frame:∀t,a.tmps.getD t undef=slotS ops base vals (Lst listed) t
  pend:∀j,j<ops.size →D.testBit j=true→Lst listed j=false→(Wd.testBit j=true→Good P ops base vals h j)∧(Wd.testBit j=false→∀h',Good P ops base vals h' j)
  heap:w.heap =h
  same:Same w0 w
def unl(listed:Array Bool):Nat:=listed.countP (fun b=> !b)
def Sim(P:Program)(ops:Array Oper)(A:List Nat)(n:Nat)(base:Nat→Value)(w0:World)(Q:Exit→Act→World→Prop)(D X Wd:Nat)(vals:Vals)(h:Heap):Prop:=
  regOk ops A n=true→ClosedL ops (fun i=>D.testBit i)→∀fuel listed a w,SimSt ops n base P w0 D X Wd vals h listed a w→unl listed≤fuel→wpAny P .any ops Q fuel listed a w
theorem eval_ready(hok:regOk ops A n=true){vals:Vals}{a:Act}{L:Nat→Bool}(hc:ClosedL ops L)(hf:∀t,a.tmps.getD t undef=slotS ops base vals L t){j:Nat}{o:Oper}(ho:ops[j]? =some o)(hn:L j=false)
    (hp:∀e∈o.after,Region.binds .any e=true→L e.on =true):
    execOp a.eval o=execOp (env ops base vals j) o∧Region.wanted o (yielded ops a.tmps)=wantedE ops (env ops base vals j) o:=by
  constructor
  · refine execOp_congr o (regOk_spec hok ho).sel fun x hx => ?_
    cases x with
    | tmp t =>
      show a.tmps.getD t undef=slotE ops base vals j t
      rw[hf t]
      exact slot_ready hok hc ho hn hp (List.mem_append_left _ (List.mem_filterMap.2 ⟨.tmp t,by simpa using hx,rfl⟩))
    |const v=>rfl
    |global g=>rfl
    |func f=>rfl
  · unfold Region.wanted wantedE
    cases hg:o.guard with
    |none=>rfl
    | some gw =>
      obtain⟨g,want⟩:=gw
      simp only
      congr 1
      unfold yielded
      cases hd:(ops[g]?).bind (·.dst) with
      |none=>simp[dst,hd]
      | some t =>
        have h1:=slot_ready (base:=base) (vals:=vals) hok hc ho hn hp (t:=t) (List.mem_append_right _ (by simp[hg,hd]))
        have h2:env ops base vals j (.tmp t)=a.tmps.getD t undef:=by rw[hf t];exact h1.symm
        simp only[dst,hd,h2,Option.bind_some]
        cases ht:a.tmps[t]? with
        |none=>simp[ht,undef]
        |some v=>cases v<;>simp[ht]
theorem Lst_set{listed:Array Bool}{i k:Nat}(hi:i<listed.size):Lst (listed.setIfInBounds i true) k=(Lst listed k||decide (k=i)):=by
  by_cases e:k=i
  · subst e;simp[Lst,hi]
  · simp[Lst,Array.getElem?_setIfInBounds_ne (Ne.symm e),e]
theorem unl_set{listed:Array Bool}{i:Nat}(hi:i<listed.size)(hn:Lst listed i=false):unl (listed.setIfInBounds i true)+1=unl listed:=by
  unfold unl
  have hv:listed[i]=false:=by simpa[Lst,hi] using hn
  have hs:listed.setIfInBounds i true=listed.set i true hi:=by simp[Array.setIfInBounds,hi]
  have hpos:0<listed.countP (fun b=> !b):=Array.countP_pos_iff.2 ⟨listed[i],Array.getElem_mem hi,by simp[hv]⟩
  rw[hs,Array.countP_set hi]
  simp[hv]
  omega
theorem frame_put(hok:regOk ops A n=true){vals:Vals}{a:Act}{L L':Nat→Bool}(hc:ClosedL ops L)(hf:∀t,a.tmps.getD t undef=slotS ops base vals L t)(hts:a.tmps.size =n)
    {j:Nat} {o:Oper} (ho:ops[j]? =some o) (hn:L j=false) (hL:∀k,L' k=(L k||decide (k=j))) (t:Nat):
    (a.put o.dst (vals j)).tmps.getD t undef=slotS ops base vals L' t:=by
  have hj:=(Array.getElem?_eq_some_iff.1 ho).1
  have same:∀t,o.dst ≠some t→slotS ops base vals L' t=slotS ops base vals L t:=by
    intro t ht
    unfold slotS
    rw[lastP_ext (q:=fun i=>L i&&dst ops i==some t)]
    intro i hi
    rw[hL]
    by_cases e:i=j
    · subst e
      have:(dst ops i==some t)=false:=by rw[dst_eq ho];simp[ht]
      simp[this]
    · simp[e]
  cases hd:o.dst with
  |none=>rw[same t (by simp[hd]), ←hf t];simp[Act.put]
  | some d =>
    have hdn:=(regOk_spec hok ho).dst d hd
    by_cases e:t=d
    · subst e
      have hl : lastP (fun i => L' i && dst ops i == some t) ops.size = some j := by
        refine lastP_eq_some hj ?_ ?_
        · rw[hL,dst_eq ho,hd];simp
        · intro i hi hs
          rw[hL]
          cases hLi:L i with
          | false => have : i ≠ j := by omega
                     simp[this]
          | true =>
            cases hdi:(dst ops i==some t) with
            |false=>simp
            | true =>
              exfalso
              obtain⟨oi,hoi,hd'⟩:=op_of_dst hdi
              rcases(regOk_spec hok hoi).pair j o ho hi with h|h
              · rw[apart_false_of_write_write hd hd'] at h;cases h
              · have := anc_listed hok hc i i oi (Nat.le_refl _) hoi (fun e he hb => hc i oi hoi hLi e he hb) j h
                rw[hn] at this;cases this
      unfold slotS
      rw[hl]
      simp[Act.put,hts,hdn]
    · rw [same t (by rw [hd]; simpa using fun h => e h.symm), ← hf t]
      simp[Act.put,Array.getElem?_setIfInBounds_ne (fun h=>e h.symm :d≠t)]
end
end Go.Lane
namespace Go.Lane
open Go
section
variable {P:Program} {ops:Array Oper} {A:List Nat} {n:Nat} {base:Nat→Value} {w0:World} {Q:Exit→Act→World→Prop} {D X Wd:Nat} {vals:Vals} {h:Heap}
theorem slotE_vset_self(vals:Vals)(i:Nat)(v:Value):slotE ops base (vset vals i v) i=slotE ops base vals i:=by
  funext t
  unfold slotE
  cases e:lastP (fun k=>dst ops k==some t) i with
  |none=>rfl
  |some k=>have:=(lastP_some e).1;simp only;exact vset_ne (by omega)
theorem env_vset_self(vals:Vals)(i:Nat)(v:Value):env ops base (vset vals i v) i=env ops base vals i:=by
  unfold env;rw[slotE_vset_self]
theorem slotE_vset_other(hok:regOk ops A n=true){i j:Nat}{v:Value}{o:Oper}(ho:ops[j]? =some o)(hna:(anc A j).testBit i=false){t:Nat}(ht:t∈o.looksAt ops):
    slotE ops base (vset vals i v) j t=slotE ops base vals j t:=by
  unfold slotE
  cases e:lastP (fun k=>dst ops k==some t) j with
  |none=>rfl
  | some k =>
    simp only
    obtain⟨h1,h2,_⟩:=lastP_some e
    refine vset_ne fun hk=> ?_
    subst hk
    obtain⟨ok,hok',hd⟩:=op_of_dst h2
    rcases(regOk_spec hok ho).pair k ok hok' h1 with h|h
    · rw[apart_false_of_write_look hd ht] at h;cases h
    · rw[hna] at h;cases h
theorem EffU_congr{e e':Operand→Value}{o:Oper}{R:Value→Heap→Prop}(he:execOp e o=execOp e' o)(hh:EffU P e o h R):EffU P e' o h R:=by
  unfold EffU at*;rwa [he] at hh
theorem env_looks(hok:regOk ops A n=true){e e':Operand→Value}{j:Nat}{o:Oper}(ho:ops[j]? =some o)(hc:∀v,e (.const v)=e' (.const v))(hg:∀v,e (.global v)=e' (.global v))(hf:∀v,e (.func v)=e' (.func v))
    (ht:∀t,t∈o.looksAt ops→e (.tmp t)=e' (.tmp t)):execOp e o=execOp e' o∧wantedE ops e o=wantedE ops e' o:=by
  constructor
  · refine execOp_congr o (regOk_spec hok ho).sel fun x hx => ?_
    cases x with
    |tmp t=>exact ht t (List.mem_append_left _ (List.mem_filterMap.2 ⟨.tmp t,by simpa using hx,rfl⟩))
    |const v=>exact hc v
    |global g=>exact hg g
    |func f=>exact hf f
  · unfold wantedE
    cases hg:o.guard with
    |none=>rfl
    | some gw =>
      obtain⟨g,want⟩:=gw
      simp only
      cases hd:dst ops g with
      |none=>rfl
      |some t=>simp only;rw[ht t (List.mem_append_right _ (by unfold dst at hd;simp[hg,hd]))]
theorem good_vset(hok:regOk ops A n=true){i j:Nat}{v:Value}(hne:j≠i)(hna:(anc A j).testBit i=false)(hg:Good P ops base vals h j):Good P ops base (vset vals i v) h j:=by
  obtain⟨o,ho,hg⟩:=hg
  obtain⟨e1,e2⟩:=env_looks (e:=env ops base vals j) (e':=env ops base (vset vals i v) j) hok ho (fun _=>rfl) (fun _=>rfl) (fun _=>rfl)
    (fun t ht=>(slotE_vset_other (base:=base) (vals:=vals) (v:=v) hok ho hna ht).symm)
  refine⟨o,ho, ?_⟩
  rw[vset_ne hne, ←e2]
  exact hg.imp (fun⟨a,b⟩=>⟨a,EffU_congr e1 b⟩) id
theorem slotS_vset{L:Nat→Bool}{i:Nat}{v:Value}(hn:L i=false)(t:Nat):slotS ops base (vset vals i v) L t=slotS ops base vals L t:=by
  unfold slotS
  cases e:lastP (fun k=>L k&&dst ops k==some t) ops.size with
  |none=>rfl
  | some k =>
    simp only
    have:=(lastP_some e).2.1
    refine vset_ne fun hk=> ?_
    subst hk
    simp[hn] at this
theorem wpOp_eff{i:Nat}{o:Oper}{a:Act}{w:World}{R:Value→Heap→Prop}{K:Act→World→Prop}{e:Operand→Value}(ho:ops[i]? =some o)(he:execOp a.eval o=execOp e o)
    (hw:Region.wanted o (yielded ops a.tmps)=true) (hh:w.heap =h) (hf:EffU P e o h R) (hK:∀v w',Same w w'→R v w'.heap →K (a.put o.dst v) w'):wpOp P ops Q i K a w:=by
  unfold wpOp
  simp only[ho,hw,if_true]
  refine .inl ?_
  have:=hf w hh
  unfold Oper.wp
  rw[he]
  generalize (execOp e o).run P w=r at this⊢
  cases r with
  |halt x w'=>exact this.elim
  | ok x w' =>
    cases x<;>simp only at this<;>simp only[Oper.upon]<;>first|exact this.elim |skip
    · exact hK _ _ this.1 this.2
    · exact hK _ _ this.1 this.2
    · refine (this.2 w' rfl).mono fun e w'' ⟨v, he, hs, hr⟩ => ?_
      subst he
      exact hK _ _ (this.1.trans hs) hr
theorem wpOp_skip{i:Nat}{o:Oper}{a:Act}{w:World}{K:Act→World→Prop}(ho:ops[i]? =some o)
    (hw:Region.wanted o (yielded ops a.tmps)=false) (hK:K (a.put o.dst undef) w):wpOp P ops Q i K a w:=by
  unfold wpOp
  simp only[ho,hw]
  exact hK
theorem closed_set{listed:Array Bool}{i:Nat}{o:Oper}(hc:ClosedL ops (Lst listed))(hi:i<listed.size)(ho:ops[i]? =some o)(hp:∀e∈o.after,Region.binds .any e=true→Lst listed e.on =true):
    ClosedL ops (Lst (listed.setIfInBounds i true)):=by
  intro j oj hj hl e he hb
  rw[Lst_set hi] at hl⊢
  simp only[Bool.or_eq_true,decide_eq_true_eq] at hl⊢
  rcases hl with hl|hl
  · exact .inl (hc j oj hj hl e he hb)
  · subst hl
    rw[ho] at hj
    obtain rfl:o=oj:=Option.some.inj hj
    exact .inl (hp e he hb)
theorem exec_pending(hok:regOk ops A n=true){listed:Array Bool}{a:Act}{w:World}(st:SimSt ops n base P w0 D X Wd vals h listed a w){i:Nat}(hi:i∈Region.ready .any ops listed)
    (hD:D.testBit i=true) {K:Act→World→Prop} (hK:∀a' w',SimSt ops n base P w0 D X Wd vals h (listed.setIfInBounds i true) a' w'→K a' w'):wpOp P ops Q i K a w:=by
  obtain⟨hun,o,ho,hp⟩:=mem_ready.1 hi
  have hlt:=(Array.getElem?_eq_some_iff.1 ho).1
  have hil:i<listed.size :=by rw[st.size];exact hlt
  have hnl:Lst listed i=false:=by simpa[Lst,hil] using hun
  obtain⟨he,hw⟩:=eval_ready hok st.closed st.frame ho hnl hp
  have hg:Good P ops base vals h i:=by
    obtain⟨h1,h2⟩:=st.pend i hlt hD hnl
    cases hW:Wd.testBit i with
    |true=>exact h1 hW
    |false=>exact h2 hW h
  obtain⟨o',ho',hg⟩:=hg
  obtain rfl:o'=o:=Option.some.inj (ho'.symm.trans ho)
  have next:∀w',Same w w'→w'.heap =h→SimSt ops n base P w0 D X Wd vals h (listed.setIfInBounds i true) (a.put o'.dst (vals i)) w':=fun w' hs hh=>
    { size := by simp [st.size]
      sub:=fun k hk=>by
        rw[Lst_set hil] at hk
        simp only[Bool.or_eq_true,decide_eq_true_eq] at hk
        rcases hk with hk|hk
        · exact st.sub k hk
        · exact hk▸hD
      sup:=fun k hk hx=>by rw[Lst_set hil,st.sup k hk hx];rfl
      closed:=closed_set st.closed hil ho hp
      defers:=by cases hd:o'.dst <;>simp[Act.put,st.defers]
      tsize:=by cases hd:o'.dst <;>simp[Act.put,st.tsize]
      frame:=frame_put hok st.closed st.frame st.tsize ho hnl fun k=>Lst_set hil
      pend:=fun j hj hDj hl=>st.pend j hj hDj (by rw[Lst_set hil] at hl;simp only[Bool.or_eq_false_iff] at hl;exact hl.1)
      heap:=hh
      same:=st.same.trans hs}
  rcases hg with⟨hw',hc⟩|⟨hw',hv⟩
  · refine wpOp_eff ho he (hw.trans hw') st.heap hc fun v w' hs hr => ?_
    rw[hr.1]
    exact hK _ _ (next w' hs hr.2)
  · refine wpOp_skip ho (hw.trans hw') ?_
    rw[←hv]
    exact hK _ _ (next w (Same.refl w) st.heap)
theorem ready_nil_all (hok : regOk ops A n = true) {listed : Array Bool} (hs : listed.size = ops.size) (hr : Region.ready .any ops listed = []) : ∀ (i : Nat), i < ops.size → Lst listed i = true := by
  intro i
  induction i using Nat.strongRecOn with
  | _ i ih =>
    intro hi
    cases hl:Lst listed i with
    |true=>rfl
    | false =>
      exfalso
      have ho:ops[i]? =some ops[i]:=Array.getElem?_eq_getElem hi
      have:i∈Region.ready .any ops listed:=mem_ready.2 ⟨by simp only[Lst] at hl;simpa[hs,hi] using hl,_,ho,fun e he hb=>by
        have h1:=(regOk_spec hok ho).edge e he hb
        exact ih e.on h1 (by omega)⟩
      rw[hr] at this
      cases this
theorem unl_zero{listed:Array Bool}(h:unl listed≤0)(i:Nat)(hi:i<listed.size):Lst listed i=true:=by
  unfold unl at h
  have h0:listed.countP (fun b=> !b)=0:=by omega
  have:=Array.countP_eq_zero.1 h0 listed[i] (Array.getElem_mem hi)
  simpa[Lst,hi] using this
theorem ready_unlisted{listed:Array Bool}{i:Nat}(hs:listed.size =ops.size)(hi:i∈Region.ready .any ops listed):i<ops.size ∧Lst listed i=false:=by
  obtain⟨hun,o,ho,_⟩:=mem_ready.1 hi
  have hlt:=(Array.getElem?_eq_some_iff.1 ho).1
  exact⟨hlt,by simpa[Lst,hs,hlt] using hun⟩
theorem Sim.done(hD:∀i,i<ops.size →D.testBit i=true)
    (hQ:∀a w,a.defers =[]→a.tmps.size =n→(∀t,a.tmps.getD t undef=slotS ops base vals (fun _=>true) t)→Same w0 w→w.heap =h→Q .normal a w):
    Sim P ops A n base w0 Q D X Wd vals h:=by
  intro hok _ fuel
  have fin:∀listed a w,SimSt ops n base P w0 D X Wd vals h listed a w→(∀i,i<ops.size →Lst listed i=true)→Q .normal a w:=by
    intro listed a w st hall
    refine hQ a w st.defers st.tsize (fun t=> ?_) st.same st.heap
    rw[st.frame t]
    unfold slotS
    rw[lastP_ext (q:=fun i=>true&&dst ops i==some t)]
    intro i hi
    rw[hall i hi]
  induction fuel with
  | zero =>
    intro listed a w st hu
    have hall:=fun i (hi:i<ops.size)=>unl_zero hu i (by rw[st.size];exact hi)
    refine⟨List.eq_nil_iff_forall_not_mem.2 fun i hi=> ?_,fin listed a w st hall⟩
    obtain⟨h1,h2⟩:=ready_unlisted st.size hi
    rw[hall i h1] at h2;cases h2
  | succ fuel ih =>
    intro listed a w st hu
    refine⟨fun hr=>fin listed a w st (ready_nil_all hok st.size hr),fun i hi=> ?_⟩
    obtain⟨h1,h2⟩:=ready_unlisted st.size hi
    refine exec_pending hok st hi (hD i h1) fun a' w' st'=>ih _ a' w' st' ?_
    have:=unl_set (i:=i) (by rw[st.size];exact h1) h2
    omega
def canReg(ops:Array Oper)(A:List Nat)(D i:Nat):Bool:=Nat.blt i ops.size && !(D.testBit i)&&((anc A i|||D)==D)
theorem canReg_spec(hok:regOk ops A n=true){i:Nat}(hc:canReg ops A D i=true):∃o,ops[i]? =some o∧D.testBit i=false∧∀e∈o.after,Region.binds .any e=true→D.testBit e.on =true:=by
  simp only[canReg,Bool.and_eq_true,beq_iff_eq,Bool.not_eq_true'] at hc
  obtain⟨⟨h1,h2⟩,h3⟩:=hc
  have hi:i<ops.size :=by simpa using h1
  refine⟨_,Array.getElem?_eq_getElem hi,h2,fun e he hb=> ?_⟩
  have:=(regOk_spec hok (Array.getElem?_eq_getElem hi)).has e he hb
  rw[←h3,Nat.testBit_or,this];rfl
theorem closedD_or(hok:regOk ops A n=true){i:Nat}(hcl:ClosedL ops (fun k=>D.testBit k))(hc:canReg ops A D i=true):ClosedL ops (fun k=>(D|||2^i).testBit k):=by
  obtain⟨o,ho,_,hp⟩:=canReg_spec hok hc
  intro j oj hj hl e he hb
  simp only[Nat.testBit_or,Bool.or_eq_true,Nat.testBit_two_pow,decide_eq_true_eq] at hl⊢
  rcases hl with hl|hl
  · exact .inl (hcl j oj hj hl e he hb)
  · subst hl
    obtain rfl:o=oj:=Option.some.inj (ho.symm.trans hj)
    exact .inl (hp e he hb)
theorem anc_not(hok:regOk ops A n=true){i j:Nat}(hcl:ClosedL ops (fun k=>D.testBit k))(hj:j<ops.size)(hDj:D.testBit j=true)(hDi:D.testBit i=false):(anc A j).testBit i=false:=by
  cases h:(anc A j).testBit i with
  |false=>rfl
  | true =>
    have ho:ops[j]? =some ops[j]:=Array.getElem?_eq_getElem hj
    have:=anc_listed hok hcl j j ops[j] (Nat.le_refl _) ho (fun e he hb=>hcl j _ ho hDj e he hb) i h
    simp[hDi] at this
theorem reg_aux(hok:regOk ops A n=true)(hcl:ClosedL ops (fun k=>D.testBit k)){i:Nat}{v:Value}{Wd':Nat}(hc:canReg ops A D i=true)
    (hWd:∀k,k≠i→Wd'.testBit k=Wd.testBit k) (hg:(Wd'.testBit i=true→Good P ops base (vset vals i v) h i)∧(Wd'.testBit i=false→∀h',Good P ops base (vset vals i v) h' i))
    {listed:Array Bool} {a:Act} {w:World} (st:SimSt ops n base P w0 D X Wd vals h listed a w):SimSt ops n base P w0 (D|||2^i) X Wd' (vset vals i v) h listed a w:=by
  obtain⟨o,ho,hDi,hp⟩:=canReg_spec hok hc
  have hnl:Lst listed i=false:=by
    cases hl:Lst listed i with
    |false=>rfl
    |true=>rw[st.sub i hl] at hDi;cases hDi
  exact
    { size := st.size
      sub:=fun k hk=>by rw[Nat.testBit_or,st.sub k hk];rfl
      sup:=st.sup
      closed:=st.closed
      defers:=st.defers
      tsize:=st.tsize
      frame:=fun t=>by rw[slotS_vset hnl];exact st.frame t
      pend:=fun j hj hDj hl=>by
        by_cases e:j=i
        · subst e;exact hg
        · have hDj' : D.testBit j = true := by
            simp only[Nat.testBit_or,Bool.or_eq_true,Nat.testBit_two_pow,decide_eq_true_eq] at hDj
            rcases hDj with h|h
            · exact h
            · exact absurd h.symm e
          obtain⟨h1,h2⟩:=st.pend j hj hDj' hl
          have hna:=anc_not (i:=i) hok hcl hj hDj' hDi
          rw[hWd j e]
          exact⟨fun hw=>good_vset hok e hna (h1 hw),fun hw h'=>good_vset hok e hna (h2 hw h')⟩
      heap:=st.heap
      same:=st.same }
theorem Sim.reg{i:Nat}{v:Value}(hc:canReg ops A D i=true)(hW:Wd.testBit i=false)(hg:∀h',Good P ops base (vset vals i v) h' i)
    (hs:Sim P ops A n base w0 Q (D|||2^i) X Wd (vset vals i v) h):Sim P ops A n base w0 Q D X Wd vals h:=by
  intro hok hcl fuel listed a w st hu
  exact hs hok (closedD_or hok hcl hc) fuel listed a w (reg_aux hok hcl hc (fun _ _=>rfl) ⟨fun h=>(by rw[hW] at h;cases h),fun _=>hg⟩ st) hu
theorem Sim.regW{i:Nat}{v:Value}(hc:canReg ops A D i=true)(hg:Good P ops base (vset vals i v) h i)
    (hs:Sim P ops A n base w0 Q (D|||2^i) X (Wd|||2^i) (vset vals i v) h):Sim P ops A n base w0 Q D X Wd vals h:=by
  intro hok hcl fuel listed a w st hu
  refine hs hok (closedD_or hok hcl hc) fuel listed a w (reg_aux hok hcl hc (fun k hk=> ?_) ⟨fun _=>hg,fun h=> ?_⟩ st) hu
  · simp[Nat.testBit_or,Ne.symm hk]
  · simp[Nat.testBit_or] at h
def nexts(ops:Array Oper)(A:List Nat)(D:Nat):List Nat:=(List.range ops.size).filter fun i=>canReg ops A D i
theorem Sim.eff (hex : ∃ i, i ∈ nexts ops A D) (hs : ∀ i, i ∈ nexts ops A D → ∃ o R, ops[i]? = some o ∧ wantedE ops (env ops base vals i) o = true ∧ EffU P (env ops base vals i) o h R ∧
      ∀ v h', R v h' → (∀ j, j < ops.size → (Wd &&& ((X ||| anc A i) ^^^ (Wd ||| X ||| anc A i))).testBit j = true → D.testBit j = true → Good P ops base vals h' j) ∧
        Sim P ops A n base w0 Q (D|||2^i) (X|||anc A i|||2^i) Wd (vset vals i v) h'):Sim P ops A n base w0 Q D X Wd vals h:=by
  intro hok hcl fuel
  induction fuel with
  | zero =>
    intro listed a w st hu
    exfalso
    obtain⟨i,hi⟩:=hex
    obtain⟨o,ho,hDi,_⟩:=canReg_spec hok (List.mem_filter.1 hi).2
    have:=unl_zero hu i (by rw[st.size];exact(Array.getElem?_eq_some_iff.1 ho).1)
    rw[st.sub i this] at hDi;cases hDi
  | succ fuel ih =>
    intro listed a w st hu
    refine⟨fun hr=> ?_,fun i hi=> ?_⟩
    · exfalso
      obtain⟨i,hi⟩:=hex
      obtain⟨o,ho,hDi,_⟩:=canReg_spec hok (List.mem_filter.1 hi).2
      have:=ready_nil_all hok st.size hr i (Array.getElem?_eq_some_iff.1 ho).1
      rw[st.sub i this] at hDi;cases hDi
    · obtain ⟨h1, h2⟩ := ready_unlisted st.size hi
      have hil:i<listed.size :=by rw[st.size];exact h1
      have hun:=unl_set hil h2
      cases hDi:D.testBit i with
      |true=>exact exec_pending hok st hi hDi fun a' w' st'=>ih _ a' w' st' (by omega)
      | false =>
        obtain⟨_,o,ho,hp⟩:=mem_ready.1 hi
        have hanc:=anc_listed hok st.closed i i o (Nat.le_refl _) ho hp
        have hcan:canReg ops A D i=true:=by
          have hb:Nat.blt i ops.size =true:=by simpa using h1
          simp only[canReg,hb,hDi,Bool.not_false,Bool.true_and,beq_iff_eq]
          apply Nat.eq_of_testBit_eq
          intro k
          rw[Nat.testBit_or]
          cases hk:(anc A i).testBit k with
          |false=>simp
          |true=>rw[st.sub k (hanc k hk)];rfl
        obtain⟨o',R,ho',hw,hf,hR⟩:=hs i (List.mem_filter.2 ⟨List.mem_range.2 h1,hcan⟩)
        obtain rfl:o'=o:=Option.some.inj (ho'.symm.trans ho)
        obtain⟨he,hwe⟩:=eval_ready hok st.closed st.frame ho h2 hp
        refine wpOp_eff ho he (hwe.trans hw) st.heap hf fun v w' hsm hr=> ?_
        obtain⟨hpend,hsim⟩:=hR v w'.heap hr
        refine hsim hok (closedD_or hok hcl hcan) fuel _ _ w' ?_ (by omega)
        exact
          { size := by simp [st.size]
            sub:=fun k hk=>by
              rw[Lst_set hil] at hk
              simp only[Bool.or_eq_true,decide_eq_true_eq] at hk
              rw[Nat.testBit_or,Nat.testBit_two_pow]
              rcases hk with hk|hk
              · rw[st.sub k hk];rfl
              · simp[hk]
            sup:=fun k hk hx=>by
              rw[Lst_set hil]
              simp only[Nat.testBit_or,Nat.testBit_two_pow,Bool.or_eq_true,decide_eq_true_eq] at hx⊢
              rcases hx with(hx|hx)|hx
              · exact .inl (st.sup k hk hx)
              · exact .inl (hanc k hx)
              · exact .inr hx.symm
            closed:=closed_set st.closed hil ho hp
            defers:=by cases hd:o'.dst <;>simp[Act.put,st.defers]
            tsize:=by cases hd:o'.dst <;>simp[Act.put,st.tsize]
            frame:=fun t=>by
              have hv:v=vset vals i v i:=(vset_same vals i v).symm
              conv=>lhs;rw[hv]
              exact frame_put hok st.closed (fun t=>by rw[slotS_vset h2];exact st.frame t) st.tsize ho h2 (fun k=>Lst_set hil) t
            pend:=fun j hj hDj hl=>by
              rw[Lst_set hil] at hl
              simp only[Bool.or_eq_false_iff,decide_eq_false_iff_not] at hl
              have hDj':D.testBit j=true:=by
                simp only[Nat.testBit_or,Bool.or_eq_true,Nat.testBit_two_pow,decide_eq_true_eq] at hDj
                rcases hDj with h|h
                · exact h
                · exact absurd h.symm hl.2
              have hna:=anc_not (i:=i) hok hcl hj hDj' hDi
              obtain⟨q1,q2⟩:=st.pend j hj hDj' hl.1
              refine⟨fun hW=>good_vset hok hl.2 hna (hpend j hj ?_ hDj'),fun hW h'=>good_vset hok hl.2 hna (q2 hW h')⟩
              have hX:X.testBit j=false:=by
                cases hx:X.testBit j with
                |false=>rfl
                |true=>rw[st.sup j hj hx] at hl;cases hl.1
              have hA:(anc A i).testBit j=false:=by
                cases hx:(anc A i).testBit j with
                |false=>rfl
                |true=>rw[hanc j hx] at hl;cases hl.1
              simp[Nat.testBit_and,Nat.testBit_or,Nat.testBit_xor,hW,hX,hA]
            heap:=rfl
            same:=st.same.trans hsm}
end
end Go.Lane
namespace Go.Lane
open Go
def reck(P:Program){α:Type}:Sem α→Option α
  | .pure a=>some a
  | .program k=>reck P (k P)
  | .mark _ k=>reck P k
  |_=>none
theorem reck_run{P:Program}{α:Type}:∀{s:Sem α} {a:α},reck P s=some a→∀w,s.run P w= .ok a w
  | .pure a,b,h,w=>by simp only[reck,Option.some.injEq] at h;subst h;rfl
  | .program k,b,h,w=>reck_run (s:=k P) h w
  | .mark _ k,b,h,w=>reck_run (s:=k) h w
def reads (P : Program) {α : Type} : Sem α → List Value → Option (α × List Addr)
  | .pure a,[]=>some (a,[])
  | .program k,l=>reads P (k P) l
  | .mark _ k,l=>reads P k l
  | .load _ ad k, v :: l => match reads P (k v) l with
    |some (a,r)=>some (a,ad::r)
    |none=>none
  |_,_=>none
def hcell(h:Heap)(a:Addr):Option Value:=
  match h[a.block]? with
  |some (.cells c _ _)=>if a.spot.isSome then none else c[a.off]?
  |_=>none
theorem hcell_eq{w:World}{h:Heap}(e:w.heap =h)(a:Addr):w.cell? a=hcell h a:=by subst e;rfl
def Cells(h:Heap):List Addr→List Value→Prop
  |[],[]=>True
  |a::r,v::l=>hcell h a=some v∧Cells h r l
  |_,_=>False
section
variable {P:Program} {ops:Array Oper} {A:List Nat} {n:Nat} {base:Nat→Value} {D X Wd:Nat} {vals:Vals} {h:Heap} {K:Exit→Act→Heap→Prop}
def nextVal:Option Next→Option Value
  |some (.value v)=>some v
  |some .skip =>some undef
  |_=>none
def pureVal (P : Program) (ops : Array Oper) (base : Nat → Value) (vals : Vals) (i : Nat) : Option Value :=
  match ops[i]? with
  | some o => match wantedE ops (env ops base vals i) o with
    |false=>some undef
    |true=>nextVal (reck P (execOp (env ops base vals i) o))
  |none=>none
theorem eff_of_nextVal{e:Operand→Value}{o:Oper}{v:Value}(hv:nextVal (reck P (execOp e o))=some v)(h:Heap):CalmU P e o h v:=by
  intro w hw
  cases hc:reck P (execOp e o) with
  |none=>simp[hc,nextVal] at hv
  | some x =>
    rw[reck_run hc w]
    rw[hc] at hv
    cases x<;>simp only[nextVal,Option.some.injEq] at hv<;>first| (cases hv;done)|skip
    · exact⟨Same.refl w,hv,hw⟩
    · exact⟨Same.refl w,hv,hw⟩
theorem good_of_pureVal{i:Nat}{v:Value}(hv:pureVal P ops base vals i=some v)(h':Heap):Good P ops base (vset vals i v) h' i:=by
  unfold pureVal at hv
  cases ho:ops[i]? with
  |none=>simp[ho] at hv
  | some o =>
    refine⟨o,ho, ?_⟩
    rw[env_vset_self,vset_same]
    simp only[ho] at hv
    cases hw:wantedE ops (env ops base vals i) o with
    |false=>simp only[hw,Option.some.injEq] at hv;exact .inr ⟨rfl,hv.symm⟩
    |true=>simp only[hw] at hv;exact .inl ⟨rfl,eff_of_nextVal hv h'⟩
structure Does(P:Program)(ops:Array Oper)(base:Nat→Value)(vals:Vals)(i:Nat)(h:Heap)(R:Value→Heap→Prop):Prop where
  does:∃o,ops[i]? =some o∧wantedE ops (env ops base vals i) o=true∧EffU P (env ops base vals i) o h R
abbrev Calm(P:Program)(ops:Array Oper)(base:Nat→Value)(vals:Vals)(i:Nat)(h:Heap)(v:Value):Prop:=Does P ops base vals i h fun v' h'=>v'=v∧h'=h
theorem Calm.good{i:Nat}{v:Value}(hc:Calm P ops base vals i h v):Good P ops base (vset vals i v) h i:=by
  obtain⟨o,ho,hw,hf⟩:=hc.does
  refine⟨o,ho, .inl ?_⟩
  rw[env_vset_self,vset_same]
  exact⟨hw,hf⟩
def SimK(P:Program)(ops:Array Oper)(A:List Nat)(n:Nat)(base:Nat→Value)(K:Exit→Act→Heap→Prop)(D X Wd:Nat)(vals:Vals)(h:Heap):Prop:=
  ∀w0,Sim P ops A n base w0 (fun e a w=>Same w0 w∧K e a w.heap) D X Wd vals h
def vsets:Vals→List Nat→List Value→Vals
  |vals,i::is,v::vs=>vsets (vset vals i v) is vs
  |vals,_,_=>vals
def pureVals (P : Program) (ops : Array Oper) (A : List Nat) (base : Nat → Value) : List Nat → List Value → Nat → Vals → Nat → Option (List (Option Value) × Nat)
  |[],[],D,_,_=>some ([],D)
  | i :: is, v :: vs, D, vals, Wd => match canReg ops A D i && !(Wd.testBit i) with
    | true => match pureVals P ops A base is vs (D ||| 2 ^ i) (vset vals i v) Wd with
      |some (r,D')=>some (pureVal P ops base vals i::r,D')
      |none=>none
    |false=>none
  |_,_,_,_,_=>none
theorem SimK.pures{is:List Nat}{vs:List Value}{D':Nat}(hp:pureVals P ops A base is vs D vals Wd=some (vs.map some,D'))
    (hs:SimK P ops A n base K D' X Wd (vsets vals is vs) h):SimK P ops A n base K D X Wd vals h:=by
  induction is generalizing vs D vals with
  | nil =>
    cases vs with
    |nil=>simp only[pureVals,List.map_nil,Option.some.injEq,Prod.mk.injEq,true_and] at hp;subst hp;exact hs
    |cons v vs=>simp[pureVals] at hp
  | cons i is ih =>
    cases vs with
    |nil=>simp[pureVals] at hp
    | cons v vs =>
      simp only[pureVals] at hp
      cases hc:(canReg ops A D i&& !(Wd.testBit i)) with
      |false=>simp[hc] at hp
      | true =>
        simp only[hc] at hp
        cases hr:pureVals P ops A base is vs (D|||2^i) (vset vals i v) Wd with
        |none=>simp[hr] at hp
        | some x =>
          obtain⟨r,D''⟩:=x
          simp only[hr,Option.some.injEq,Prod.mk.injEq,List.map_cons,List.cons.injEq] at hp
          obtain⟨⟨h1,h2⟩,h3⟩:=hp
          subst h2;subst h3
          simp only[Bool.and_eq_true,Bool.not_eq_true'] at hc
          intro w0
          exact Sim.reg hc.1 hc.2 (fun h'=>good_of_pureVal h1 h') (ih hr hs w0)
theorem SimK.pure1{i:Nat}{v v':Value}{D':Nat}(hc:(canReg ops A D i&& !(Wd.testBit i))=true)(hD:D|||2^i=D')(hv:pureVal P ops base vals i=some v')(e:v'=v)
    (hs:SimK P ops A n base K D' X Wd (vset vals i v) h):SimK P ops A n base K D X Wd vals h:=by
  subst e;subst hD
  simp only[Bool.and_eq_true,Bool.not_eq_true'] at hc
  intro w0
  exact Sim.reg hc.1 hc.2 (fun h'=>good_of_pureVal hv h') (hs w0)
theorem SimK.free{i:Nat}{v:Value}{D':Nat}(hc:(canReg ops A D i&& !(Wd.testBit i))=true)(hD:D|||2^i=D')(hv:∀h',Calm P ops base vals i h' v)
    (hs:SimK P ops A n base K D' X Wd (vset vals i v) h):SimK P ops A n base K D X Wd vals h:=by
  subst hD
  simp only[Bool.and_eq_true,Bool.not_eq_true'] at hc
  intro w0
  exact Sim.reg hc.1 hc.2 (fun h'=>(hv h').good) (hs w0)
theorem SimK.look{i:Nat}{v:Value}{D' Wd':Nat}(hc:canReg ops A D i=true)(hD:D|||2^i=D')(hW:Wd|||2^i=Wd')(hv:Calm P ops base vals i h v)
    (hs:SimK P ops A n base K D' X Wd' (vset vals i v) h):SimK P ops A n base K D X Wd vals h:=by
  subst hD;subst hW
  intro w0
  exact Sim.regW hc hv.good (hs w0)
def pendL(ops:Array Oper)(A:List Nat)(D X Wd i:Nat):List Nat:=(List.range ops.size).filter fun j=>(Wd&&&((X|||anc A i)^^^(Wd|||X|||anc A i))).testBit j&&D.testBit j
theorem SimK.eff{i:Nat}{R:Value→Heap→Prop}{D' X':Nat}(hn:nexts ops A D=[i])(hD:D|||2^i=D')(hX:X|||anc A i|||2^i=X')(pend:List Nat)(hp:pendL ops A D X Wd i=pend)(hd:Does P ops base vals i h R)
    (hs:∀v h',R v h'→(∀j∈pend,Good P ops base vals h' j)∧SimK P ops A n base K D' X' Wd (vset vals i v) h'):SimK P ops A n base K D X Wd vals h:=by
  subst hD;subst hX;subst hp
  intro w0
  refine Sim.eff ⟨i,by rw[hn];simp⟩ fun k hk=> ?_
  rw[hn] at hk
  obtain rfl:k=i:=by simpa using hk
  obtain⟨o,ho,hw,hf⟩:=hd.does
  refine⟨o,R,ho,hw,hf,fun v h' hr=> ?_⟩
  obtain⟨h1,h2⟩:=hs v h' hr
  exact⟨fun j hj hb hDj=>h1 j (List.mem_filter.2 ⟨List.mem_range.2 hj,by rw[hb,hDj];rfl⟩),h2 w0⟩
theorem SimK.eff0{i:Nat}{R:Value→Heap→Prop}{D' X':Nat}(hn:nexts ops A D=[i])(hD:D|||2^i=D')(hX:X|||anc A i|||2^i=X')(hp:pendL ops A D X Wd i=[])(hd:Does P ops base vals i h R)
    (hs:∀v h',R v h'→SimK P ops A n base K D' X' Wd (vset vals i v) h'):SimK P ops A n base K D X Wd vals h:=
  SimK.eff hn hD hX [] hp hd fun v h' hr=>⟨fun j hj=>by simp at hj,hs v h' hr⟩
theorem SimK.effs{is:List Nat}(hn:nexts ops A D=is)(hne:is≠[])
    (hs:∀i∈is,∃R,Does P ops base vals i h R∧∀v h',R v h'→(∀j∈pendL ops A D X Wd i,Good P ops base vals h' j)∧SimK P ops A n base K (D|||2^i) (X|||anc A i|||2^i) Wd (vset vals i v) h'):SimK P ops A n base K D X Wd vals h:=by
  subst hn
  intro w0
  refine Sim.eff (List.exists_mem_of_ne_nil _ hne) fun i hi=> ?_
  obtain⟨R,hd,hr⟩:=hs i hi
  obtain⟨o,ho,hw,hf⟩:=hd.does
  refine⟨o,R,ho,hw,hf,fun v h' hr'=> ?_⟩
  obtain⟨h1,h2⟩:=hr v h' hr'
  exact⟨fun j hj hb hDj=>h1 j (List.mem_filter.2 ⟨List.mem_range.2 hj,by rw[hb,hDj];rfl⟩),h2 w0⟩
theorem lk_zip{f g:Nat→Value}(hf:∀t,f t=g t):∀(ts:List Nat) (t:Nat),f t=lk (ts.map fun t=>(t,g t)) t (f t)
  |[],_=>rfl
  | k :: ts, t => by
    simp only[List.map_cons,lk]
    cases e:Nat.beq k t with
    |false=>exact lk_zip hf ts t
    |true=>simp only;rw[hf t,Nat.eq_of_beq_eq_true e]
end
end Go.Lane
namespace Go.Lane
open Go
section
variable {P:Program} {ops:Array Oper} {n:Nat} {base:Nat→Value} {vals:Vals} {h:Heap} {K:Exit→Act→Heap→Prop}
/-! ### regions in the text's order -/
def dstOk(ops:Array Oper)(n:Nat):Bool:=ops.toList.all fun o=>match o.dst with|some d=>Nat.blt d n|none=>true
def SeqW(P:Program)(ops:Array Oper)(n:Nat)(base:Nat→Value)(w0:World)(Q:Exit→Act→World→Prop)(k:Nat)(vals:Vals)(h:Heap):Prop:=
  dstOk ops n=true→∀a w,a.defers =[]→a.tmps.size =n→(∀t,a.tmps.getD t undef=slotE ops base vals k t)→Same w0 w→w.heap =h→wpOps P ops Q (List.range' k (ops.size - k)) a w
def SeqK(P:Program)(ops:Array Oper)(n:Nat)(base:Nat→Value)(K:Exit→Act→Heap→Prop)(k:Nat)(vals:Vals)(h:Heap):Prop:=
  ∀w0,SeqW P ops n base w0 (fun e a w=>Same w0 w∧K e a w.heap) k vals h
theorem slotE_succ{k:Nat}{o:Oper}(ho:ops[k]? =some o)(v:Value)(t:Nat):slotE ops base (vset vals k v) (k+1) t=if o.dst =some t then v else slotE ops base vals k t:=by
  unfold slotE
  conv=>lhs;unfold lastP
  rw[dst_eq ho]
  by_cases e:o.dst =some t
  · simp[e,vset_same]
  · have : (o.dst == some t) = false := by simp [e]
    simp only[this,e,if_false]
    cases hl:lastP (fun i=>dst ops i==some t) k with
    |none=>rfl
    |some i=>have:=(lastP_some hl).1;exact vset_ne (by omega)
theorem eval_seq{a:Act}{k:Nat}(hf:∀t,a.tmps.getD t undef=slotE ops base vals k t):a.eval =env ops base vals k:=by
  funext x
  cases x with
  |tmp t=>exact hf t
  |const v=>rfl
  |global g=>rfl
  |func f=>rfl
theorem wanted_seq{a:Act}{k:Nat}{o:Oper}(hf:∀t,a.tmps.getD t undef=slotE ops base vals k t):Region.wanted o (yielded ops a.tmps)=wantedE ops (env ops base vals k) o:=by
  unfold Region.wanted wantedE
  cases hg:o.guard with
  |none=>rfl
  | some gw =>
    obtain⟨g,want⟩:=gw
    simp only
    congr 1
    unfold yielded
    cases hd:(ops[g]?).bind (·.dst) with
    |none=>simp[dst,hd]
    | some t =>
      have h2:env ops base vals k (.tmp t)=a.tmps.getD t undef:=(hf t).symm
      simp only[dst,hd,h2,Option.bind_some]
      cases ht:a.tmps[t]? with
      |none=>simp[ht,undef]
      |some v=>cases v<;>simp[ht]
theorem seq_next{a:Act}{k:Nat}{o:Oper}(hok:dstOk ops n=true)(ho:ops[k]? =some o)(hts:a.tmps.size =n)(hf:∀t,a.tmps.getD t undef=slotE ops base vals k t)(v:Value)(t:Nat):
    (a.put o.dst v).tmps.getD t undef=slotE ops base (vset vals k v) (k+1) t:=by
  rw[slotE_succ ho]
  cases hd:o.dst with
  |none=>simp[Act.put, ←hf t]
  | some d =>
    have hdn:d<n:=by
      have:=List.all_eq_true.1 hok o (by simpa using Array.mem_of_getElem? ho)
      simpa[hd] using this
    by_cases e:d=t
    · subst e;simp[Act.put,hts,hdn]
    · have : ¬ (some d = some t) := by simpa using e
      rw[if_neg this, ←hf t]
      simp[Act.put,Array.getElem?_setIfInBounds_ne e]
theorem seqW_step{w0:World}{Q:Exit→Act→World→Prop}{k:Nat}{o:Oper}(ho:ops[k]? =some o)(hw:wantedE ops (env ops base vals k) o=true){R:Value→Heap→Prop}(hf:EffU P (env ops base vals k) o h R)
    (hs:∀v h',R v h'→SeqW P ops n base w0 Q (k+1) (vset vals k v) h'):SeqW P ops n base w0 Q k vals h:=by
  intro hok a w hd hts hfr hsm hh
  have hlt:=(Array.getElem?_eq_some_iff.1 ho).1
  rw[show ops.size - k=(ops.size - (k+1))+1 by omega,List.range'_succ,wpOps_cons]
  refine wpOp_eff ho (by rw[eval_seq hfr]) (by rw[wanted_seq hfr];exact hw) hh hf fun v w' hsm' hr=> ?_
  exact hs v _ hr hok _ w' (by cases o.dst <;>simp[Act.put,hd]) (by cases o.dst <;>simp[Act.put,hts]) (seq_next hok ho hts hfr v) (hsm.trans hsm') rfl
theorem seqW_skip{w0:World}{Q:Exit→Act→World→Prop}{k:Nat}{o:Oper}(ho:ops[k]? =some o)(hw:wantedE ops (env ops base vals k) o=false)
    (hs:SeqW P ops n base w0 Q (k+1) (vset vals k undef) h):SeqW P ops n base w0 Q k vals h:=by
  intro hok a w hd hts hfr hsm hh
  have hlt:=(Array.getElem?_eq_some_iff.1 ho).1
  rw[show ops.size - k=(ops.size - (k+1))+1 by omega,List.range'_succ,wpOps_cons]
  refine wpOp_skip ho (by rw[wanted_seq hfr];exact hw) ?_
  exact hs hok _ w (by cases o.dst <;>simp[Act.put,hd]) (by cases o.dst <;>simp[Act.put,hts]) (seq_next hok ho hts hfr undef) hsm hh
theorem SeqK.pure1{k k':Nat}{v v':Value}(hv:pureVal P ops base vals k=some v')(e:v'=v)(hk:k+1=k')(hs:SeqK P ops n base K k' (vset vals k v) h):SeqK P ops n base K k vals h:=by
  subst e;subst hk
  intro w0
  unfold pureVal at hv
  cases ho:ops[k]? with
  |none=>simp[ho] at hv
  | some o =>
    simp only[ho] at hv
    cases hw:wantedE ops (env ops base vals k) o with
    | false =>
      simp only[hw,Option.some.injEq] at hv
      subst hv
      exact seqW_skip ho hw (hs w0)
    | true =>
      simp only[hw] at hv
      refine seqW_step ho hw (eff_of_nextVal hv h) fun v h' ⟨h1,h2⟩=> ?_
      subst h1;subst h2
      exact hs w0
def seqVals(P:Program)(ops:Array Oper)(base:Nat→Value):Nat→List Value→Vals→List (Option Value)
  |_,[],_=>[]
  |k,v::vs,vals=>pureVal P ops base vals k::seqVals P ops base (k+1) vs (vset vals k v)
def vseq:Vals→Nat→List Value→Vals
  |vals,_,[]=>vals
  |vals,k,v::vs=>vseq (vset vals k v) (k+1) vs
theorem SeqK.eff{k k':Nat}{R:Value→Heap→Prop}(hd:Does P ops base vals k h R)(hk:k+1=k')(hs:∀v h',R v h'→SeqK P ops n base K k' (vset vals k v) h'):SeqK P ops n base K k vals h:=by
  subst hk
  intro w0
  obtain⟨o,ho,hw,hf⟩:=hd.does
  exact seqW_step ho hw hf fun v h' hr=>hs v h' hr w0
theorem SeqK.calm{k k':Nat}{v:Value}(hd:Calm P ops base vals k h v)(hk:k+1=k')(hs:SeqK P ops n base K k' (vset vals k v) h):SeqK P ops n base K k vals h:=
  SeqK.eff hd hk fun v' h' ⟨h1,h2⟩=>by subst h1;subst h2;exact hs
/-! ### code -/
theorem getD_replicate_false'(m j:Nat):(Array.replicate m false).getD j false=false:=by
  rcases Nat.lt_or_ge j m with h|h
  · simp[h]
  · simp[h]
def C(P:Program)(c:Code)(K:Exit→Act→Heap→Prop)(a:Act)(h:Heap):Prop:=
  ∀w:World,w.heap =h→c.wp P (fun e a' w'=>Same w w'∧K e a' w'.heap) a w
def sub:Code→List Nat→Code
  |c,[]=>c
  | .seq x _,0::p=>sub x p
  | .seq _ y,_::p=>sub y p
  | .cond _ x _,0::p=>sub x p
  | .cond _ _ y,_::p=>sub y p
  | .block _ x,_::p=>sub x p
  | .loop x,_::p=>sub x p
  | .scope x,_::p=>sub x p
  |c,_=>c
def opsAt(c:Code)(p:List Nat):Array Oper:=match sub c p with| .region _ ops _=>ops|_=> #[]
def thenK(N:Act→Heap→Prop)(K:Exit→Act→Heap→Prop):Exit→Act→Heap→Prop
  | .normal,a,h=>N a h
  |e,a,h=>K e a h
def blockK(id:Nat)(K:Exit→Act→Heap→Prop):Exit→Act→Heap→Prop
  | .exit i,a,h=>match Nat.beq i id with|true=>K .normal a h|false=>K (.exit i) a h
  |e,a,h=>K e a h
theorem C.mono{c:Code}{a:Act}{K K':Exit→Act→Heap→Prop}(hc:C P c K a h)(hk:∀e a h,K e a h→K' e a h):C P c K' a h:=
  fun w hw=>wp_mono (hc w hw) fun _ _ _ ⟨s,k⟩=>⟨s,hk _ _ _ k⟩
section
variable {B:Code} {p:List Nat} {a:Act}
theorem C.seq(p0 p1:List Nat)(hc:sub B p= .seq (sub B p0) (sub B p1))(hh:C P (sub B p0) (thenK (fun a h=>C P (sub B p1) K a h) K) a h):C P (sub B p) K a h:=by
  rw[hc]
  intro w hw
  refine wp_seq (wp_mono (hh w hw) fun e a' w' ⟨s,k⟩=> ?_)
  cases e with
  | normal =>
    exact wp_mono (k w' rfl) fun e a w ⟨s',k'⟩=>⟨s.trans s',k'⟩
  |exit i=>exact⟨s,k⟩
  |goto l=>exact⟨s,k⟩
  |ret=>exact⟨s,k⟩
  |panic c=>exact⟨s,k⟩
  |outgrown=>exact⟨s,k⟩
theorem C.skip(hc:sub B p= .skip)(hh:K .normal a h):C P (sub B p) K a h:=by
  rw[hc];intro w hw;exact wp_skip ⟨Same.refl w,hw▸hh⟩
theorem C.ret(hc:sub B p= .ret)(hh:K .ret a h):C P (sub B p) K a h:=by
  rw[hc];intro w hw;exact wp_ret ⟨Same.refl w,hw▸hh⟩
theorem C.exit(id:Nat)(hc:sub B p= .exit id)(hh:K (.exit id) a h):C P (sub B p) K a h:=by
  rw[hc];intro w hw;exact wp_exit ⟨Same.refl w,hw▸hh⟩
theorem C.block(id:Nat)(p0:List Nat)(hc:sub B p= .block id (sub B p0))(hh:C P (sub B p0) (blockK id K) a h):C P (sub B p) K a h:=by
  rw[hc]
  intro w hw
  refine wp_block (wp_mono (hh w hw) fun e a' w' ⟨s,k⟩=> ?_)
  cases e with
  | exit i =>
    simp only[blockK] at k
    simp only[Exit.inBlock]
    cases e:Nat.beq i id with
    |true=>simp only[e] at k;rw[if_pos (Nat.eq_of_beq_eq_true e)];exact⟨s,k⟩
    |false=>simp only[e] at k;rw[if_neg (Nat.ne_of_beq_eq_false e)];exact⟨s,k⟩
  |normal=>exact⟨s,k⟩
  |goto l=>exact⟨s,k⟩
  |ret=>exact⟨s,k⟩
  |panic c=>exact⟨s,k⟩
  |outgrown=>exact⟨s,k⟩
theorem Fr.eval{L:List (Nat×Value)}(hf:Fr a n L){t:Nat}{v:Value}(hv:∀d,lk L t d=v):a.tmps.getD t undef=v:=by rw[hf.get t];exact hv _
theorem C.condT{L:List (Nat×Value)}(t:Nat)(p0 p1:List Nat)(hc:sub B p= .cond (.tmp t) (sub B p0) (sub B p1))(hf:Fr a n L)(hv:∀d,lk L t d= .bool true)(hh:C P (sub B p0) K a h):C P (sub B p) K a h:=by
  rw[hc];intro w hw;exact wp_cond_true (show a.eval (.tmp t)=_ from hf.eval hv) (hh w hw)
theorem C.condF{L:List (Nat×Value)}(t:Nat)(p0 p1:List Nat)(hc:sub B p= .cond (.tmp t) (sub B p0) (sub B p1))(hf:Fr a n L)(hv:∀d,lk L t d= .bool false)(hh:C P (sub B p1) K a h):C P (sub B p) K a h:=by
  rw[hc];intro w hw;exact wp_cond_false (show a.eval (.tmp t)=_ from hf.eval hv) (hh w hw)
theorem C.condS{L:List (Nat×Value)}(t:Nat)(b:Bool)(p0 p1:List Nat)(hc:sub B p= .cond (.tmp t) (sub B p0) (sub B p1))(hf:Fr a n L)(hv:∀d,lk L t d= .bool b)
    (ht:b=true→C P (sub B p0) K a h) (he:b=false→C P (sub B p1) K a h):C P (sub B p) K a h:=by
  cases b with
  |true=>exact C.condT t p0 p1 hc hf hv (ht rfl)
  |false=>exact C.condF t p0 p1 hc hf hv (he rfl)
open Classical in
theorem C.loop(I:Nat→Act→Heap→Prop)(m0:Nat)(p0:List Nat)(hc:sub B p= .loop (sub B p0))(h0:I m0 a h)
    (round:∀m a h,I m a h→C P (sub B p0) (thenK (fun a h=>∃m',m'<m∧I m' a h) K) a h):C P (sub B p) K a h:=by
  rw[hc]
  intro w hw
  have ex:∀(a:Act) (w:World),(∃m,I m a w.heap)→∃m,I m a w.heap ∧∀k,I k a w.heap →m≤k:=by
    intro a w ⟨m,hm⟩
    induction m using Nat.strongRecOn with
    | _ m ih =>
      by_cases hk:∃k,k<m∧I k a w.heap
      · obtain⟨k,hlt,hI⟩:=hk;exact ih k hlt hI
      · exact⟨m,hm,fun k hI=>Nat.le_of_not_lt fun hl=>hk ⟨k,hl,hI⟩⟩
  refine wp_loop (fun a' w'=>Same w w'∧∃m,I m a' w'.heap) (fun a' w'=>if hx:∃m,I m a' w'.heap then (ex a' w' hx).choose else 0) ⟨Same.refl w,m0,hw▸h0⟩ ?_
  intro a' w' ⟨hs,hx⟩
  have hm:=(ex a' w' hx).choose_spec
  have hmu:(if hx:∃m,I m a' w'.heap then (ex a' w' hx).choose else 0)=(ex a' w' hx).choose :=dif_pos hx
  rw[hmu]
  refine wp_mono (round _ a' w'.heap hm.1 w' rfl) fun e a2 w2 ⟨s,k⟩=> ?_
  cases e with
  | normal =>
    obtain⟨m',hlt,hI⟩:=k
    have hx2:∃m,I m a2 w2.heap :=⟨m',hI⟩
    refine⟨⟨hs.trans s,hx2⟩, ?_⟩
    rw[dif_pos hx2]
    exact Nat.lt_of_le_of_lt ((ex a2 w2 hx2).choose_spec.2 m' hI) hlt
  |exit i=>exact⟨hs.trans s,k⟩
  |goto l=>exact⟨hs.trans s,k⟩
  |ret=>exact⟨hs.trans s,k⟩
  |panic c=>exact⟨hs.trans s,k⟩
  |outgrown=>exact⟨hs.trans s,k⟩
theorem C.plain{L:List (Nat×Value)}(id:Nat)(hc:sub B p= .region id (opsAt B p) false)(hf:Fr a n L)(hok:dstOk (opsAt B p) n=true)
    (hh:SeqK P (opsAt B p) n (fun t=>lk L t (a.tmps.getD t undef)) K 0 (fun _=>undef) h):C P (sub B p) K a h:=by
  rw[hc]
  intro w hw
  refine wp_region ?_
  have:=hh w hok a w hf.defers hf.size (fun t=>by rw[hf.get t];rfl) (Same.refl w) hw
  simpa[List.range_eq_range'] using this
theorem C.draw{A:List Nat}{L:List (Nat×Value)}(id:Nat)(hc:sub B p= .region id (opsAt B p) true)(hm:P.follows .mixedOrders =true)(hf:Fr a n L)(hok:regOk (opsAt B p) A n=true)
    (hh:SimK P (opsAt B p) A n (fun t=>lk L t (a.tmps.getD t undef)) K 0 0 0 (fun _=>undef) h):C P (sub B p) K a h:=by
  rw[hc]
  intro w hw
  refine wp_region_any hm ?_
  refine hh w hok (fun j o _ hj=>by simp at hj) _ _ a _ ?_ (by unfold unl;exact Nat.le_trans Array.countP_le_size (by simp))
  exact
    { size := by simp
      sub:=fun i hi=>by simp only[Lst,getD_replicate_false'] at hi;cases hi
      sup:=fun i _ hi=>by simp at hi
      closed:=fun j o _ hj=>by simp only[Lst,getD_replicate_false'] at hj;cases hj
      defers:=hf.defers
      tsize:=hf.size
      frame:=fun t=>by
        rw[hf.get t]
        unfold slotS
        rw[lastP_eq_none]
        intro j _
        simp only[Lst,getD_replicate_false',Bool.false_and]
      pend:=fun j _ hj=>by simp at hj
      heap:=hw
      same:=⟨rfl,rfl,rfl⟩}
end
end
end Go.Lane
namespace Go.Lane
open Go
/-! ### heaps -/
/-- all that was there is there, but for one block -/
structure Grew(o:Option Nat)(h h':Heap):Prop where
  size:h.size ≤h'.size
  get:∀k,k<h.size →some k≠o→h'[k]? =h[k]?
abbrev Ext(h h':Heap):Prop:=Grew none h h'
theorem Grew.refl(o:Option Nat)(h:Heap):Grew o h h:=⟨Nat.le_refl _,fun _ _ _=>rfl⟩
theorem Grew.trans{o:Option Nat}{a b c:Heap}(h:Grew o a b)(k:Grew o b c):Grew o a c:=
  ⟨Nat.le_trans h.size k.size,fun i hi ho=>(k.get i (Nat.lt_of_lt_of_le hi h.size) ho).trans (h.get i hi ho)⟩
theorem Ext.refl(h:Heap):Ext h h:=Grew.refl none h
theorem Ext.but{h h':Heap}(e:Ext h h')(o:Option Nat):Grew o h h':=⟨e.size,fun k hk _=>e.get k hk (by simp)⟩
theorem Ext.push(h:Heap)(o:Obj):Ext h (h.push o):=⟨by simp,fun k hk _=>by rw[Array.getElem?_push,if_neg (by omega)]⟩
theorem Ext.grew{h0 h h':Heap}{o:Option Nat}(e:Ext h0 h)(g:Grew o h h')(ho:∀k,o=some k→h0.size ≤k):Ext h0 h':=
  ⟨Nat.le_trans e.size g.size,fun k hk _=>(g.get k (Nat.lt_of_lt_of_le hk e.size) (fun he=>by have:=ho k he.symm;omega)).trans (e.get k hk (by simp))⟩
theorem Ext.ext{a b c:Heap}(h:Ext a b)(k:Ext b c):Ext a c:=Grew.trans h k
theorem blk_lt{h:Heap}{b:Nat}{o:Obj}(e:h[b]? =some o):b<h.size :=(Array.getElem?_eq_some_iff.1 e).1
theorem Grew.blk{o:Option Nat}{h h':Heap}{b:Nat}{x:Obj}(g:Grew o h h')(e:h[b]? =some x)(hne:some b≠o):h'[b]? =some x:=by rw[g.get b (blk_lt e) hne];exact e
theorem Ext.blk{h h':Heap}{b:Nat}{x:Obj}(g:Ext h h')(e:h[b]? =some x):h'[b]? =some x:=Grew.blk g e (by simp)
theorem push_new(h:Heap)(o:Obj):(h.push o)[h.size]? =some o:=by simp
theorem hcell_lt{h:Heap}{p:Addr}{v:Value}(e:hcell h p=some v):p.block <h.size :=by
  unfold hcell at e
  cases hb:h[p.block]? with
  |none=>simp[hb] at e
  |some o=>exact blk_lt hb
theorem hcell_congr{h h':Heap}{p:Addr}(e:h'[p.block]? =h[p.block]?):hcell h' p=hcell h p:=by unfold hcell;rw[e]
theorem Grew.cell{o:Option Nat}{h h':Heap}{p:Addr}{v:Value}(g:Grew o h h')(e:hcell h p=some v)(hne:some p.block ≠o):hcell h' p=some v:=by
  rw[hcell_congr (g.get _ (hcell_lt e) hne)];exact e
theorem Ext.cell{h h':Heap}{p:Addr}{v:Value}(g:Ext h h')(e:hcell h p=some v):hcell h' p=some v:=Grew.cell g e (by simp)
theorem hcell_blk{h:Heap}{b off:Nat}{cs:Array Value}{E:TypeId}{fr:Nat×Nat}(e:h[b]? =some (.cells cs E fr)):hcell h ⟨b,off,none⟩=cs[off]? :=by
  simp[hcell,e]
theorem add_lit(b off j:Nat):(⟨b,off,none⟩:Addr).add j=⟨b,off+j,none⟩:=by unfold Addr.add;split<;>simp_all
theorem add_add(a:Addr)(i j:Nat):(a.add i).add j=a.add (i+j):=by
  unfold Addr.add
  by_cases h1:i=0<;>by_cases h2:j=0<;>simp[h1,h2,Nat.add_assoc]
theorem add_block(a:Addr)(i:Nat):(a.add i).block =a.block :=by unfold Addr.add;split<;>rfl
/-! ### what a slice reads as: n elements of sz cells -/
def Row(h:Heap)(v:Value)(n sz:Nat)(xs:List Value):Prop:=
  xs.length =n*sz∧((v= .slice none 0 0∧n=0)∨∃a cap,v= .slice (some a) n cap∧n≤cap∧∀j u,xs[j]? =some u→hcell h (a.add j)=some u)
theorem Row.ext{h h':Heap}{v:Value}{n sz:Nat}{xs:List Value}(r:Row h v n sz xs)(g:Ext h h'):Row h' v n sz xs:=
  ⟨r.1,r.2.imp id fun⟨a,cap,e,hc,hx⟩=>⟨a,cap,e,hc,fun j u hu=>g.cell (hx j u hu)⟩⟩
theorem Row.nil(h:Heap)(sz:Nat):Row h (.slice none 0 0) 0 sz []:=⟨by simp, .inl ⟨rfl,rfl⟩⟩
theorem Row.at{h:Heap}{v:Value}{n sz:Nat}{xs:List Value}(r:Row h v n sz xs)(hn:0<n):∃a cap,v= .slice (some a) n cap∧n≤cap∧∀j u,xs[j]? =some u→hcell h (a.add j)=some u:=
  r.2.resolve_left fun⟨_,e⟩=>by omega
def Own(h:Heap)(v:Value)(E:TypeId)(n sz:Nat)(xs:List Value):Prop:=
  xs.length =n*sz∧((v= .slice none 0 0∧n=0)∨∃g off cap l,v= .slice (some ⟨g,off,none⟩) n cap∧h[g]? =some (.cells l E (0,0))∧n≤cap∧cap≤maxLen∧off+cap*sz≤l.size ∧(l.toList.drop off).take (n*sz)=xs)
def blkOf:Value→Option Nat
  | .slice (some a) _ _=>some a.block
  |_=>none
theorem Own.nil(h:Heap)(E:TypeId)(sz:Nat):Own h (.slice none 0 0) E 0 sz []:=⟨by simp, .inl ⟨rfl,rfl⟩⟩
theorem Own.row{h:Heap}{v:Value}{E:TypeId}{n sz:Nat}{xs:List Value}(o:Own h v E n sz xs):Row h v n sz xs:=by
  refine⟨o.1,o.2.imp id ?_⟩
  rintro⟨g,off,cap,l,e,hg,hc,_,hl,hx⟩
  refine⟨_,cap,e,hc,fun j u hu=> ?_⟩
  rw[add_lit,hcell_blk hg]
  rw[←hx,List.getElem?_take] at hu
  split at hu
  · rw [List.getElem?_drop] at hu
    simpa using hu
  · cases hu
theorem Own.lt{h:Heap}{v:Value}{E:TypeId}{n sz:Nat}{xs:List Value}(o:Own h v E n sz xs){k:Nat}(hk:blkOf v=some k):k<h.size :=by
  rcases o.2 with⟨e,_⟩|⟨g,off,cap,l,e,hg,_⟩
  · subst e;simp[blkOf] at hk
  · subst e;simp only[blkOf,Option.some.injEq] at hk;subst hk;exact blk_lt hg
theorem Own.kept{o:Option Nat}{h h':Heap}{v:Value}{E:TypeId}{n sz:Nat}{xs:List Value}(w:Own h v E n sz xs)(g:Grew o h h')(hne:blkOf v=none∨blkOf v≠o):Own h' v E n sz xs:=by
  refine⟨w.1,w.2.imp id ?_⟩
  rintro⟨b,off,cap,l,e,hg,r⟩
  refine⟨b,off,cap,l,e,g.blk hg ?_,r⟩
  subst e
  simpa[blkOf] using hne
theorem Own.ext{h h':Heap}{v:Value}{E:TypeId}{n sz:Nat}{xs:List Value}(w:Own h v E n sz xs)(g:Ext h h'):Own h' v E n sz xs:=
  w.kept g (by cases blkOf v<;>simp)
section
variable {P:Program} {ops:Array Oper} {base:Nat→Value} {vals:Vals} {h:Heap} {i:Nat} {K:Exit→Act→Heap→Prop}
/-! ### a function's beginning and end -/
def retK(P:Program)(fn:Func)(R:Value→Heap→Prop):Exit→Act→Heap→Prop
  | .normal,a,h| .ret,a,h=>a.defers =[]∧∃v,(∀w:World,w.heap =h→(results fn a.tmps).run P w= .ok v w)∧R v h
  |_,_,_=>False
def argL:Nat→List Value→List (Nat×Value)
  |_,[]=>[]
  |k,v::vs=>(k,v)::argL (k+1) vs
theorem argL_lk(vs:List Value)(k t:Nat)(d:Value)(hk:k≤t):lk (argL k vs) t d=(vs[t - k]?).getD d:=by
  induction vs generalizing k with
  |nil=>simp[argL,lk]
  | cons v vs ih =>
    simp only[argL,lk]
    cases e:Nat.beq k t with
    |true=>have:=Nat.eq_of_beq_eq_true e;subst this;simp
    | false =>
      have hne:=Nat.ne_of_beq_eq_false e
      simp only
      rw[ih (k+1) (by omega)]
      obtain⟨m,hm⟩:∃m,t - k=m+1:=⟨t - k - 1,by omega⟩
      rw[hm,show t - (k+1)=m by omega]
      simp
theorem sat_of{fn:Func}{B:Code}{f:FuncId}{args:List Value}{n:Nat}{L:List (Nat×Value)}{R:Value→Heap→Prop}(hf:P.funcs[f]? =some fn)(hb:fn.body =some B)(hn:args.length +(fn.ntmps - args.length)=n)
    (hL:argL 0 args=L) (hc:∀a,Fr a n L→C P (sub B []) (retK P fn R) a h):Sat P f args.toArray h R:=by
  intro w hw
  refine calls_of_wp hf hb ?_
  subst hL
  have hB:sub B []=B:=by cases B<;>rfl
  rw[hB] at hc
  refine wp_mono (hc {tmps:=args.toArray ++Array.replicate (fn.ntmps - args.toArray.size) undef,defers:=[]} ⟨rfl,by simp[←hn],fun t=> ?_⟩ w hw) ?_
  · rw [argL_lk _ 0 t _ (Nat.zero_le t), Nat.sub_zero]
    by_cases ht:t<args.length
    · simp[Array.getElem?_append,ht]
    · simp[List.getElem?_eq_none (Nat.le_of_not_lt ht)]
  · rintro e a w' ⟨hs, hk⟩
    cases e with
    |normal=>obtain⟨hd,v,hr,hR⟩:=hk;exact⟨hd,v,hr w' rfl,v,rfl,hs,hR⟩
    |ret=>obtain⟨hd,v,hr,hR⟩:=hk;exact⟨hd,v,hr w' rfl,v,rfl,hs,hR⟩
    |exit i=>exact hk
    |goto l=>exact hk
    |panic c=>exact hk.elim
    |outgrown=>exact hk.elim
def Loads(P:Program)(h:Heap)(T:TypeId)(p:Addr)(v:Value):Prop:=∀w:World,w.heap =h→(loadVar T p).run P w= .ok v w
def resOk(P:Program)(b:Nat→Value)(h:Heap):ResultVar→Value→Prop
  | .tmp t,v=>b t=v
  | .cell t T,v=>∃p,b t= .pointer (some p)∧Loads P h T p v
def ressOk(P:Program)(b:Nat→Value)(h:Heap):List ResultVar→List Value→Prop
  |[],[]=>True
  |r::rs,v::vs=>resOk P b h r v∧ressOk P b h rs vs
  |_,_=>False
def resVal:List Value→Value
  |[v]=>v
  |vs=> .tuple vs.toArray
def resOne(tmps:Array Value):ResultVar→Sem Value
  | .tmp t=>pure (tmps.getD t undef)
  | .cell a t=>do loadVar t (←asAddr (tmps.getD a undef))
theorem resOne_run{tmps:Array Value}{w:World}(hw:w.heap =h){r:ResultVar}{v:Value}(hr:resOk P (fun t=>tmps.getD t undef) h r v):(resOne tmps r).run P w= .ok v w:=by
  cases r with
  |tmp t=>simp only[resOk] at hr;subst hr;rfl
  | cell t T =>
    obtain⟨p,hp,hl⟩:=hr
    have hp':tmps.getD t undef= .pointer (some p):=hp
    simp only[resOne,hp',asAddr,Sem.run_bind,Sem.run_pure,Result.andThen_ok,hl w hw]
theorem mapM_res{tmps:Array Value}{w:World}(hw:w.heap =h):∀(rs:List ResultVar) (vs:List Value),ressOk P (fun t=>tmps.getD t undef) h rs vs→
    (rs.mapM (resOne tmps)).run P w= .ok vs w
  |[],[],_=>by simp
  | r :: rs, v :: vs, hr => by
    rw[List.mapM_cons]
    simp only[Sem.run_bind,resOne_run hw hr.1,Result.andThen_ok,mapM_res hw rs vs hr.2,Sem.run_pure]
  |[],_::_,hr=>hr.elim
  |_::_,[],hr=>hr.elim
theorem results_ok{fn:Func}{tmps:Array Value}{rs:List ResultVar}{vs:List Value}(hr:fn.results =rs.toArray)(ho:ressOk P (fun t=>tmps.getD t undef) h rs vs)(w:World)(hw:w.heap =h):
    (results fn tmps).run P w= .ok (resVal vs) w:=by
  have e:results fn tmps=(do let vs←fn.results.mapM (resOne tmps);pure (if h:vs.size =1 then vs[0] else .tuple vs)):=by
    unfold results
    congr 2
  rw[e,hr,List.mapM_toArray]
  simp only[Sem.run_bind,Sem.run_map,mapM_res hw rs vs ho,Result.andThen_ok,Sem.run_pure]
  congr 1
  match vs with
  |[]=>rfl
  |[v]=>rfl
  |v::u::vs=>simp[resVal]
theorem ret_ok{fn:Func}{n:Nat}{L:List (Nat×Value)}{a:Act}{R:Value→Heap→Prop}(rs:List ResultVar)(vs:List Value)(v:Value)(hr:fn.results =rs.toArray)(hf:Fr a n L)
    (ho:ressOk P (fun t=>lk L t (a.tmps.getD t undef)) h rs vs) (hv:resVal vs=v) (hR:R v h):retK P fn R .ret a h:=by
  subst hv
  refine⟨hf.defers,_,fun w hw=>results_ok hr ?_ w hw,hR⟩
  have:(fun t=>lk L t (a.tmps.getD t undef))=fun t=>a.tmps.getD t undef:=funext fun t=>(hf.get t).symm
  rwa [this] at ho
end
end Go.Lane
namespace Go.Lane
open Go
section
variable {P:Program} {ops:Array Oper} {base:Nat→Value} {vals:Vals} {h:Heap} {i:Nat} {K:Exit→Act→Heap→Prop}
theorem w64{x:Int}(h1: -9223372036854775808≤x)(h2:x≤9223372036854775807):IntKind.i64.wrap x=x:=by
  simp only[IntKind.wrap,IntKind.bits,IntKind.signed]
  simp
  omega
def opE (ops : Array Oper) (base : Nat → Value) (vals : Vals) (i : Nat) : Option Oper :=
  match ops[i]? with
  | some o => match wantedE ops (env ops base vals i) o with
    |true=>some o
    |false=>none
  |none=>none
theorem does_of{R:Value→Heap→Prop}{o:Oper}(ho:opE ops base vals i=some o)(hf:EffU P (env ops base vals i) o h R):Does P ops base vals i h R:=by
  unfold opE at ho
  cases h1:ops[i]? with
  |none=>simp[h1] at ho
  | some o' =>
    simp only[h1] at ho
    cases h2:wantedE ops (env ops base vals i) o' with
    |false=>simp[h2] at ho
    | true =>
      simp only[h2,Option.some.injEq] at ho
      subst ho
      exact⟨_,h1,h2,hf⟩
theorem does_split{R:Value→Heap→Prop}{α:Type}{f:Oper→Option α}{x:α}(hx:(opE ops base vals i).bind f=some x)(hf:∀o,f o=some x→EffU P (env ops base vals i) o h R):Does P ops base vals i h R:=by
  cases h1:opE ops base vals i with
  |none=>simp[h1] at hx
  |some o=>exact does_of h1 (hf o (by simpa[h1] using hx))
/-! a call -/
def callF(P:Program)(e:Operand→Value)(o:Oper):Option (FuncId×Array Value):=
  match reck P (execOp e o) with
  |some (.enter f args)=>some (f,args)
  |_=>none
def callOp(P:Program)(ops:Array Oper)(base:Nat→Value)(vals:Vals)(i:Nat):Option (FuncId×Array Value):=(opE ops base vals i).bind (callF P (env ops base vals i))
theorem Does.call{R:Value→Heap→Prop}{f:FuncId}{args:Array Value}(hx:callOp P ops base vals i=some (f,args))(hs:Sat P f args h R):Does P ops base vals i h R:=by
  refine does_split hx fun o ho w hw=> ?_
  unfold callF at ho
  cases hc:reck P (execOp (env ops base vals i) o) with
  |none=>simp[hc] at ho
  | some x =>
    rw[hc] at ho
    cases x<;>simp only[Option.some.injEq,Prod.mk.injEq] at ho<;>first| (cases ho;done)|skip
    obtain⟨rfl,rfl⟩:=ho
    rw[reck_run hc w]
    exact⟨Same.refl w,hw▸hs⟩
/-! a load -/
def loadF (e : Operand → Value) (o : Oper) : Option (TypeId × Addr) :=
  match o.op with
  | .load t x => match e x with
    | .pointer (some p)=>some (t,p)
    |_=>none
  |_=>none
def loadOp(ops:Array Oper)(base:Nat→Value)(vals:Vals)(i:Nat):Option (TypeId×Addr):=(opE ops base vals i).bind (loadF (env ops base vals i))
theorem Calm.load {T : TypeId} {p : Addr} {v : Value} (hx : loadOp ops base vals i = some (T, p)) (hl : Loads P h T p v) : Calm P ops base vals i h v := by
  refine does_split hx fun o ho w hw=> ?_
  unfold loadF at ho
  cases hop:o.op with
  | load t x =>
    simp only[hop] at ho
    cases hv:env ops base vals i x with
    | pointer a =>
      cases a with
      |none=>simp[hv] at ho
      | some a =>
        simp only[hv,Option.some.injEq,Prod.mk.injEq] at ho
        obtain⟨rfl,rfl⟩:=ho
        have hr:(execOp (env ops base vals i) o).run P w= .ok (.value v) w:=by
          unfold execOp
          simp only[hop,Instr.loadAt,hv,Instr.sureAddr,Sem.run_bind,Sem.run_pure,Result.andThen_ok,hl w hw]
        rw[hr]
        exact⟨Same.refl w,rfl,hw⟩
    |_=>simp[hv] at ho
  |_=>simp[hop] at ho
def aggTy(P:Program)(T:TypeId):Option (Bool×Nat):=
  match P.underlying T,P.info? T with
  |some d,some i=>some ((match d with| .struct _| .array _ _=>true|_=>false),i.size)
  |_,_=>none
theorem Loads.one {T : TypeId} {p : Addr} {v : Value} {k : Nat} (ht : aggTy P T = some (false, k)) (hc : hcell h p = some v) : Loads P h T p v := by
  intro w hw
  unfold aggTy at ht
  cases hd:P.underlying T with
  |none=>simp[hd] at ht
  | some d =>
    cases hi:P.info? T with
    |none=>simp[hd,hi] at ht
    | some x =>
      simp only[hd,hi,Option.some.injEq,Prod.mk.injEq] at ht
      have hc':w.cell? p=some v:=by rw[hcell_eq hw];exact hc
      have ha:(isAgg T).run P w= .ok false w:=by
        unfold isAgg
        simp only[Sem.run_bind,run_underlying hd,Result.andThen_ok]
        cases d<;>first|rfl| (simp at ht)
      simp only[loadVar,Sem.run_bind,ha,Result.andThen_ok]
      simp[load,Sem.run,hc']
theorem Loads.agg {T : TypeId} {p : Addr} {vs : List Value} (ht : aggTy P T = some (true, vs.length)) (hc : ∀ j u, vs[j]? = some u → hcell h (p.add j) = some u) : Loads P h T p (.agg vs.toArray) := by
  intro w hw
  unfold aggTy at ht
  cases hd:P.underlying T with
  |none=>simp[hd] at ht
  | some d =>
    cases hi:P.info? T with
    |none=>simp[hd,hi] at ht
    | some x =>
      simp only[hd,hi,Option.some.injEq,Prod.mk.injEq] at ht
      have ha:(isAgg T).run P w= .ok true w:=by
        unfold isAgg
        simp only[Sem.run_bind,run_underlying hd,Result.andThen_ok]
        cases d<;>first|rfl| (simp at ht)
      have hs:(sizeOf T).run P w= .ok vs.length w:=by
        simp[sizeOf,typeInfo,hi,ht.2]
      have hl:=run_loadCells_list (P:=P) w p vs (fun j u hu=>by rw[hcell_eq hw];exact hc j u hu)
      simp[loadVar,ha,hs,hl]
/-! a store -/
def storeF (P : Program) (e : Operand → Value) (o : Oper) : Option (Addr × List Value) :=
  match o.op with
  | .store t x y => match e x, P.info? t with
    | .pointer (some p), some i => match Nat.beq (e y).cells.size i.size with
      |true=>some (p,(e y).cells.toList)
      |false=>none
    |_,_=>none
  |_=>none
def storeOp(P:Program)(ops:Array Oper)(base:Nat→Value)(vals:Vals)(i:Nat):Option (Addr×List Value):=(opE ops base vals i).bind (storeF P (env ops base vals i))
def splice(l:List Value)(off:Nat)(vs:List Value):List Value:=l.take off++vs++l.drop (off+vs.length)
def hput(h:Heap)(b:Nat)(o:Obj):Heap:=h.setIfInBounds b o
theorem hput_same{h:Heap}{b:Nat}{o x:Obj}(e:h[b]? =some x):(hput h b o)[b]? =some o:=by
  simp[hput,blk_lt e]
theorem hput_grew(h:Heap)(b:Nat)(o:Obj):Grew (some b) h (hput h b o):=
  ⟨by simp[hput],fun k _ hne=>by simp only[hput];rw[Array.getElem?_setIfInBounds_ne];simpa using Ne.symm (by simpa using hne)⟩
theorem setRow_hput{w:World}{b:Nat}{cs cs':Array Value}{E:TypeId}{fr:Nat×Nat}(e:w.heap[b]? =some (.cells cs E fr)):(w.setRow b cs').heap =hput w.heap b (.cells cs' E fr):=by
  apply Array.ext_getElem?
  intro k
  by_cases hk:k=b
  · subst hk
    rw[setRow_heap w k cs cs' E fr e,hput_same e]
  · rw [setRow_other w b k cs' hk]
    simp only[hput]
    rw[Array.getElem?_setIfInBounds_ne (Ne.symm hk)]
theorem Does.store{b off:Nat}{vs l:List Value}{E:TypeId}(hx:storeOp P ops base vals i=some (⟨b,off,none⟩,vs))(hb:h[b]? =some (.cells l.toArray E (0,0)))
    (hfit:off+vs.length ≤l.length) (h1:∀v∈vs,v.oneCell' =true):
    Does P ops base vals i h fun v h'=>v=undef∧h'=hput h b (.cells (splice l off vs).toArray E (0,0)):=by
  refine does_split hx fun o ho w hw=> ?_
  unfold storeF at ho
  cases hop:o.op with
  | store t x y =>
    simp only[hop] at ho
    cases hv:env ops base vals i x with
    | pointer a =>
      cases a with
      |none=>simp[hv] at ho
      | some a =>
        cases hi:P.info? t with
        |none=>simp[hv,hi] at ho
        | some inf =>
          simp only[hv,hi] at ho
          cases hs:Nat.beq (env ops base vals i y).cells.size inf.size with
          |false=>simp[hs] at ho
          | true =>
            simp only[hs,Option.some.injEq,Prod.mk.injEq] at ho
            obtain⟨rfl,rfl⟩:=ho
            have hsz:=Nat.eq_of_beq_eq_true hs
            subst hw
            have hst:=run_storeCells_at P b off E (env ops base vals i y).cells.toList 0 l.toArray w hb (by simpa using hfit) h1
            simp only[Nat.add_zero] at hst
            have hr:(execOp (env ops base vals i) o).run P w= .ok .skip (w.setRow b (splice l off (env ops base vals i y).cells.toList).toArray):=by
              unfold execOp
              simp only[hop,Instr.storeAt,hv,Instr.sureAddr,storeVar,sizeOf,typeInfo,program,Sem.run_bind,Sem.run_pure,Result.andThen_ok,Sem.run,hi,hsz]
              simp[hst,splice]
            rw[hr]
            exact⟨⟨rfl,rfl,rfl⟩,rfl,setRow_hput hb⟩
    |_=>simp[hv] at ho
  |_=>simp[hop] at ho
/-! new blocks: one, of known contents -/
def newR (P : Program) {α : Type} (nb : Nat) : Sem α → Option (α × Obj)
  | .new o k => match reck P (k nb) with
    |some a=>some (a,o)
    |none=>none
  | .program k=>newR P nb (k P)
  | .mark _ k=>newR P nb k
  |_=>none
theorem newR_run{α:Type}{w:World}{nb:Nat}(hn:nb=w.heap.size):∀{s:Sem α} {a:α} {o:Obj},newR P nb s=some (a,o)→s.run P w= .ok a {w with heap:=w.heap.push o}
  | .new o k, a, o', hh => by
    simp only[newR] at hh
    cases hc:reck P (k nb) with
    |none=>simp[hc] at hh
    | some x =>
      simp only[hc,Option.some.injEq,Prod.mk.injEq] at hh
      obtain⟨rfl,rfl⟩:=hh
      simp only[Sem.run, ←hn]
      exact reck_run hc _
  | .program k,a,o',hh=>newR_run hn (s:=k P) hh
  | .mark _ k,a,o',hh=>newR_run hn (s:=k) hh
  | .pure _,_,_,hh=>by simp[newR] at hh
  | .load ..,_,_,hh=>by simp[newR] at hh
  | .store ..,_,_,hh=>by simp[newR] at hh
  | .shape ..,_,_,hh=>by simp[newR] at hh
  | .freeze ..,_,_,hh=>by simp[newR] at hh
  | .frozen ..,_,_,hh=>by simp[newR] at hh
  | .getObj ..,_,_,hh=>by simp[newR] at hh
  | .setObj ..,_,_,hh=>by simp[newR] at hh
  | .choose ..,_,_,hh=>by simp[newR] at hh
  | .sys ..,_,_,hh=>by simp[newR] at hh
  | .halt ..,_,_,hh=>by simp[newR] at hh
def newF(P:Program)(nb:Nat)(e:Operand→Value)(o:Oper):Option (Value×Obj):=
  match newR P nb (execOp e o) with
  |some (.value v,o)=>some (v,o)
  |_=>none
def newOp(P:Program)(ops:Array Oper)(base:Nat→Value)(vals:Vals)(i nb:Nat):Option (Value×Obj):=(opE ops base vals i).bind (newF P nb (env ops base vals i))
theorem Does.new{v:Value}{o:Obj}(hx:newOp P ops base vals i h.size =some (v,o)):Does P ops base vals i h fun v' h'=>v'=v∧h'=h.push o:=by
  refine does_split hx fun op ho w hw=> ?_
  subst hw
  unfold newF at ho
  cases hc:newR P w.heap.size (execOp (env ops base vals i) op) with
  |none=>simp[hc] at ho
  | some x =>
    obtain⟨x,o'⟩:=x
    rw[hc] at ho
    cases x<;>simp only[Option.some.injEq,Prod.mk.injEq] at ho<;>first| (cases ho;done)|skip
    obtain⟨rfl,rfl⟩:=ho
    rw[newR_run rfl hc]
    exact⟨⟨rfl,rfl,rfl⟩,rfl,rfl⟩
/-! an element's address -/
def ixF (P : Program) (e : Operand → Value) (o : Oper) : Option (Addr × Nat × Nat × Int) :=
  match o.op with
  | .indexAddr t x ix => match e ix with
    | .int _ n => match P.underlying t with
      | some (.slice el) => match e x, P.info? el with
        | .slice (some a) len _,some i=>some (a,len,i.size,n)
        |_,_=>none
      | some (.array len el) => match e x, P.info? el with
        | .pointer (some a),some i=>some (a,len,i.size,n)
        |_,_=>none
      |_=>none
    |_=>none
  |_=>none
def ixOp(P:Program)(ops:Array Oper)(base:Nat→Value)(vals:Vals)(i:Nat):Option (Addr×Nat×Nat×Int):=(opE ops base vals i).bind (ixF P (env ops base vals i))
theorem Calm.index {a : Addr} {len sz : Nat} {k : Int} (j : Nat) (hx : ixOp P ops base vals i = some (a, len, sz, k)) (hk : k = (j : Int)) (hj : j < len) (h : Heap) : Calm P ops base vals i h (.pointer (some (a.add (j * sz)))) := by
  subst hk
  refine does_split hx fun o ho w hw=> ?_
  have hlt:(0:Int)≤(j:Int)∧(j:Int)<(len:Int):=⟨by omega,by omega⟩
  have hr : (execOp (env ops base vals i) o).run P w = .ok (.value (.pointer (some (a.add (j * sz))))) w := by
    unfold ixF at ho
    cases hop:o.op with
    | indexAddr t x ix =>
      simp only[hop] at ho
      cases hi:env ops base vals i ix with
      | int kk n =>
        simp only[hi] at ho
        cases hu:P.underlying t with
        |none=>simp[hu] at ho
        | some d =>
          cases d<;>simp only[hu] at ho<;>first| (cases ho;done)|skip
          · rename_i el
            cases hv:env ops base vals i x with
            | slice b l c =>
              cases b with
              |none=>simp[hv] at ho
              | some b =>
                cases hinf:P.info? el with
                |none=>simp[hv,hinf] at ho
                | some inf =>
                  simp only[hv,hinf,Option.some.injEq,Prod.mk.injEq] at ho
                  obtain⟨rfl,rfl,rfl,rfl⟩:=ho
                  unfold execOp
                  simp[hop,Instr.indexAt,hi,hv,asIntOf,run_underlying hu,sizeOf,typeInfo,hinf,hlt]
                  omega
            |_=>simp[hv] at ho
          · rename_i n' el
            cases hv:env ops base vals i x with
            | pointer b =>
              cases b with
              |none=>simp[hv] at ho
              | some b =>
                cases hinf:P.info? el with
                |none=>simp[hv,hinf] at ho
                | some inf =>
                  simp only[hv,hinf,Option.some.injEq,Prod.mk.injEq] at ho
                  obtain⟨rfl,rfl,rfl,rfl⟩:=ho
                  unfold execOp
                  simp[hop,Instr.indexAt,hi,hv,asIntOf,run_underlying hu,sizeOf,typeInfo,hinf,hlt,Instr.sureAddr]
                  omega
            |_=>simp[hv] at ho
      |_=>simp[hi] at ho
    |_=>simp[hop] at ho
  rw[hr]
  exact⟨Same.refl w,rfl,hw⟩
/-! a piece of a slice -/
def optInt (e : Operand → Value) : Option Operand → Option (Option Int)
  |none=>some none
  | some x => match e x with
    | .int _ n=>some (some n)
    |_=>none
def slF (P : Program) (e : Operand → Value) (o : Oper) : Option (Option Addr × Nat × Nat × Nat × Option Int × Option Int × Option Int) :=
  match o.op with
  | .slice t x lo hi mx => match P.underlying t with
    | some (.slice el) => match e x, P.info? el, optInt e lo, optInt e hi, optInt e mx with
      | .slice a len cap,some i,some l,some h,some m=>some (a,len,cap,i.size,l,h,m)
      |_,_,_,_,_=>none
    |_=>none
  |_=>none
def slOp(P:Program)(ops:Array Oper)(base:Nat→Value)(vals:Vals)(i:Nat):=(opE ops base vals i).bind (slF P (env ops base vals i))
theorem optInt_run{e:Operand→Value}{x:Option Operand}{r:Option Int}(hx:optInt e x=some r):(x=none∧r=none)∨∃k n,x.map e=some (.int k n)∧r=some n:=by
  cases x with
  |none=>simp only[optInt,Option.some.injEq] at hx;exact .inl ⟨rfl,hx.symm⟩
  | some y =>
    simp only[optInt] at hx
    cases hv:e y with
    |int k n=>simp only[hv,Option.some.injEq] at hx;exact .inr ⟨k,n,by simp[hv],hx.symm⟩
    |_=>simp[hv] at hx
theorem bound_run{k:IntKind}{n m:Nat}(hn:n≤m)(c:BoundsCode)(w:World):(Instr.sliceBound (.int k (n:Int)) m c).run P w= .ok n w:=by
  have:(0:Int)≤(n:Int)∧(n:Int)≤(m:Int):=⟨by omega,by omega⟩
  simp[Instr.sliceBound,asIntOf,this]
theorem bounds_run{len cap l r m:Nat}{lo hi mx:Option Value}(hm:mx=none∧m=cap∨(∃k,mx=some (.int k (m:Int)))∧m≤cap∧hi.isSome =true)(hr:hi=none∧r=len∨∃k,hi=some (.int k (r:Int)))
    (hl:lo=none∧l=0∨∃k,lo=some (.int k (l:Int))) (hlr:l≤r) (hrm:r≤m) (w:World):(Instr.sliceBounds true len cap lo hi mx).run P w= .ok (l,r,m) w:=by
  rcases hm with⟨rfl,rfl⟩|⟨⟨k3,rfl⟩,hm2,hm3⟩<;>rcases hr with⟨rfl,rfl⟩|⟨k2,rfl⟩<;>rcases hl with⟨rfl,rfl⟩|⟨k1,rfl⟩<;>
    first| (simp at hm3;done)|simp[Instr.sliceBounds,bound_run,hlr,hrm,hm2]|simp[Instr.sliceBounds,bound_run,hlr,hrm]
theorem optInt_at{e:Operand→Value}{x:Option Operand}{n:Int}(hx:optInt e x=some (some n)):∃k,x.map e=some (.int k n):=by
  rcases optInt_run hx with⟨_,h⟩|⟨k,n',h1,h2⟩
  · cases h
  · simp only[Option.some.injEq] at h2;subst h2;exact⟨k,h1⟩
theorem optInt_no{e:Operand→Value}{x:Option Operand}(hx:optInt e x=some none):x.map e=none:=by
  rcases optInt_run hx with⟨h,_⟩|⟨k,n',h1,h2⟩
  · subst h;rfl
  · cases h2
theorem Calm.slice {a : Option Addr} {len cap sz : Nat} {lo hi mx : Option Int} (l r m : Nat) (hx : slOp P ops base vals i = some (a, len, cap, sz, lo, hi, mx))
    (hm:mx=none∧m=cap∨mx=some (m:Int)∧m≤cap∧hi.isSome =true) (hr:hi=none∧r=len∨hi=some (r:Int)) (hl:lo=none∧l=0∨lo=some (l:Int)) (hlr:l≤r) (hrm:r≤m) (h:Heap):
    Calm P ops base vals i h (.slice (if m=l then a else a.map (·.add (l*sz))) (r - l) (m - l)):=by
  refine does_split hx fun o ho w hw=> ?_
  have hrun:(execOp (env ops base vals i) o).run P w= .ok (.value (.slice (if m=l then a else a.map (·.add (l*sz))) (r - l) (m - l))) w:=by
    unfold slF at ho
    cases hop:o.op with
    | slice t x lo' hi' mx' =>
      simp only[hop] at ho
      cases hu:P.underlying t with
      |none=>simp[hu] at ho
      | some d =>
        cases d<;>simp only[hu] at ho<;>first| (cases ho;done)|skip
        rename_i el
        cases hv:env ops base vals i x with
        | slice b le ca =>
          cases hinf:P.info? el with
          |none=>simp[hv,hinf] at ho
          | some inf =>
            simp only[hv,hinf] at ho
            cases h1:optInt (env ops base vals i) lo' with
            |none=>simp[h1] at ho
            | some lo1 =>
              cases h2:optInt (env ops base vals i) hi' with
              |none=>simp[h1,h2] at ho
              | some hi1 =>
                cases h3:optInt (env ops base vals i) mx' with
                |none=>simp[h1,h2,h3] at ho
                | some mx1 =>
                  simp only[h1,h2,h3,Option.some.injEq,Prod.mk.injEq] at ho
                  obtain⟨rfl,rfl,rfl,rfl,rfl,rfl,rfl⟩:=ho
                  have hb:(Instr.sliceBounds true le ca (lo'.map (env ops base vals i)) (hi'.map (env ops base vals i)) (mx'.map (env ops base vals i))).run P w= .ok (l,r,m) w:=by
                    refine bounds_run ?_ ?_ ?_ hlr hrm w
                    · rcases hm with ⟨e1, e2⟩ | ⟨e1, e2, e3⟩
                      · subst e1;exact .inl ⟨optInt_no h3,e2⟩
                      · subst e1
                        refine .inr ⟨optInt_at h3,e2, ?_⟩
                        cases hi1 with
                        |none=>simp at e3
                        |some q=>obtain⟨k,hk⟩:=optInt_at h2;rw[hk];rfl
                    · rcases hr with ⟨e1, e2⟩ | e1
                      · subst e1;exact .inl ⟨optInt_no h2,e2⟩
                      · subst e1;exact .inr (optInt_at h2)
                    · rcases hl with ⟨e1, e2⟩ | e1
                      · subst e1;exact .inl ⟨optInt_no h1,e2⟩
                      · subst e1;exact .inr (optInt_at h1)
                  unfold execOp
                  simp[hop,Instr.sliceAt,Instr.slice,hv,run_underlying hu,sizeOf,typeInfo,hinf,hb]
        |_=>simp[hv] at ho
    |_=>simp[hop] at ho
  rw[hrun]
  exact⟨Same.refl w,rfl,hw⟩
end
end Go.Lane
namespace Go.Lane
open Go
section
variable {P:Program} {h:Heap}
theorem goodOf{ops:Array Oper}{base:Nat→Value}{vals:Vals}{i:Nat}{v:Value}(hc:Calm P ops base vals i h v)(hv:vals i=v:=by rfl):Good P ops base vals h i:=by
  obtain⟨o,ho,hw,hf⟩:=hc.does
  exact⟨o,ho, .inl ⟨hw,by rw[hv];exact hf⟩⟩
theorem Loads.blk{T:TypeId}{b off:Nat}{vs:List Value}{cs:Array Value}{E:TypeId}{fr:Nat×Nat}(ht:aggTy P T=some (true,vs.length))(hb:h[b]? =some (.cells cs E fr))(hv:(cs.toList.drop off).take vs.length =vs):Loads P h T ⟨b,off,none⟩ (.agg vs.toArray):=by
  refine Loads.agg ht fun j u hu=> ?_
  rw[add_lit,hcell_blk hb]
  rw[←hv,List.getElem?_take] at hu
  split at hu
  · rw[List.getElem?_drop] at hu;simpa using hu
  · cases hu
end
end Go.Lane
namespace Go.Lane
open Go
section
variable {P:Program} {ops:Array Oper} {base:Nat→Value} {vals:Vals} {h:Heap} {i:Nat}
theorem w64'{x y:Int}(h1: -9223372036854775808≤x)(h2:x≤9223372036854775807)(e:x=y):IntKind.i64.wrap x=y:=e▸w64 h1 h2
/-! a shift by a number that is told elsewhere -/
def shF (e : Operand → Value) (o : Oper) : Option (Bool × IntKind × Int × Int) :=
  match o.op with
  | .binOp .shr _ x y _ => match e x, e y with
    | .int k a, .int _ b=>some (true,k,a,b)
    |_,_=>none
  | .binOp .shl _ x y _ => match e x, e y with
    | .int k a, .int _ b=>some (false,k,a,b)
    |_,_=>none
  |_=>none
def shOp(ops:Array Oper)(base:Nat→Value)(vals:Vals)(i:Nat):=(opE ops base vals i).bind (shF (env ops base vals i))
theorem Calm.shr {k : IntKind} {x y : Int} (n : Nat) (hx : shOp ops base vals i = some (true, k, x, y)) (hy : y = (n : Int)) (hn : n ≤ k.bits) (h : Heap) : Calm P ops base vals i h (.int k (x.fdiv (2 ^ n))) := by
  subst hy
  refine does_split hx fun o ho w hw=> ?_
  have hr:(execOp (env ops base vals i) o).run P w= .ok (.value (.int k (x.fdiv (2^n)))) w:=by
    unfold shF at ho
    cases hop:o.op with
    | binOp op T a b T' =>
      cases op<;>simp only[hop] at ho<;>first| (cases ho;done)|skip
      · cases ha:env ops base vals i a<;>cases hb:env ops base vals i b<;>simp[ha,hb] at ho
      · cases ha : env ops base vals i a <;> cases hb : env ops base vals i b <;> simp only [ha, hb] at ho <;> first | (cases ho; done) | skip
        simp only[Option.some.injEq,Prod.mk.injEq,true_and] at ho
        obtain⟨rfl,rfl,rfl⟩:=ho
        have hneg:¬((n:Int)<0):=by omega
        unfold execOp
        simp[hop,eqGuard,binOp,ha,hb,Op.shift,hneg,Nat.min_eq_left hn]
    |_=>simp[hop] at ho
  rw[hr]
  exact⟨Same.refl w,rfl,hw⟩
/-! append to one's own -/
def elF (P : Program) (t : TypeId) : Option (TypeId × Nat × Nat × Bool) :=
  match P.underlying t with
  | some (.slice e) => match P.info? e with
    |some i=>some (e,i.size,i.bytes,match i.zero with|some z=>Nat.beq z.cells.size i.size &&Nat.blt 0 i.size |none=>false)
    |none=>none
  |_=>none
theorem elF_spec{t E:TypeId}{sz by_:Nat}(he:elF P t=some (E,sz,by_,true)):P.underlying t=some (.slice E)∧∃i z,P.info? E=some i∧i.zero =some z∧i.size =sz∧i.bytes =by_∧z.cells.size =sz∧0<sz:=by
  unfold elF at he
  cases hu:P.underlying t with
  |none=>simp[hu] at he
  | some d =>
    cases d<;>simp only[hu] at he<;>first| (cases he;done)|skip
    rename_i e
    cases hi:P.info? e with
    |none=>simp[hi] at he
    | some x =>
      simp only[hi,Option.some.injEq,Prod.mk.injEq] at he
      obtain⟨rfl,h1,h2,h3⟩:=he
      cases hz:x.zero with
      |none=>simp[hz] at h3
      | some z =>
        simp only[hz,Bool.and_eq_true] at h3
        have h4:=Nat.eq_of_beq_eq_true h3.1
        have h5:0<x.size :=by simpa using h3.2
        exact⟨rfl,x,z,hi,hz,h1,h2,by omega,by omega⟩
def apF (e : Operand → Value) (o : Oper) : Option (TypeId × TypeId × Value × Value) :=
  match o.op with
  | .call c => match c.callee, c.args.toList, c.argTypes.toList with
    | .builtin .append,[s,x],[t,t']=>some (t,t',e s,e x)
    |_,_,_=>none
  |_=>none
def apOp(ops:Array Oper)(base:Nat→Value)(vals:Vals)(i:Nat):=(opE ops base vals i).bind (apF (env ops base vals i))
theorem apF_run{e:Operand→Value}{o:Oper}{t t':TypeId}{v x:Value}(hx:apF e o=some (t,t',v,x))(w:World){r:Value}{w':World}(hr:(Builtin.append_ #[t,t'] o.type #[v,x]).run P w= .ok r w'):
    (execOp e o).run P w= .ok (.value r) w':=by
  unfold apF at hx
  cases hop:o.op with
  | call c =>
    obtain⟨cal,args,tys⟩:=c
    obtain⟨args⟩:=args
    obtain⟨tys⟩:=tys
    simp only[hop] at hx
    split at hx
    · skip
      simp only[Option.some.injEq,Prod.mk.injEq] at hx
      obtain⟨rfl,rfl,rfl,rfl⟩:=hx
      unfold execOp
      simp only[hop,resolve,invoke,builtin,Sem.run_bind,Sem.run_pure,Result.andThen_ok,List.map_toArray,List.map_cons,List.map_nil,hr]
    · cases hx
  |_=>simp[hop] at hx
theorem Does.append{t E:TypeId}{sz by_ n m:Nat}{v x:Value}{xs ys:List Value}(hx:apOp ops base vals i=some (t,t,v,x))(he:elF P t=some (E,sz,by_,true))
    (ho:Own h v E n sz xs) (hr:Row h x m sz ys) (h1:∀u∈ys,u.oneCell' =true) (hlen:n+m≤maxLen) (hbytes:(n+m)*by_≤140737488355328):
    Does P ops base vals i h fun v' h'=>Own h' v' E (n+m) sz (xs++ys)∧Grew (blkOf v) h h'∧(blkOf v'=blkOf v∨blkOf v'=some h.size)∧(v'= .slice none 0 0∨∃a c,v'= .slice (some a) (n+m) c):=by
  obtain⟨hu,inf,z,hi,hz,hsize,hby,hzs,hpos⟩:=elF_spec he
  subst hsize;subst hby
  have hlen':(xs++ys).length =(n+m)*inf.size :=by rw[List.length_append,ho.1,hr.1,Nat.add_mul]
  have h63:n+m≤9223372036854775807:=by simp only[maxLen] at hlen;omega
  refine does_split hx fun o hop w hw=> ?_
  subst hw
  -- a new row
  have grown:∀(old:Nat),old<n+m→∀b,(w.drew.alloc (.cells (xs.toArray ++ys.toArray ++Builtin.zeroCells z.cells (grownCap w (n+m) old E - (n+m))) E)).heap =b→
      Own b (.slice (some ⟨w.heap.size,0,none⟩) (n+m) (grownCap w (n+m) old E)) E (n+m) inf.size (xs++ys)∧Ext w.heap b:=by
    intro old hold b hb
    subst hb
    have hge:=grownCap_ge w (n+m) old E
    have hcm:=grownCap_le_maxLen w (n+m) old E hlen
    refine⟨⟨hlen', .inr ⟨w.heap.size,0,_,_,rfl,heap_alloc_new w.drew _,hge,hcm, ?_, ?_⟩⟩,Ext.push _ _⟩
    · simp only [Array.size_append, List.size_toArray, size_zeroCells, hzs, ho.1, hr.1, ← Nat.add_mul]
      apply Nat.le_of_eq
      rw[Nat.zero_add]
      congr 1
      omega
    · simp only [Array.toList_append, List.append_assoc, List.drop_zero]
      rw[←List.append_assoc, ←hlen']
      exact List.take_left
  suffices key:∃v' w',(Builtin.append_ #[t,t] o.type #[v,x]).run P w= .ok v' w'∧Same w w'∧Own w'.heap v' E (n+m) inf.size (xs++ys)∧Grew (blkOf v) w.heap w'.heap ∧(blkOf v'=blkOf v∨blkOf v'=some w.heap.size)∧
      (v'= .slice none 0 0∨∃a c,v'= .slice (some a) (n+m) c) by
    obtain⟨v',w',hrun,hs,r⟩:=key
    rw[apF_run hop w hrun]
    exact⟨hs,r⟩
  rcases ho.2 with⟨hv,hn⟩|⟨g,off,cap,l,hv,hg,hnc,hcm,hfit,htake⟩
  · subst hv; subst hn
    have hxs:xs=[]:=List.eq_nil_of_length_eq_zero (by simpa using ho.1)
    subst hxs
    by_cases hm:m=0
    · subst hm
      have hys:ys=[]:=List.eq_nil_of_length_eq_zero (by simpa using hr.1)
      subst hys
      refine⟨.slice none 0 0,w, ?_,Same.refl w,Own.nil _ _ _,Grew.refl _ _, .inl rfl, .inl rfl⟩
      rcases hr.2 with⟨hxv,_⟩|⟨a,c,hxv,_,_⟩<;>subst hxv<;>
        simp[Builtin.append_,run_underlying hu,sizeOf,typeInfo,hi,Builtin.lenOf,Builtin.firstCells,loadCells,loadCellsFrom]
    · obtain ⟨a, c, hxv, _, hcells⟩ := hr.at (by omega)
      subst hxv
      have hrun:=run_append_nil (P:=P) w t o.type E inf z hu hi hz a m c ys hr.1 (fun j u hu=>hcells j u hu) (by omega) (by omega) (by have hb:=hbytes;simp only[Nat.zero_add] at hb;omega)
      have hgr:=grown 0 (by omega) _ rfl
      simp only[Nat.zero_add,List.nil_append,Array.empty_append] at hgr⊢
      exact⟨_,_,hrun,⟨rfl,rfl,rfl⟩,hgr.1,hgr.2.but _, .inr rfl, .inr ⟨_,_,rfl⟩⟩
  · subst hv
    by_cases hroom:n+m≤cap
    · have hfirst : (Builtin.firstCells inf.size m x).run P w = .ok ys.toArray w := by
        rcases hr.2 with⟨hxv,hm⟩|⟨a,c,hxv,_,hcells⟩
        · subst hxv; subst hm
          have hys:ys=[]:=List.eq_nil_of_length_eq_zero (by simpa using hr.1)
          subst hys;rfl
        · subst hxv;exact run_firstCells_some (P:=P) w inf.size m a m c ys hr.1 (fun j u hu=>hcells j u hu)
      have hlenx:(Builtin.lenOf x).run P w= .ok m w:=by
        rcases hr.2 with⟨hxv,hm⟩|⟨a,c,hxv,_,_⟩<;>subst hxv<;>simp[Builtin.lenOf, *]
      have hmul:n*inf.size +m*inf.size ≤cap*inf.size :=by rw[←Nat.add_mul];exact Nat.mul_le_mul_right _ hroom
      have hfit2:(off+n*inf.size)+0+ys.length ≤l.size :=by rw[hr.1];omega
      have hst:=run_storeCells_at P g (off+n*inf.size) E ys 0 l w hg hfit2 h1
      simp only[Nat.add_zero] at hst
      have hrun:(Builtin.append_ #[t,t] o.type #[.slice (some ⟨g,off,none⟩) n cap,x]).run P w=
          .ok (.slice (some ⟨g,off,none⟩) (n+m) cap) (w.setRow g (l.toList.take (off+n*inf.size)++ys++l.toList.drop (off+n*inf.size +ys.length)).toArray):=by
        simp[Builtin.append_,run_underlying hu,sizeOf,typeInfo,hi,hlenx,hroom,hfirst,add_lit,hst]
      have hh:=setRow_hput (cs':=(l.toList.take (off+n*inf.size)++ys++l.toList.drop (off+n*inf.size +ys.length)).toArray) hg
      refine⟨_,_,hrun,⟨rfl,rfl,rfl⟩, ?_, ?_, .inl rfl, .inr ⟨_,_,rfl⟩⟩
      · rw [hh]
        refine⟨hlen', .inr ⟨g,off,cap,_,rfl,hput_same hg,hroom,hcm, ?_, ?_⟩⟩
        · simp only [List.size_toArray, List.length_append, List.length_take, List.length_drop, Array.length_toList]
          rw[hr.1] at hfit2⊢
          omega
        · simp only [List.append_assoc]
          have hl1:(l.toList.take (off+n*inf.size)).length =off+n*inf.size :=by
            rw[List.length_take,Array.length_toList];rw[hr.1] at hfit2;omega
          rw[List.drop_append_of_le_length (by omega)]
          have hxs:(l.toList.take (off+n*inf.size)).drop off=xs:=by
            rw[List.drop_take,Nat.add_sub_cancel_left];exact htake
          rw[hxs, ←List.append_assoc, ←hlen']
          exact List.take_left
      · rw[hh];exact hput_grew _ _ _
    · have hm : 0 < m := by omega
      obtain⟨a,c,hxv,_,hcells⟩:=hr.at hm
      subst hxv
      have hrow:=ho.row
      have holds:∀j u,xs[j]? =some u→w.cell? ((⟨g,off,none⟩:Addr).add j)=some u:=by
        intro j u hu'
        obtain⟨a',c',e',_,hc'⟩:=hrow.2.resolve_left (by simp)
        simp only[Value.slice.injEq,Option.some.injEq] at e'
        rw[e'.1]
        exact hc' j u hu'
      have hrun:=run_append_grow (P:=P) w t o.type E inf z hu hi hz ⟨g,off,none⟩ n cap xs ho.1 holds a m c ys hr.1 (fun j u hu=>hcells j u hu) (by omega) (by omega) (growslice_fits (by omega) hbytes)
      have hgr:=grown cap (by omega) _ rfl
      exact⟨_,_,hrun,⟨rfl,rfl,rfl⟩,hgr.1,hgr.2.but _, .inr rfl, .inr ⟨_,_,rfl⟩⟩
end
end Go.Lane
namespace Go.Lane
open Go
section
variable {P:Program} {ops:Array Oper} {base:Nat→Value} {vals:Vals} {i:Nat}
theorem Calm.indexA{a:Addr}{len sz:Nat}{k:Int}(j q:Nat)(hx:ixOp P ops base vals i=some (a,len,sz,k))(hk:k=(j:Int))(hj:j<len)(hq:j*sz=q)(h:Heap):Calm P ops base vals i h (.pointer (some (a.add q))):=
  hq▸Calm.index j hx hk hj h
theorem Calm.indexB{b off len sz:Nat}{k:Int}(j q:Nat)(hx:ixOp P ops base vals i=some (⟨b,off,none⟩,len,sz,k))(hk:k=(j:Int))(hj:j<len)(hq:off+j*sz=q)(h:Heap):Calm P ops base vals i h (.pointer (some ⟨b,q,none⟩)):=by
  have:=Calm.index (P:=P) j hx hk hj h
  rwa [add_lit,hq] at this
end
end Go.Lane
namespace Go.Lane
open Go
section
variable {P:Program} {K:Exit→Act→Heap→Prop} {B:Code} {p:List Nat} {a:Act} {h:Heap}
def Crounds(P:Program)(B:Code)(p0:List Nat)(K:Exit→Act→Heap→Prop):Nat→Act→Heap→Prop
  |0,_,_=>False
  |n+1,a,h=>C P (sub B p0) (thenK (Crounds P B p0 K n) K) a h
theorem Cround.step{p0:List Nat}{n:Nat}(hh:C P (sub B p0) (thenK (Crounds P B p0 K n) K) a h):Crounds P B p0 K (n+1) a h:=hh
theorem C.unroll(n:Nat)(p0:List Nat)(hc:sub B p= .loop (sub B p0))(hh:Crounds P B p0 K n a h):C P (sub B p) K a h:=by
  rw[hc]
  intro w hw
  refine wp_loop_rounds n ?_
  have key:∀n a w',Same w w'→Crounds P B p0 K n a w'.heap →Code.rounds P (sub B p0) (fun e a' w''=>Same w w''∧K e a' w''.heap) n a w':=by
    intro n
    induction n with
    |zero=>intro a w' _ hh;exact hh.elim
    | succ n ih =>
      intro a w' hs hh
      refine wp_mono (hh w' rfl) fun e a2 w2 ⟨s,k⟩=> ?_
      cases e with
      |normal=>exact ih a2 w2 (hs.trans s) k
      |exit i=>exact⟨hs.trans s,k⟩
      |goto l=>exact⟨hs.trans s,k⟩
      |ret=>exact⟨hs.trans s,k⟩
      |panic c=>exact⟨hs.trans s,k⟩
      |outgrown=>exact⟨hs.trans s,k⟩
  exact key n a w (Same.refl w) (hw▸hh)
theorem tmodN(x n:Nat):Int.tmod (x:Int) (n:Int)=((x%n:Nat):Int):=by
  rw[Int.natCast_emod];exact Int.tmod_eq_emod_of_nonneg (Int.natCast_nonneg _)
theorem tdivN(x n:Nat):Int.tdiv (x:Int) (n:Int)=((x/n:Nat):Int):=by
  rw[Int.natCast_ediv];exact Int.tdiv_eq_ediv_of_nonneg (Int.natCast_nonneg _)
end
end Go.Lane
namespace Go.Lane
open Go
theorem hput_at{h h':Heap}{b off:Nat}{l vs l':List Value}{E:TypeId}{x:Obj}(hh:h'=hput h b (.cells (splice l off vs).toArray E (0,0)))(e:splice l off vs=l')(m:h[b]? =some x):h'[b]? =some (.cells l'.toArray E):=by
  subst hh;rw[e];exact hput_same m
theorem hput_gr{h h':Heap}{b:Nat}{o:Obj}(hh:h'=hput h b o):Grew (some b) h h':=by subst hh;exact hput_grew _ _ _
theorem push_at{h h':Heap}{o:Obj}(hh:h'=h.push o):h'[h.size]? =some o:=by subst hh;exact push_new _ _
theorem push_ext{h h':Heap}{o:Obj}(hh:h'=h.push o):Ext h h':=by subst hh;exact Ext.push _ _
end Go.Lane
namespace Go.Lane
open Go
theorem ge_next{B n:Nat}{o o':Option Nat}(h:∀k,o=some k→B≤k)(hb:o'=o∨o'=some n)(hn:B≤n):∀k,o'=some k→B≤k:=by
  intro k hk
  rcases hb with e|e
  · exact h k (e▸hk)
  · rw[e] at hk;cases hk;exact hn
theorem Own.empty{h:Heap}{g:Nat}{E:TypeId}(sz:Nat)(m:h[g]? =some (.cells #[] E)):Own h (.slice (some ⟨g,0,none⟩) 0 0) E 0 sz []:=
  ⟨by simp, .inr ⟨g,0,0, #[],rfl,m,Nat.le_refl _,by simp[maxLen],by simp,by simp⟩⟩
theorem Row.blk{h:Heap}{b n sz:Nat}{l:List Value}{E:TypeId}{fr:Nat×Nat}(m:h[b]? =some (.cells l.toArray E fr))(hn:l.length =n*sz):Row h (.slice (some ⟨b,0,none⟩) n n) n sz l:=
  ⟨hn, .inr ⟨_,_,rfl,Nat.le_refl _,fun j u hu=>by rw[add_lit,hcell_blk m];simpa using hu⟩⟩
theorem not_decide_true{p:Prop}[Decidable p](h:(!decide p)=true):¬p:=by simpa using h
theorem not_decide_false{p:Prop}[Decidable p](h:(!decide p)=false):p:=by simpa using h
theorem blk_ge{B:Nat}(x:Nat)(h:B≤x):∀k,(some ⟨x,0,none⟩:Option Addr).map (·.block)=some k→B≤k:=by
  intro k hk;simp at hk;omega
end Go.Lane
namespace Go.Lane
open Go
theorem Own.app{α:Type}{h:Heap}{ad:Option Addr}{n m c sz:Nat}{E:TypeId}{f:α→Value}{L Y L2:List α}(o:Own h (.slice ad (n+m) c) E (n+m) sz (L.map f++Y.map f))(hL:L++Y=L2)(hn:n+m=L2.length):
    Own h (.slice ad L2.length c) E L2.length sz (L2.map f):=by
  subst hL;rw[List.map_append, ←hn];exact o
end Go.Lane
namespace Go.Lane
open Go
theorem Loads.all{P:Program}{h:Heap}{T:TypeId}{b:Nat}{vs:List Value}{E:TypeId}{fr:Nat×Nat}(ht:aggTy P T=some (true,vs.length))(hb:h[b]? =some (.cells vs.toArray E fr)):Loads P h T ⟨b,0,none⟩ (.agg vs.toArray):=
  Loads.blk ht hb (by simp)
end Go.Lane
namespace Go.Lane
open Go
@[reducible] def pV(b:Nat):Value:= .pointer (some ⟨b,0,none⟩)
@[reducible] def nV(k:Nat):Value:= .int .i64 ((k:Nat):Int)
section
variable {P:Program} {B:Code} {p:List Nat} {K:Exit→Act→Heap→Prop} {a:Act} {h:Heap} {ops:Array Oper} {base:Nat→Value} {vals:Vals} {n:Nat}
theorem cS(hh:C P (sub B (p++[0])) (thenK (fun a h=>C P (sub B (p++[1])) K a h) K) a h)(hc:sub B p= .seq (sub B (p++[0])) (sub B (p++[1])):=by kernel_rfl):C P (sub B p) K a h:=C.seq _ _ hc hh
theorem tK{N:Act→Heap→Prop}(hh:N a h):thenK N K .normal a h:=hh
theorem cD{L:List (Nat×Value)}(A:List Nat)(id:Nat)(hm:P.follows .mixedOrders =true)(hf:Fr a n L)(hh:SimK P (opsAt B p) A n (fun t=>lk L t (a.tmps.getD t undef)) K 0 0 0 (fun _=>undef) h)(hc:sub B p= .region id (opsAt B p) true:=by kernel_rfl)(hok:regOk (opsAt B p) A n=true:=by kernel_rfl):C P (sub B p) K a h:=C.draw id hc hm hf hok hh
theorem mP{A:List Nat}{D X Wd:Nat}(D':Nat)(is:List Nat)(vs:List Value)(hs:SimK P ops A n base K D' X Wd (vsets vals is vs) h)(hp:pureVals P ops A base is vs D vals Wd=some (vs.map some,D'):=by kernel_rfl):SimK P ops A n base K D X Wd vals h:=SimK.pures hp hs
theorem m1{A:List Nat}{D X Wd:Nat}(D' i:Nat)(v v':Value)(e:v'=v)(hs:SimK P ops A n base K D' X Wd (vset vals i v) h)(hc:(canReg ops A D i&& !(Wd.testBit i))=true:=by kernel_rfl)(hD:D|||2^i=D':=by kernel_rfl)(hv:pureVal P ops base vals i=some v':=by kernel_rfl):SimK P ops A n base K D X Wd vals h:=SimK.pure1 hc hD hv e hs
theorem mF{A:List Nat}{D X Wd:Nat}(D' i:Nat)(v:Value)(hv:∀h',Calm P ops base vals i h' v)(hs:SimK P ops A n base K D' X Wd (vset vals i v) h)(hc:(canReg ops A D i&& !(Wd.testBit i))=true:=by kernel_rfl)(hD:D|||2^i=D':=by kernel_rfl):SimK P ops A n base K D X Wd vals h:=SimK.free hc hD hv hs
theorem mL{A:List Nat}{D X Wd:Nat}(D' Wd' i:Nat)(v:Value)(hv:Calm P ops base vals i h v)(hs:SimK P ops A n base K D' X Wd' (vset vals i v) h)(hc:canReg ops A D i=true:=by kernel_rfl)(hD:D|||2^i=D':=by kernel_rfl)(hW:Wd|||2^i=Wd':=by kernel_rfl):SimK P ops A n base K D X Wd vals h:=SimK.look hc hD hW hv hs
theorem cT{L:List (Nat×Value)}(t:Nat)(hf:Fr a n L)(hh:C P (sub B (p++[0])) K a h)(hc:sub B p= .cond (.tmp t) (sub B (p++[0])) (sub B (p++[1])):=by kernel_rfl)(hv:∀d,lk L t d= .bool true:=by intro _;rfl):C P (sub B p) K a h:=C.condT t _ _ hc hf hv hh
theorem cF{L:List (Nat×Value)}(t:Nat)(hf:Fr a n L)(hh:C P (sub B (p++[1])) K a h)(hc:sub B p= .cond (.tmp t) (sub B (p++[0])) (sub B (p++[1])):=by kernel_rfl)(hv:∀d,lk L t d= .bool false:=by intro _;rfl):C P (sub B p) K a h:=C.condF t _ _ hc hf hv hh
theorem cC{L:List (Nat×Value)}(t:Nat)(b:Bool)(hf:Fr a n L)(ht:b=true→C P (sub B (p++[0])) K a h)(he:b=false→C P (sub B (p++[1])) K a h)(hc:sub B p= .cond (.tmp t) (sub B (p++[0])) (sub B (p++[1])):=by kernel_rfl)(hv:∀d,lk L t d= .bool b:=by intro _;rfl):C P (sub B p) K a h:=C.condS t b _ _ hc hf hv ht he
theorem cN(hh:K .normal a h)(hc:sub B p= .skip :=by kernel_rfl):C P (sub B p) K a h:=C.skip hc hh
theorem cX(id:Nat)(hh:K (.exit id) a h)(hc:sub B p= .exit id:=by kernel_rfl):C P (sub B p) K a h:=C.exit id hc hh
theorem cR(hh:K .ret a h)(hc:sub B p= .ret :=by kernel_rfl):C P (sub B p) K a h:=C.ret hc hh
theorem cB(id:Nat)(hh:C P (sub B (p++[0])) (blockK id K) a h)(hc:sub B p= .block id (sub B (p++[0])):=by kernel_rfl):C P (sub B p) K a h:=C.block id _ hc hh
theorem Fr.to{L L':List (Nat×Value)}(hf:Fr a n L)(hL:∀g:Nat→Value,((L'.map Prod.fst).map fun t=>(t,lk L t (g t)))=L':=by intro g;kernel_rfl):Fr a n L':=by
  rw[←hL fun t=>a.tmps.getD t undef]
  exact⟨hf.defers,hf.size,fun t=>lk_zip hf.get _ t⟩
end
end Go.Lane
namespace Go.Lane
open Go
/-! ### shorter texts: a row of pure operations by itself; a frame by what has come up -/
def plainAt:Code→Bool
  | .region _ _ false=>true
  |_=>false
def rid:Code→Nat
  | .region i _ _=>i
  |_=>0
section
variable {P:Program} {B:Code} {p:List Nat} {K:Exit→Act→Heap→Prop} {N:Act→Heap→Prop} {a:Act} {h:Heap} {ops:Array Oper} {base:Nat→Value} {vals:Vals} {n:Nat}
theorem plain_eq(hp:plainAt (sub B p)=true):sub B p= .region (rid (sub B p)) (opsAt B p) false:=by
  unfold opsAt
  cases h:sub B p with
  | region i o d => cases d with
    |false=>rfl
    |true=>simp[h,plainAt] at hp
  |_=>simp[h,plainAt] at hp
def runP {α : Type} (P : Program) (ops : Array Oper) (base : Nat → Value) (fin : Vals → α) : Nat → Nat → Vals → Option α
  |0,_,vals=>some (fin vals)
  | m + 1, k, vals => match pureVal P ops base vals k with
    |some v=>runP P ops base fin m (k+1) (vset vals k v)
    |none=>none
def foldP (P : Program) (ops : Array Oper) (base : Nat → Value) : Nat → Nat → Vals → Vals
  |0,_,vals=>vals
  | m + 1, k, vals => match pureVal P ops base vals k with
    |some v=>foldP P ops base m (k+1) (vset vals k v)
    |none=>vals
def okP(P:Program)(ops:Array Oper)(base:Nat→Value)(m k:Nat)(vals:Vals):Bool:=(runP P ops base (fun _=>()) m k vals).isSome
theorem runP_fold{α:Type}{fin:Vals→α}:∀{m k:Nat} {vals:Vals} {r:α},runP P ops base fin m k vals=some r→fin (foldP P ops base m k vals)=r
  |0,_,_,_,h=>by simpa[runP,foldP] using h
  | m + 1, k, vals, r, h => by
    unfold runP at h;unfold foldP
    cases hv:pureVal P ops base vals k with
    |none=>simp[hv] at h
    |some v=>simp only[hv] at h;exact runP_fold h
theorem SeqK.fold{α:Type}{fin:Vals→α}{r:α}:∀{m k:Nat} {vals:Vals},runP P ops base fin m k vals=some r→SeqK P ops n base K (k+m) (foldP P ops base m k vals) h→SeqK P ops n base K k vals h
  |0,k,vals,_,hs=>hs
  | m + 1, k, vals, hr, hs => by
    unfold runP at hr;unfold foldP at hs
    cases hv:pureVal P ops base vals k with
    |none=>simp[hv] at hr
    | some v =>
      simp only[hv] at hr hs
      exact SeqK.pure1 hv rfl rfl (SeqK.fold hr (by rw[show k+1+m=k+(m+1) by omega];exact hs))
theorem SeqK.skip{m k:Nat}{vals:Vals}(hr:okP P ops base m k vals=true)(hs:SeqK P ops n base K (k+m) (foldP P ops base m k vals) h):SeqK P ops n base K k vals h:=by
  unfold okP at hr
  cases hv:runP P ops base (fun _=>()) m k vals with
  |none=>simp[hv] at hr
  |some r=>exact SeqK.fold hv hs
/-! a frame: what has come up, ahead of what was -/
def hasKey:List (Nat×Value)→Nat→Bool
  |[],_=>false
  | (k,_)::r,t=>Nat.beq k t||hasKey r t
def freshOk(L ch:List (Nat×Value)):List Oper→Bool
  |[]=>true
  |o::r=>(match o.dst with|some d=>hasKey ch d|| !(hasKey L d)|none=>true)&&freshOk L ch r
theorem lk_app(L':List (Nat×Value))(t:Nat)(d:Value):∀L,lk (L++L') t d=lk L t (lk L' t d)
  |[]=>rfl
  | (k,v)::L=>by simp only[List.cons_append,lk];rw[lk_app L' t d L]
theorem lk_no:∀{L:List (Nat×Value)} {t:Nat} {d:Value},hasKey L t=false→lk L t d=d
  |[],_,_,_=>rfl
  | (k, v) :: L, t, d, h => by
    simp only[hasKey,Bool.or_eq_false_iff] at h
    simp only[lk,h.1]
    exact lk_no h.2
theorem lk_has:∀{L:List (Nat×Value)} {t:Nat} {d d':Value},hasKey L t=true→lk L t d=lk L t d'
  |[],_,_,_,h=>by simp[hasKey] at h
  | (k, v) :: L, t, d, d', h => by
    simp only[lk]
    cases e:Nat.beq k t with
    |true=>rfl
    |false=>simp only[hasKey,e,Bool.false_or] at h;simp only;exact lk_has h
theorem freshOk_spec{L ch:List (Nat×Value)}:∀{l:List Oper},freshOk L ch l=true→∀o∈l,∀d,o.dst =some d→hasKey ch d=true∨hasKey L d=false
  |[],_,o,ho,_,_=>by simp at ho
  | o :: r, h, o', ho, d, hd => by
    simp only[freshOk,Bool.and_eq_true] at h
    rcases List.mem_cons.1 ho with e|e
    · subst e
      have:=h.1
      simp only[hd,Bool.or_eq_true,Bool.not_eq_true'] at this
      exact this
    · exact freshOk_spec h.2 o' e d hd
theorem slotE_free{k t:Nat}(ht:∀o∈ops.toList,o.dst ≠some t):slotE ops base vals k t=base t:=by
  unfold slotE
  rw[lastP_eq_none]
  intro j _
  cases ho:ops[j]? with
  |none=>simp[dst,ho]
  | some o =>
    have:=ht o (by simpa using Array.mem_of_getElem? ho)
    simp[dst,ho,this]
theorem slotS_free{s:Nat→Bool}{t:Nat}(ht:∀o∈ops.toList,o.dst ≠some t):slotS ops base vals s t=base t:=by
  unfold slotS
  rw[lastP_eq_none]
  intro j _
  cases ho:ops[j]? with
  |none=>simp[dst,ho]
  | some o =>
    have:=ht o (by simpa using Array.mem_of_getElem? ho)
    simp[dst,ho,this]
theorem frame_next{L ch:List (Nat×Value)}{b:Act}{f g:Nat→Value}(hb:∀t,b.tmps.getD t undef=f t)(hfree:∀t,(∀o∈ops.toList,o.dst ≠some t)→f t=lk L t (g t))
    (hch:((ch.map Prod.fst).map fun t=>(t,f t))=ch) (hfr:freshOk L ch ops.toList =true) (t:Nat):b.tmps.getD t undef=lk (ch++L) t (b.tmps.getD t undef):=by
  rw[lk_app]
  have h1:=lk_zip hb (ch.map Prod.fst) t
  rw[hch] at h1
  cases hk:hasKey ch t with
  |true=>rw[lk_has hk];exact h1
  | false =>
    rw[lk_no hk]
    by_cases hw:∃o∈ops.toList,o.dst =some t
    · obtain ⟨o, ho, hd⟩ := hw
      rcases freshOk_spec hfr o ho t hd with h|h
      · rw[hk] at h;cases h
      · rw[lk_no h]
    · have hft := hfree t fun o ho e => hw ⟨o, ho, e⟩
      cases hL:hasKey L t with
      | true => conv => lhs; rw [hb t, hft]
                exact lk_has hL
      |false=>rw[lk_no hL]
theorem SeqK.doneD{k:Nat}{L ch:List (Nat×Value)}{g:Nat→Value}(hk:k=ops.size)(hch:((ch.map Prod.fst).map fun t=>(t,slotE ops (fun t=>lk L t (g t)) vals k t))=ch)(hfr:freshOk L ch ops.toList =true)
    (hQ:∀a,Fr a n (ch++L)→K .normal a h):SeqK P ops n (fun t=>lk L t (g t)) K k vals h:=by
  subst hk
  intro w0 _ a w h1 h2 h3 hs hh
  rw[Nat.sub_self]
  refine⟨hs, ?_⟩
  rw[hh]
  exact hQ a ⟨h1,h2,frame_next (f:=fun t=>slotE ops (fun t=>lk L t (g t)) vals ops.size t) (g:=g) h3 (fun t ht=>slotE_free ht) hch hfr⟩
theorem SimK.doneD{A:List Nat}{D X Wd:Nat}{L ch:List (Nat×Value)}{g:Nat→Value}(hD:D=2^ops.size - 1)(hch:((ch.map Prod.fst).map fun t=>(t,slotS ops (fun t=>lk L t (g t)) vals (fun _=>true) t))=ch)(hfr:freshOk L ch ops.toList =true)
    (hQ:∀a,Fr a n (ch++L)→K .normal a h):SimK P ops A n (fun t=>lk L t (g t)) K D X Wd vals h:=by
  intro w0
  refine Sim.done (fun i hi=>by rw[hD,Nat.testBit_two_pow_sub_one];simpa using hi) fun a w h1 h2 h3 hs hh=>⟨hs, ?_⟩
  rw[hh]
  exact hQ a ⟨h1,h2,frame_next (f:=fun t=>slotS ops (fun t=>lk L t (g t)) vals (fun _=>true) t) (g:=g) h3 (fun t ht=>slotS_free ht) hch hfr⟩
end
end Go.Lane
namespace Go.Lane
open Go
section
variable {P:Program} {B:Code} {p:List Nat} {K:Exit→Act→Heap→Prop} {N:Act→Heap→Prop} {a:Act} {h:Heap} {ops:Array Oper} {base:Nat→Value} {vals:Vals} {n:Nat}
theorem okCh{L ch:List (Nat×Value)}{g:Nat→Value}(hv:runP P ops (fun t=>lk L t (g t)) (fun vals=>(ch.map Prod.fst).map fun t=>(t,slotE ops (fun t=>lk L t (g t)) vals ops.size t)) ops.size 0 (fun _=>undef)=some ch)
    (hfr:freshOk L ch ops.toList =true) (hQ:∀a,Fr a n (ch++L)→K .normal a h):SeqK P ops n (fun t=>lk L t (g t)) K 0 (fun _=>undef) h:=
  SeqK.fold hv (by rw[show 0+ops.size =ops.size by omega];exact SeqK.doneD rfl (runP_fold hv) hfr hQ)
theorem rP(ch:List (Nat×Value)){L:List (Nat×Value)}(hf:Fr a n L)(hh:∀a,Fr a n (ch++L)→K .normal a h)(hp:plainAt (sub B p)=true:=by kernel_rfl)(hok:dstOk (opsAt B p) n=true:=by kernel_rfl)
    (hv:runP P (opsAt B p) (fun t=>lk L t (a.tmps.getD t undef)) (fun vals=>(ch.map Prod.fst).map fun t=>(t,slotE (opsAt B p) (fun t=>lk L t (a.tmps.getD t undef)) vals (opsAt B p).size t)) (opsAt B p).size 0 (fun _=>undef)=some ch:=by kernel_rfl)
    (hfr:freshOk L ch (opsAt B p).toList =true:=by kernel_rfl):C P (sub B p) K a h:=
  C.plain _ (plain_eq hp) hf hok (okCh hv hfr hh)
theorem cS'(hc:sub B p= .seq (sub B (p++[0])) (sub B (p++[1])))(hh:C P (sub B (p++[0])) (thenK (fun a h=>C P (sub B (p++[1])) K a h) K) a h):C P (sub B p) K a h:=C.seq _ _ hc hh
theorem qP(ch:List (Nat×Value)){L:List (Nat×Value)}(hf:Fr a n L)(hh:∀a,Fr a n (ch++L)→C P (sub B (p++[1])) K a h)(hc:sub B p= .seq (sub B (p++[0])) (sub B (p++[1])):=by kernel_rfl)(hp:plainAt (sub B (p++[0]))=true:=by kernel_rfl)(hok:dstOk (opsAt B (p++[0])) n=true:=by kernel_rfl)
    (hv:runP P (opsAt B (p++[0])) (fun t=>lk L t (a.tmps.getD t undef)) (fun vals=>(ch.map Prod.fst).map fun t=>(t,slotE (opsAt B (p++[0])) (fun t=>lk L t (a.tmps.getD t undef)) vals (opsAt B (p++[0])).size t)) (opsAt B (p++[0])).size 0 (fun _=>undef)=some ch:=by kernel_rfl)
    (hfr:freshOk L ch (opsAt B (p++[0])).toList =true:=by kernel_rfl):C P (sub B p) K a h:=
  cS' hc (rP ch hf hh hp hok hv hfr)
theorem rS{L:List (Nat×Value)}(hf:Fr a n L)(hh:SeqK P (opsAt B p) n (fun t=>lk L t (a.tmps.getD t undef)) K 0 (fun _=>undef) h)(hp:plainAt (sub B p)=true:=by kernel_rfl)(hok:dstOk (opsAt B p) n=true:=by kernel_rfl):C P (sub B p) K a h:=
  C.plain _ (plain_eq hp) hf hok hh
theorem qS{L:List (Nat×Value)}(hf:Fr a n L)(hh:SeqK P (opsAt B (p++[0])) n (fun t=>lk L t (a.tmps.getD t undef)) (thenK (fun a h=>C P (sub B (p++[1])) K a h) K) 0 (fun _=>undef) h)(hc:sub B p= .seq (sub B (p++[0])) (sub B (p++[1])):=by kernel_rfl)(hp:plainAt (sub B (p++[0]))=true:=by kernel_rfl)(hok:dstOk (opsAt B (p++[0])) n=true:=by kernel_rfl):C P (sub B p) K a h:=
  cS' hc (rS hf hh hp hok)
theorem sE{k:Nat}(ch:List (Nat×Value)){L:List (Nat×Value)}{g:Nat→Value}(hh:∀a,Fr a n (ch++L)→K .normal a h)
    (hv:runP P ops (fun t=>lk L t (g t)) (fun vals=>(ch.map Prod.fst).map fun t=>(t,slotE ops (fun t=>lk L t (g t)) vals ops.size t)) (ops.size - k) k vals=some ch:=by kernel_rfl)
    (hk:Nat.ble k ops.size =true:=by kernel_rfl) (hfr:freshOk L ch ops.toList =true:=by kernel_rfl):SeqK P ops n (fun t=>lk L t (g t)) K k vals h:=
  SeqK.fold hv (by have:=Nat.le_of_ble_eq_true hk;rw[show k+(ops.size - k)=ops.size by omega];exact SeqK.doneD rfl (runP_fold hv) hfr hh)
theorem sT{k:Nat}(ch:List (Nat×Value)){L:List (Nat×Value)}{g:Nat→Value}(hh:∀a,Fr a n (ch++L)→N a h)
    (hv:runP P ops (fun t=>lk L t (g t)) (fun vals=>(ch.map Prod.fst).map fun t=>(t,slotE ops (fun t=>lk L t (g t)) vals ops.size t)) (ops.size - k) k vals=some ch:=by kernel_rfl)
    (hk:Nat.ble k ops.size =true:=by kernel_rfl) (hfr:freshOk L ch ops.toList =true:=by kernel_rfl):SeqK P ops n (fun t=>lk L t (g t)) (thenK N K) k vals h:=sE ch hh hv hk hfr
theorem mE{A:List Nat}{D X Wd:Nat}(ch:List (Nat×Value)){L:List (Nat×Value)}{g:Nat→Value}(hh:∀a,Fr a n (ch++L)→K .normal a h)(hD:D=2^ops.size - 1:=by kernel_rfl)
    (hL:((ch.map Prod.fst).map fun t=>(t,slotS ops (fun t=>lk L t (g t)) vals (fun _=>true) t))=ch:=by kernel_rfl) (hfr:freshOk L ch ops.toList =true:=by kernel_rfl):SimK P ops A n (fun t=>lk L t (g t)) K D X Wd vals h:=SimK.doneD hD hL hfr hh
/-! steps: pure operations up to j, then operation j -/
theorem jmp{k:Nat}(j:Nat)(hk:Nat.ble k j=true)(hr:okP P ops base (j - k) k vals=true)(hs:SeqK P ops n base K j (foldP P ops base (j - k) k vals) h):SeqK P ops n base K k vals h:=by
  have:=Nat.le_of_ble_eq_true hk
  exact SeqK.skip hr (by rw[show k+(j - k)=j by omega];exact hs)
theorem t1{k:Nat}(j:Nat)(v v':Value)(e:v'=v)(hs:SeqK P ops n base K (j+1) (vset (foldP P ops base (j - k) k vals) j v) h)(hv:pureVal P ops base (foldP P ops base (j - k) k vals) j=some v':=by kernel_rfl)(hr:okP P ops base (j - k) k vals=true:=by kernel_rfl)(hk:Nat.ble k j=true:=by kernel_rfl):SeqK P ops n base K k vals h:=
  jmp j hk hr (SeqK.pure1 hv e rfl hs)
theorem tC{k:Nat}(j:Nat)(v:Value)(hd:Calm P ops base (foldP P ops base (j - k) k vals) j h v)(hs:SeqK P ops n base K (j+1) (vset (foldP P ops base (j - k) k vals) j v) h)(hr:okP P ops base (j - k) k vals=true:=by kernel_rfl)(hk:Nat.ble k j=true:=by kernel_rfl):SeqK P ops n base K k vals h:=
  jmp j hk hr (SeqK.calm hd rfl hs)
theorem tF{k:Nat}(j:Nat){R:Value→Heap→Prop}(hd:Does P ops base (foldP P ops base (j - k) k vals) j h R)(hs:∀v h',R v h'→SeqK P ops n base K (j+1) (vset (foldP P ops base (j - k) k vals) j v) h')(hr:okP P ops base (j - k) k vals=true:=by kernel_rfl)(hk:Nat.ble k j=true:=by kernel_rfl):SeqK P ops n base K k vals h:=
  jmp j hk hr (SeqK.eff hd rfl hs)
theorem tG{k:Nat}(j:Nat){R:Value→Heap→Prop}{f:FuncId}{args:Array Value}(hs:Sat P f args h R)(hh:∀v h',R v h'→SeqK P ops n base K (j+1) (vset (foldP P ops base (j - k) k vals) j v) h')(hx:callOp P ops base (foldP P ops base (j - k) k vals) j=some (f,args):=by kernel_rfl)(hr:okP P ops base (j - k) k vals=true:=by kernel_rfl)(hk:Nat.ble k j=true:=by kernel_rfl):SeqK P ops n base K k vals h:=
  jmp j hk hr (SeqK.eff (Does.call hx hs) rfl hh)
theorem tI{k:Nat}(j:Nat)(ad:Addr)(len sz x q:Nat)(hs:SeqK P ops n base K (j+1) (vset (foldP P ops base (j - k) k vals) j (.pointer (some (ad.add q)))) h)(hl:x<len:=by omega)(hq:x*sz=q:=by omega)(hx:ixOp P ops base (foldP P ops base (j - k) k vals) j=some (ad,len,sz,(x:Int)):=by kernel_rfl)(hr:okP P ops base (j - k) k vals=true:=by kernel_rfl)(hk:Nat.ble k j=true:=by kernel_rfl):SeqK P ops n base K k vals h:=
  jmp j hk hr (SeqK.calm (Calm.indexA x q hx rfl hl hq h) rfl hs)
theorem tJ{k:Nat}(j b off len sz x q:Nat)(hs:SeqK P ops n base K (j+1) (vset (foldP P ops base (j - k) k vals) j (.pointer (some ⟨b,q,none⟩))) h)(hl:x<len:=by omega)(hq:off+x*sz=q:=by omega)(hx:ixOp P ops base (foldP P ops base (j - k) k vals) j=some (⟨b,off,none⟩,len,sz,(x:Int)):=by kernel_rfl)(hr:okP P ops base (j - k) k vals=true:=by kernel_rfl)(hk:Nat.ble k j=true:=by kernel_rfl):SeqK P ops n base K k vals h:=
  jmp j hk hr (SeqK.calm (Calm.indexB x q hx rfl hl hq h) rfl hs)
theorem tA{k:Nat}(j x y:Nat)(hs:SeqK P ops n base K (j+1) (vset (foldP P ops base (j - k) k vals) j (nV (x+y))) h)(hb:x+y≤9223372036854775807:=by omega)(hv:pureVal P ops base (foldP P ops base (j - k) k vals) j=some (.int .i64 (IntKind.i64.wrap ((x:Int)+(y:Int)))):=by kernel_rfl)(hr:okP P ops base (j - k) k vals=true:=by kernel_rfl)(hk:Nat.ble k j=true:=by kernel_rfl):SeqK P ops n base K k vals h:=
  t1 j _ _ (congrArg (Value.int .i64) (w64' (by omega) (by omega) (by omega))) hs hv hr hk
theorem tU{k:Nat}(j x y:Nat)(hs:SeqK P ops n base K (j+1) (vset (foldP P ops base (j - k) k vals) j (nV (x - y))) h)(hb:y≤x:=by omega)(hx:x≤9223372036854775807:=by omega)(hv:pureVal P ops base (foldP P ops base (j - k) k vals) j=some (.int .i64 (IntKind.i64.wrap ((x:Int) - (y:Int)))):=by kernel_rfl)(hr:okP P ops base (j - k) k vals=true:=by kernel_rfl)(hk:Nat.ble k j=true:=by kernel_rfl):SeqK P ops n base K k vals h:=
  t1 j _ _ (congrArg (Value.int .i64) (w64' (by omega) (by omega) (by omega))) hs hv hr hk
/-! a condition that is decided -/
theorem cJ{L:List (Nat×Value)}(t:Nat){q:Prop}[Decidable q](hf:Fr a n L)(ht:q→C P (sub B (p++[0])) K a h)(he:¬q→C P (sub B (p++[1])) K a h)(hv:∀d,lk L t d= .bool (decide q):=by intro _;rfl)(hc:sub B p= .cond (.tmp t) (sub B (p++[0])) (sub B (p++[1])):=by kernel_rfl):C P (sub B p) K a h:=
  C.condS t _ _ _ hc hf hv (fun e=>ht (of_decide_eq_true e)) fun e=>he (of_decide_eq_false e)
theorem cI{L:List (Nat×Value)}(t:Nat){q:Prop}[Decidable q](hf:Fr a n L)(ht:¬q→C P (sub B (p++[0])) K a h)(he:q→C P (sub B (p++[1])) K a h)(hv:∀d,lk L t d= .bool (!decide q):=by intro _;rfl)(hc:sub B p= .cond (.tmp t) (sub B (p++[0])) (sub B (p++[1])):=by kernel_rfl):C P (sub B p) K a h:=
  C.condS t _ _ _ hc hf hv (fun e=>ht (not_decide_true e)) fun e=>he (not_decide_false e)
/-! leaving a block -/
theorem xT{i:Nat}(hh:K (.exit i) a h):thenK N K (.exit i) a h:=hh
theorem xB{i:Nat}(hh:K .normal a h):blockK i K (.exit i) a h:=by simp only[blockK];rw[show Nat.beq i i=true by simp];exact hh
theorem cL(I:Nat→Act→Heap→Prop)(m0:Nat)(h0:I m0 a h)(round:∀m a h,I m a h→C P (sub B (p++[0])) (thenK (fun a h=>∃m',m'<m∧I m' a h) K) a h)(hc:sub B p= .loop (sub B (p++[0])):=by kernel_rfl):C P (sub B p) K a h:=C.loop I m0 _ hc h0 round
theorem sat_in{fn:Func}{f:FuncId}{args:List Value}{R:Value→Heap→Prop}(hf:P.funcs[f]? =some fn)(n:Nat)(hh:∀a,Fr a n (argL 0 args)→C P (sub (fn.body.getD .skip) []) (retK P fn R) a h)(hb:fn.body.isSome =true:=by kernel_rfl)(hn:args.length +(fn.ntmps - args.length)=n:=by kernel_rfl):Sat P f args.toArray h R:=
  sat_of hf (by cases e:fn.body with
    |none=>simp[e] at hb
    |some x=>rfl) hn rfl hh
theorem rT{fn:Func}{L:List (Nat×Value)}{R:Value→Heap→Prop}(t:Nat)(v:Value)(hf:Fr a n L)(hR:R v h)(hr:fn.results = #[.tmp t]:=by rfl)(hv:∀d,lk L t d=v:=by intro _;rfl):retK P fn R .ret a h:=
  ret_ok [.tmp t] [v] v hr hf ⟨hv _,trivial⟩ rfl hR
theorem r0{fn:Func}{L:List (Nat×Value)}{R:Value→Heap→Prop}(hf:Fr a n L)(hR:R (.tuple #[]) h)(hr:fn.results = #[]:=by rfl):retK P fn R .ret a h:=
  ret_ok [] [] _ hr hf trivial rfl hR
theorem n0{fn:Func}{L:List (Nat×Value)}{R:Value→Heap→Prop}(hf:Fr a n L)(hR:R (.tuple #[]) h)(hr:fn.results = #[]:=by rfl):retK P fn R .normal a h:=
  ret_ok [] [] _ hr hf trivial rfl hR
end
end Go.Lane
namespace Go.Lane
open Go
section
variable {P:Program} {B:Code} {p:List Nat} {K:Exit→Act→Heap→Prop} {N:Act→Heap→Prop} {a:Act} {h:Heap} {ops:Array Oper} {base:Nat→Value} {vals:Vals} {n:Nat}
theorem yT(hh:K .ret a h):thenK N K .ret a h:=hh
theorem yB{j:Nat}(hh:K .ret a h):blockK j K .ret a h:=hh
theorem cU(m:Nat)(hh:Crounds P B (p++[0]) K m a h)(hc:sub B p= .loop (sub B (p++[0])):=by kernel_rfl):C P (sub B p) K a h:=C.unroll m _ hc hh
theorem tN{k:Nat}(j:Nat)(v:Value)(cs:Array Value)(E:TypeId)(hh:∀h',Ext h h'→h'[h.size]? =some (.cells cs E)→SeqK P ops n base K (j+1) (vset (foldP P ops base (j - k) k vals) j v) h')
    (hx:newOp P ops base (foldP P ops base (j - k) k vals) j h.size =some (v, .cells cs E):=by kernel_rfl) (hr:okP P ops base (j - k) k vals=true:=by kernel_rfl) (hk:Nat.ble k j=true:=by kernel_rfl):SeqK P ops n base K k vals h:=
  jmp j hk hr (SeqK.eff (Does.new hx) rfl fun v' h' ⟨e1,e2⟩=>by subst e1;exact hh h' (push_ext e2) (push_at e2))
theorem tW{k:Nat}(j:Nat){b:Nat}(off:Nat)(vs l l':List Value){E:TypeId}(m:h[b]? =some (.cells l.toArray E (0,0)))(hh:∀h',Grew (some b) h h'→h'[b]? =some (.cells l'.toArray E)→SeqK P ops n base K (j+1) (vset (foldP P ops base (j - k) k vals) j undef) h')
    (hx:storeOp P ops base (foldP P ops base (j - k) k vals) j=some (⟨b,off,none⟩,vs):=by kernel_rfl) (hfit:off+vs.length ≤l.length :=by exact of_decide_eq_true (by kernel_rfl)) (h1:∀v∈vs,v.oneCell' =true:=by exact List.all_eq_true.1 (by kernel_rfl)) (e:splice l off vs=l':=by kernel_rfl)
    (hr:okP P ops base (j - k) k vals=true:=by kernel_rfl) (hk:Nat.ble k j=true:=by kernel_rfl):SeqK P ops n base K k vals h:=
  jmp j hk hr (SeqK.eff (Does.store hx m hfit h1) rfl fun v' h' ⟨e1,e2⟩=>by subst e1;exact hh h' (hput_gr e2) (hput_at e2 e m))
end
end Go.Lane
namespace Go.Lane
open Go
theorem bK{i:Nat}{K:Exit→Act→Heap→Prop}{a:Act}{h:Heap}(hh:K .normal a h):blockK i K .normal a h:=hh
end Go.Lane
namespace Go.Lane
open Go
/-! ### shorter still: what the program's text says is not said again -/
section
variable {P:Program} {B:Code} {p:List Nat} {K:Exit→Act→Heap→Prop} {N:Act→Heap→Prop} {a:Act} {h:Heap} {ops:Array Oper} {base:Nat→Value} {vals:Vals} {n:Nat}
def ldT(ops:Array Oper)(base:Nat→Value)(vals:Vals)(j:Nat):TypeId:=match loadOp ops base vals j with|some (T,_)=>T|none=>0
theorem loads_all{T:TypeId}{b:Nat}{cs:Array Value}{E:TypeId}{fr:Nat×Nat}(m:h[b]? =some (.cells cs E fr))(ht:aggTy P T=some (true,cs.size)):Loads P h T ⟨b,0,none⟩ (.agg cs):=by
  have:=Loads.all (P:=P) (h:=h) (T:=T) (b:=b) (vs:=cs.toList) (E:=E) (fr:=fr) (by rw[Array.length_toList];exact ht) (by rw[Array.toArray_toList];exact m)
  rwa [Array.toArray_toList] at this
theorem tR{k:Nat}(j:Nat){b:Nat}{cs:Array Value}{E:TypeId}{fr:Nat×Nat}(m:h[b]? =some (.cells cs E fr))(hs:SeqK P ops n base K (j+1) (vset (foldP P ops base (j - k) k vals) j (.agg cs)) h)
    (hx:loadOp ops base (foldP P ops base (j - k) k vals) j=some (ldT ops base (foldP P ops base (j - k) k vals) j,⟨b,0,none⟩):=by kernel_rfl) (ht:aggTy P (ldT ops base (foldP P ops base (j - k) k vals) j)=some (true,cs.size):=by kernel_rfl)
    (hr:okP P ops base (j - k) k vals=true:=by kernel_rfl) (hk:Nat.ble k j=true:=by kernel_rfl):SeqK P ops n base K k vals h:=
  jmp j hk hr (SeqK.calm (Calm.load hx (loads_all m ht)) rfl hs)
theorem tQ{k:Nat}(j off:Nat)(vs:List Value){b:Nat}{cs:Array Value}{E:TypeId}{fr:Nat×Nat}(m:h[b]? =some (.cells cs E fr))(hs:SeqK P ops n base K (j+1) (vset (foldP P ops base (j - k) k vals) j (.agg vs.toArray)) h)
    (hx:loadOp ops base (foldP P ops base (j - k) k vals) j=some (ldT ops base (foldP P ops base (j - k) k vals) j,⟨b,off,none⟩):=by kernel_rfl) (ht:aggTy P (ldT ops base (foldP P ops base (j - k) k vals) j)=some (true,vs.length):=by kernel_rfl)
    (hv:(cs.toList.drop off).take vs.length =vs:=by rfl) (hr:okP P ops base (j - k) k vals=true:=by kernel_rfl) (hk:Nat.ble k j=true:=by kernel_rfl):SeqK P ops n base K k vals h:=
  jmp j hk hr (SeqK.calm (Calm.load hx (Loads.blk ht m hv)) rfl hs)
theorem tO{k:Nat}(j off:Nat){b:Nat}{cs:Array Value}{E:TypeId}{fr:Nat×Nat}(m:h[b]? =some (.cells cs E fr))(hs:SeqK P ops n base K (j+1) (vset (foldP P ops base (j - k) k vals) j (cs[off]?.getD undef)) h)
    (hv:cs[off]?.isSome =true:=by kernel_rfl) (hx:loadOp ops base (foldP P ops base (j - k) k vals) j=some (ldT ops base (foldP P ops base (j - k) k vals) j,⟨b,off,none⟩):=by kernel_rfl) (ht:aggTy P (ldT ops base (foldP P ops base (j - k) k vals) j)=some (false,1):=by kernel_rfl)
    (hr:okP P ops base (j - k) k vals=true:=by kernel_rfl) (hk:Nat.ble k j=true:=by kernel_rfl):SeqK P ops n base K k vals h:=
  jmp j hk hr (SeqK.calm (Calm.load hx (Loads.one ht ((hcell_blk m).trans (by cases e:cs[off]? with|none=>rw[e] at hv;cases hv|some v=>rfl)))) rfl hs)
theorem tT{k:Nat}(j:Nat)(q:Prop)[Decidable q](hs:SeqK P ops n base K (j+1) (vset (foldP P ops base (j - k) k vals) j (.bool true)) h)(hq:q:=by omega)(hv:pureVal P ops base (foldP P ops base (j - k) k vals) j=some (.bool (decide q)):=by kernel_rfl)(hr:okP P ops base (j - k) k vals=true:=by kernel_rfl)(hk:Nat.ble k j=true:=by kernel_rfl):SeqK P ops n base K k vals h:=
  t1 j _ _ (congrArg Value.bool (decide_eq_true hq)) hs hv hr hk
theorem tX{k:Nat}(j:Nat)(q:Prop)[Decidable q](hs:SeqK P ops n base K (j+1) (vset (foldP P ops base (j - k) k vals) j (.bool false)) h)(hq:¬q:=by omega)(hv:pureVal P ops base (foldP P ops base (j - k) k vals) j=some (.bool (decide q)):=by kernel_rfl)(hr:okP P ops base (j - k) k vals=true:=by kernel_rfl)(hk:Nat.ble k j=true:=by kernel_rfl):SeqK P ops n base K k vals h:=
  t1 j _ _ (congrArg Value.bool (decide_eq_false hq)) hs hv hr hk
theorem mT1{A:List Nat}{D X Wd:Nat}(D' i:Nat)(q:Prop)[Decidable q](hs:SimK P ops A n base K D' X Wd (vset vals i (.bool true)) h)(hq:q:=by omega)(hv:pureVal P ops base vals i=some (.bool (decide q)):=by kernel_rfl)(hc:(canReg ops A D i&& !(Wd.testBit i))=true:=by kernel_rfl)(hD:D|||2^i=D':=by kernel_rfl):SimK P ops A n base K D X Wd vals h:=SimK.pure1 hc hD hv (congrArg Value.bool (decide_eq_true hq)) hs
theorem mX1{A:List Nat}{D X Wd:Nat}(D' i:Nat)(q:Prop)[Decidable q](hs:SimK P ops A n base K D' X Wd (vset vals i (.bool false)) h)(hq:¬q:=by omega)(hv:pureVal P ops base vals i=some (.bool (decide q)):=by kernel_rfl)(hc:(canReg ops A D i&& !(Wd.testBit i))=true:=by kernel_rfl)(hD:D|||2^i=D':=by kernel_rfl):SimK P ops A n base K D X Wd vals h:=SimK.pure1 hc hD hv (congrArg Value.bool (decide_eq_false hq)) hs
theorem mA{A:List Nat}{D X Wd:Nat}(D' i x y:Nat)(hs:SimK P ops A n base K D' X Wd (vset vals i (nV (x+y))) h)(hb:x+y≤9223372036854775807:=by omega)(hv:pureVal P ops base vals i=some (.int .i64 (IntKind.i64.wrap ((x:Int)+(y:Int)))):=by kernel_rfl)(hc:(canReg ops A D i&& !(Wd.testBit i))=true:=by kernel_rfl)(hD:D|||2^i=D':=by kernel_rfl):SimK P ops A n base K D X Wd vals h:=SimK.pure1 hc hD hv (congrArg (Value.int .i64) (w64' (by omega) (by omega) (by omega))) hs
theorem mU{A:List Nat}{D X Wd:Nat}(D' i x y:Nat)(hs:SimK P ops A n base K D' X Wd (vset vals i (nV (x - y))) h)(hb:y≤x:=by omega)(hx:x≤9223372036854775807:=by omega)(hv:pureVal P ops base vals i=some (.int .i64 (IntKind.i64.wrap ((x:Int) - (y:Int)))):=by kernel_rfl)(hc:(canReg ops A D i&& !(Wd.testBit i))=true:=by kernel_rfl)(hD:D|||2^i=D':=by kernel_rfl):SimK P ops A n base K D X Wd vals h:=SimK.pure1 hc hD hv (congrArg (Value.int .i64) (w64' (by omega) (by omega) (by omega))) hs
theorem tV{k:Nat}(j:Nat){b:Nat}(off:Nat)(vs l':List Value){l:List Value}{E:TypeId}(m:h[b]? =some (.cells l.toArray E (0,0)))(hh:∀h',Grew (some b) h h'→h'[b]? =some (.cells l'.toArray E)→SeqK P ops n base K (j+1) (vset (foldP P ops base (j - k) k vals) j undef) h')
    (hx:storeOp P ops base (foldP P ops base (j - k) k vals) j=some (⟨b,off,none⟩,vs):=by kernel_rfl) (hfit:off+vs.length ≤l.length :=by exact of_decide_eq_true (by kernel_rfl)) (h1:∀v∈vs,v.oneCell' =true:=by exact List.all_eq_true.1 (by kernel_rfl)) (e:splice l off vs=l':=by kernel_rfl)
    (hr:okP P ops base (j - k) k vals=true:=by kernel_rfl) (hk:Nat.ble k j=true:=by kernel_rfl):SeqK P ops n base K k vals h:=tW j off vs l l' m hh hx hfit h1 e hr hk
theorem tV0{k:Nat}(j:Nat){b:Nat}(vs:List Value){l:List Value}{E:TypeId}(m:h[b]? =some (.cells l.toArray E (0,0)))(hh:∀h',Grew (some b) h h'→h'[b]? =some (.cells vs.toArray E)→SeqK P ops n base K (j+1) (vset (foldP P ops base (j - k) k vals) j undef) h')
    (hx:storeOp P ops base (foldP P ops base (j - k) k vals) j=some (⟨b,0,none⟩,vs):=by kernel_rfl) (hfit:0+vs.length ≤l.length :=by exact of_decide_eq_true (by kernel_rfl)) (h1:∀v∈vs,v.oneCell' =true:=by exact List.all_eq_true.1 (by kernel_rfl)) (e:splice l 0 vs=vs:=by kernel_rfl)
    (hr:okP P ops base (j - k) k vals=true:=by kernel_rfl) (hk:Nat.ble k j=true:=by kernel_rfl):SeqK P ops n base K k vals h:=tW j 0 vs l vs m hh hx hfit h1 e hr hk
/-! effects in a region that draws its order -/
theorem mN{A:List Nat}{D X Wd:Nat}(D' X' i:Nat)(v:Value)(cs:Array Value)(E:TypeId)(hh:∀h',Ext h h'→h'[h.size]? =some (.cells cs E)→SimK P ops A n base K D' X' Wd (vset vals i v) h')(hx:newOp P ops base vals i h.size =some (v, .cells cs E):=by kernel_rfl)
    (hn:nexts ops A D=[i]:=by kernel_rfl) (hD:D|||2^i=D':=by kernel_rfl) (hX:X|||anc A i|||2^i=X':=by kernel_rfl) (hp:pendL ops A D X Wd i=[]:=by kernel_rfl):SimK P ops A n base K D X Wd vals h:=
  SimK.eff0 hn hD hX hp (Does.new hx) fun v' h' ⟨e1,e2⟩=>by subst e1;exact hh h' (push_ext e2) (push_at e2)
theorem mV{A:List Nat}{D X Wd:Nat}(D' X' i:Nat){b:Nat}(off:Nat)(vs l':List Value){l:List Value}{E:TypeId}(m:h[b]? =some (.cells l.toArray E (0,0)))(hh:∀h',Grew (some b) h h'→h'[b]? =some (.cells l'.toArray E)→SimK P ops A n base K D' X' Wd (vset vals i undef) h')
    (hx:storeOp P ops base vals i=some (⟨b,off,none⟩,vs):=by kernel_rfl) (hfit:off+vs.length ≤l.length :=by exact of_decide_eq_true (by kernel_rfl)) (h1:∀v∈vs,v.oneCell' =true:=by exact List.all_eq_true.1 (by kernel_rfl)) (e:splice l off vs=l':=by kernel_rfl)
    (hn:nexts ops A D=[i]:=by kernel_rfl) (hD:D|||2^i=D':=by kernel_rfl) (hX:X|||anc A i|||2^i=X':=by kernel_rfl) (hp:pendL ops A D X Wd i=[]:=by kernel_rfl):SimK P ops A n base K D X Wd vals h:=
  SimK.eff0 hn hD hX hp (Does.store hx m hfit h1) fun v' h' ⟨e1,e2⟩=>by subst e1;exact hh h' (hput_gr e2) (hput_at e2 e m)
theorem mF0{A:List Nat}{D X Wd:Nat}(D' X' i:Nat){R:Value→Heap→Prop}(hd:Does P ops base vals i h R)(hh:∀v h',R v h'→SimK P ops A n base K D' X' Wd (vset vals i v) h')
    (hn:nexts ops A D=[i]:=by kernel_rfl) (hD:D|||2^i=D':=by kernel_rfl) (hX:X|||anc A i|||2^i=X':=by kernel_rfl) (hp:pendL ops A D X Wd i=[]:=by kernel_rfl):SimK P ops A n base K D X Wd vals h:=SimK.eff0 hn hD hX hp hd hh
theorem mG0{A:List Nat}{D X Wd:Nat}(D' X' i:Nat){R:Value→Heap→Prop}{f:FuncId}{args:Array Value}(hs:Sat P f args h R)(hh:∀v h',R v h'→SimK P ops A n base K D' X' Wd (vset vals i v) h')(hx:callOp P ops base vals i=some (f,args):=by kernel_rfl)
    (hn:nexts ops A D=[i]:=by kernel_rfl) (hD:D|||2^i=D':=by kernel_rfl) (hX:X|||anc A i|||2^i=X':=by kernel_rfl) (hp:pendL ops A D X Wd i=[]:=by kernel_rfl):SimK P ops A n base K D X Wd vals h:=SimK.eff0 hn hD hX hp (Does.call hx hs) hh
theorem mFp{A:List Nat}{D X Wd:Nat}(D' X' i:Nat)(pend:List Nat){R:Value→Heap→Prop}(hd:Does P ops base vals i h R)(hh:∀v h',R v h'→(∀j∈pend,Good P ops base vals h' j)∧SimK P ops A n base K D' X' Wd (vset vals i v) h')
    (hn:nexts ops A D=[i]:=by kernel_rfl) (hD:D|||2^i=D':=by kernel_rfl) (hX:X|||anc A i|||2^i=X':=by kernel_rfl) (hp:pendL ops A D X Wd i=pend:=by kernel_rfl):SimK P ops A n base K D X Wd vals h:=SimK.eff hn hD hX pend hp hd hh
theorem mFa{A:List Nat}{D X Wd:Nat}(D' X' i:Nat)(pend:List Nat){R:Value→Heap→Prop}(hd:Does P ops base vals i h R)(hs:∀v h',R v h'→(∀j∈pend,Good P ops base vals h' j)∧SimK P ops A n base K D' X' Wd (vset vals i v) h')
    (hD:D|||2^i=D':=by kernel_rfl) (hX:X|||anc A i|||2^i=X':=by kernel_rfl) (hp:pendL ops A D X Wd i=pend:=by kernel_rfl):
    ∃R,Does P ops base vals i h R∧∀v h',R v h'→(∀j∈pendL ops A D X Wd i,Good P ops base vals h' j)∧SimK P ops A n base K (D|||2^i) (X|||anc A i|||2^i) Wd (vset vals i v) h':=⟨R,hd,by subst hD;subst hX;subst hp;exact hs⟩
theorem mR{A:List Nat}{D X Wd:Nat}(D' Wd' i:Nat){b:Nat}{cs:Array Value}{E:TypeId}{fr:Nat×Nat}(m:h[b]? =some (.cells cs E fr))(hs:SimK P ops A n base K D' X Wd' (vset vals i (.agg cs)) h)
    (hx:loadOp ops base vals i=some (ldT ops base vals i,⟨b,0,none⟩):=by kernel_rfl) (ht:aggTy P (ldT ops base vals i)=some (true,cs.size):=by kernel_rfl) (hc:canReg ops A D i=true:=by kernel_rfl) (hD:D|||2^i=D':=by kernel_rfl) (hW:Wd|||2^i=Wd':=by kernel_rfl):SimK P ops A n base K D X Wd vals h:=SimK.look hc hD hW (Calm.load hx (loads_all m ht)) hs
theorem mO{A:List Nat}{D X Wd:Nat}(D' Wd' i off:Nat)(v:Value){b:Nat}{cs:Array Value}{E:TypeId}{fr:Nat×Nat}(m:h[b]? =some (.cells cs E fr))(hs:SimK P ops A n base K D' X Wd' (vset vals i v) h)
    (hv:cs[off]? =some v:=by rfl) (hx:loadOp ops base vals i=some (ldT ops base vals i,⟨b,off,none⟩):=by kernel_rfl) (ht:aggTy P (ldT ops base vals i)=some (false,1):=by kernel_rfl) (hc:canReg ops A D i=true:=by kernel_rfl) (hD:D|||2^i=D':=by kernel_rfl) (hW:Wd|||2^i=Wd':=by kernel_rfl):SimK P ops A n base K D X Wd vals h:=
  SimK.look hc hD hW (Calm.load hx (Loads.one ht ((hcell_blk m).trans hv))) hs
/-! the return of a block's cells -/
def rsT(fn:Func):Nat×TypeId:=match fn.results.toList with|ResultVar.cell t T::_=>(t,T)|_=>(0,0)
theorem rB{fn:Func}{L:List (Nat×Value)}{R:Value→Heap→Prop}{b:Nat}{cs:Array Value}{E:TypeId}{fr:Nat×Nat}(m:h[b]? =some (.cells cs E fr))(hf:Fr a n L)(hR:R (.agg cs) h)(hr:fn.results = #[.cell (rsT fn).1 (rsT fn).2]:=by rfl)(ht:aggTy P (rsT fn).2 =some (true,cs.size):=by kernel_rfl)
    (hv:∀d,lk L (rsT fn).1 d= .pointer (some ⟨b,0,none⟩):=by intro _;rfl):retK P fn R .ret a h:=
  ret_ok [.cell (rsT fn).1 (rsT fn).2] [.agg cs] _ hr hf ⟨⟨_,hv _,loads_all m ht⟩,trivial⟩ rfl hR
end
end Go.Lane
namespace Go.Lane
open Go
/-! ### what stands where nothing was turned -/
theorem _root_.Eq.x{h h':Heap}{b:Nat}{o:Obj}(m:h[b]? =some o)(g:Ext h h'):h'[b]? =some o:=g.blk m
theorem _root_.Eq.y{h h':Heap}{b:Nat}{o:Obj}{c:Option Nat}(m:h[b]? =some o)(g:Grew c h h')(hne:some b≠c:=by simp;omega):h'[b]? =some o:=Grew.blk g m hne
theorem Ext.v{h0 h h':Heap}{b:Nat}(e:Ext h0 h)(g:Grew (some b) h h')(hb:h0.size ≤b:=by omega):Ext h0 h':=e.grew g (by rintro _ ⟨⟩;exact hb)
section
variable {P:Program} {K:Exit→Act→Heap→Prop} {h:Heap} {ops:Array Oper} {base:Nat→Value} {vals:Vals} {n:Nat}
/-! ints that are equal, or are not -/
theorem eT{k:Nat}(j:Nat)(x y:Int)(hs:SeqK P ops n base K (j+1) (vset (foldP P ops base (j - k) k vals) j (.bool true)) h)(hq:x=y:=by omega)(hv:pureVal P ops base (foldP P ops base (j - k) k vals) j=some (.bool (x==y)):=by kernel_rfl)(hr:okP P ops base (j - k) k vals=true:=by kernel_rfl)(hk:Nat.ble k j=true:=by kernel_rfl):SeqK P ops n base K k vals h:=
  t1 j _ _ (congrArg Value.bool (beq_iff_eq.2 hq)) hs hv hr hk
theorem eF{k:Nat}(j:Nat)(x y:Int)(hs:SeqK P ops n base K (j+1) (vset (foldP P ops base (j - k) k vals) j (.bool false)) h)(hq:x≠y:=by omega)(hv:pureVal P ops base (foldP P ops base (j - k) k vals) j=some (.bool (x==y)):=by kernel_rfl)(hr:okP P ops base (j - k) k vals=true:=by kernel_rfl)(hk:Nat.ble k j=true:=by kernel_rfl):SeqK P ops n base K k vals h:=
  t1 j _ _ (congrArg Value.bool (beq_eq_false_iff_ne.2 hq)) hs hv hr hk
theorem uT{k:Nat}(j:Nat)(x y:Int)(hs:SeqK P ops n base K (j+1) (vset (foldP P ops base (j - k) k vals) j (.bool true)) h)(hq:x≠y:=by omega)(hv:pureVal P ops base (foldP P ops base (j - k) k vals) j=some (.bool (!(x==y))):=by kernel_rfl)(hr:okP P ops base (j - k) k vals=true:=by kernel_rfl)(hk:Nat.ble k j=true:=by kernel_rfl):SeqK P ops n base K k vals h:=
  t1 j _ _ (congrArg (fun b=>Value.bool (!b)) (beq_eq_false_iff_ne.2 hq)) hs hv hr hk
theorem uF{k:Nat}(j:Nat)(x y:Int)(hs:SeqK P ops n base K (j+1) (vset (foldP P ops base (j - k) k vals) j (.bool false)) h)(hq:x=y:=by omega)(hv:pureVal P ops base (foldP P ops base (j - k) k vals) j=some (.bool (!(x==y))):=by kernel_rfl)(hr:okP P ops base (j - k) k vals=true:=by kernel_rfl)(hk:Nat.ble k j=true:=by kernel_rfl):SeqK P ops n base K k vals h:=
  t1 j _ _ (congrArg (fun b=>Value.bool (!b)) (beq_iff_eq.2 hq)) hs hv hr hk
theorem uT1{A:List Nat}{D X Wd:Nat}(D' i:Nat)(x y:Int)(hs:SimK P ops A n base K D' X Wd (vset vals i (.bool true)) h)(hq:x≠y:=by omega)(hv:pureVal P ops base vals i=some (.bool (!(x==y))):=by kernel_rfl)(hc:(canReg ops A D i&& !(Wd.testBit i))=true:=by kernel_rfl)(hD:D|||2^i=D':=by kernel_rfl):SimK P ops A n base K D X Wd vals h:=SimK.pure1 hc hD hv (congrArg (fun b=>Value.bool (!b)) (beq_eq_false_iff_ne.2 hq)) hs
theorem uF1{A:List Nat}{D X Wd:Nat}(D' i:Nat)(x y:Int)(hs:SimK P ops A n base K D' X Wd (vset vals i (.bool false)) h)(hq:x=y:=by omega)(hv:pureVal P ops base vals i=some (.bool (!(x==y))):=by kernel_rfl)(hc:(canReg ops A D i&& !(Wd.testBit i))=true:=by kernel_rfl)(hD:D|||2^i=D':=by kernel_rfl):SimK P ops A n base K D X Wd vals h:=SimK.pure1 hc hD hv (congrArg (fun b=>Value.bool (!b)) (beq_iff_eq.2 hq)) hs
/-! an element's address, some cells of a block, where the order is drawn -/
theorem mI{A:List Nat}{D X Wd:Nat}(D' i:Nat)(ad:Addr)(len sz x q:Nat)(hs:SimK P ops A n base K D' X Wd (vset vals i (.pointer (some (ad.add q)))) h)(hl:x<len:=by omega)(hq:x*sz=q:=by omega)(hx:ixOp P ops base vals i=some (ad,len,sz,(x:Int)):=by kernel_rfl)(hc:(canReg ops A D i&& !(Wd.testBit i))=true:=by kernel_rfl)(hD:D|||2^i=D':=by kernel_rfl):SimK P ops A n base K D X Wd vals h:=
  SimK.free hc hD (Calm.indexA x q hx rfl hl hq) hs
theorem mJ{A:List Nat}{D X Wd:Nat}(D' i b off len sz x q:Nat)(hs:SimK P ops A n base K D' X Wd (vset vals i (.pointer (some ⟨b,q,none⟩))) h)(hl:x<len:=by omega)(hq:off+x*sz=q:=by omega)(hx:ixOp P ops base vals i=some (⟨b,off,none⟩,len,sz,(x:Int)):=by kernel_rfl)(hc:(canReg ops A D i&& !(Wd.testBit i))=true:=by kernel_rfl)(hD:D|||2^i=D':=by kernel_rfl):SimK P ops A n base K D X Wd vals h:=
  SimK.free hc hD (Calm.indexB x q hx rfl hl hq) hs
theorem mQ{A:List Nat}{D X Wd:Nat}(D' Wd' i off:Nat)(vs:List Value){b:Nat}{cs:Array Value}{E:TypeId}{fr:Nat×Nat}(m:h[b]? =some (.cells cs E fr))(hs:SimK P ops A n base K D' X Wd' (vset vals i (.agg vs.toArray)) h)
    (hx:loadOp ops base vals i=some (ldT ops base vals i,⟨b,off,none⟩):=by kernel_rfl) (ht:aggTy P (ldT ops base vals i)=some (true,vs.length):=by kernel_rfl) (hv:(cs.toList.drop off).take vs.length =vs:=by rfl) (hc:canReg ops A D i=true:=by kernel_rfl) (hD:D|||2^i=D':=by kernel_rfl) (hW:Wd|||2^i=Wd':=by kernel_rfl):SimK P ops A n base K D X Wd vals h:=SimK.look hc hD hW (Calm.load hx (Loads.blk ht m hv)) hs
end
end Go.Lane
end
section
namespace Go.Sha
open Go
abbrev W:=BitVec 32
def wv(b:W):Value:= .int .u32 (b.toNat :Int)
def bv(b:UInt8):Value:= .int .u8 (b.toNat :Int)
theorem wrap32_nat(x:Nat):IntKind.u32.wrap (x:Int)=((x%4294967296:Nat):Int):=by
  simp only[IntKind.wrap,IntKind.bits,IntKind.signed]
  simp
theorem ofInt32(b:W):BitVec.ofInt 32 (b.toNat :Int)=b:=by simp
theorem wrap32_toNat(b:W):IntKind.u32.wrap (b.toNat :Int)=(b.toNat :Int):=by
  rw[wrap32_nat,Nat.mod_eq_of_lt b.isLt]
theorem add32(a b:W):Value.int .u32 (IntKind.u32.wrap ((a.toNat :Int)+(b.toNat :Int)))=wv (a+b):=by
  unfold wv
  rw[←Int.natCast_add,wrap32_nat,BitVec.toNat_add]
theorem and32(a b:W):Value.int .u32 (IntKind.u32.wrap ((BitVec.ofInt 32 (a.toNat :Int)&&&BitVec.ofInt 32 (b.toNat :Int)).toNat :Int))=wv (a&&&b):=by
  unfold wv;rw[ofInt32,ofInt32,wrap32_toNat]
theorem or32(a b:W):Value.int .u32 (IntKind.u32.wrap ((BitVec.ofInt 32 (a.toNat :Int)|||BitVec.ofInt 32 (b.toNat :Int)).toNat :Int))=wv (a|||b):=by
  unfold wv;rw[ofInt32,ofInt32,wrap32_toNat]
theorem xor32(a b:W):Value.int .u32 (IntKind.u32.wrap ((BitVec.ofInt 32 (a.toNat :Int)^^^BitVec.ofInt 32 (b.toNat :Int)).toNat :Int))=wv (a^^^b):=by
  unfold wv;rw[ofInt32,ofInt32,wrap32_toNat]
theorem shl32(a:W)(n:Nat):Value.int .u32 (IntKind.u32.wrap ((a.toNat :Int)*2^n))=wv (a<<<n):=by
  unfold wv
  have:((a.toNat :Int)*2^n)=((a.toNat *2^n:Nat):Int):=by simp
  rw[this,wrap32_nat,BitVec.toNat_shiftLeft,Nat.shiftLeft_eq]
theorem shr32(a:W)(n:Nat):Value.int .u32 (Int.fdiv (a.toNat :Int) (2^n))=wv (a>>>n):=by
  unfold wv
  rw[BitVec.toNat_ushiftRight,Nat.shiftRight_eq_div_pow]
  congr 1
  have:((2:Int)^n)=((2^n:Nat):Int):=by simp
  rw[this,Int.fdiv_eq_ediv_of_nonneg _ (Int.natCast_nonneg _),Int.natCast_ediv]
theorem not32(a:W):Value.int .u32 (IntKind.u32.wrap ((BitVec.ofInt 32 4294967295^^^BitVec.ofInt 32 (a.toNat :Int)).toNat :Int))=wv (~~~a):=by
  unfold wv
  rw[ofInt32,wrap32_toNat]
  have:BitVec.ofInt 32 4294967295=BitVec.allOnes 32:=by decide
  rw[this,BitVec.allOnes_xor]
def w8(b:UInt8):W:=BitVec.ofNat 32 b.toNat
theorem conv8(b:UInt8):Value.int .u32 (IntKind.u32.wrap (b.toNat :Int))=wv (w8 b):=by
  unfold wv w8
  rw[wrap32_nat,BitVec.toNat_ofNat]
def b32(a:W):UInt8:=UInt8.ofNat a.toNat
theorem wrap8_nat(x:Nat):IntKind.u8.wrap (x:Int)=((x%256:Nat):Int):=by
  simp only[IntKind.wrap,IntKind.bits,IntKind.signed]
  simp
theorem conv32(a:W):Value.int .u8 (IntKind.u8.wrap (a.toNat :Int))=bv (b32 a):=by
  unfold bv b32
  rw[wrap8_nat];simp
end Go.Sha
namespace Go.Sha
open Go
def rr(x:W)(n:Nat):W:=(x>>>n)|||(x<<<(32 - n))
def word(p:List UInt8)(i:Nat):W:=w8 (p.getD i 0)<<<24|||w8 (p.getD (i+1) 0)<<<16|||w8 (p.getD (i+2) 0)<<<8|||w8 (p.getD (i+3) 0)
def sg0(x:W):W:=rr x 7^^^rr x 18^^^(x>>>3)
def sg1(x:W):W:=rr x 17^^^rr x 19^^^(x>>>10)
def nextW(l:List W):W:=l.getD (l.length - 16) 0+sg0 (l.getD (l.length - 15) 0)+l.getD (l.length - 7) 0+sg1 (l.getD (l.length - 2) 0)
def first(p:List UInt8):Nat→List W
  |0=>[]
  |k+1=>first p k++[word p (4*k)]
def sched(p:List UInt8):Nat→List W
  |0=>first p 16
  |k+1=>sched p k++[nextW (sched p k)]
theorem first_length(p:List UInt8):∀k,(first p k).length =k
  |0=>rfl
  |k+1=>by simp[first,first_length p k]
theorem sched_length(p:List UInt8):∀k,(sched p k).length =16+k
  |0=>first_length p 16
  |k+1=>by simp[sched,sched_length p k];omega
structure S8 where
  a:W
  b:W
  c:W
  d:W
  e:W
  f:W
  g:W
  h:W
def rnd (k w : W) (s : S8) : S8 :=
  ⟨(s.h +(rr s.e 6^^^rr s.e 11^^^rr s.e 25)+((s.e &&&s.f)^^^((~~~s.e)&&&s.g))+k+w)+((rr s.a 2^^^rr s.a 13^^^rr s.a 22)+((s.a &&&s.b)^^^(s.a &&&s.c)^^^(s.b &&&s.c))),s.a,s.b,s.c,
    s.d +(s.h +(rr s.e 6^^^rr s.e 11^^^rr s.e 25)+((s.e &&&s.f)^^^((~~~s.e)&&&s.g))+k+w),s.e,s.f,s.g⟩
def K64:List W:=[0x428a2f98,0x71374491,0xb5c0fbcf,0xe9b5dba5,0x3956c25b,0x59f111f1,0x923f82a4,0xab1c5ed5,
  0xd807aa98,0x12835b01,0x243185be,0x550c7dc3,0x72be5d74,0x80deb1fe,0x9bdc06a7,0xc19bf174,
  0xe49b69c1,0xefbe4786,0x0fc19dc6,0x240ca1cc,0x2de92c6f,0x4a7484aa,0x5cb0a9dc,0x76f988da,
  0x983e5152,0xa831c66d,0xb00327c8,0xbf597fc7,0xc6e00bf3,0xd5a79147,0x06ca6351,0x14292967,
  0x27b70a85,0x2e1b2138,0x4d2c6dfc,0x53380d13,0x650a7354,0x766a0abb,0x81c2c92e,0x92722c85,
  0xa2bfe8a1,0xa81a664b,0xc24b8b70,0xc76c51a3,0xd192e819,0xd6990624,0xf40e3585,0x106aa070,
  0x19a4c116,0x1e376c08,0x2748774c,0x34b0bcb5,0x391c0cb3,0x4ed8aa4a,0x5b9cca4f,0x682e6ff3,
  0x748f82ee,0x78a5636f,0x84c87814,0x8cc70208,0x90befffa,0xa4506ceb,0xbef9a3f7,0xc67178f2]
def rounds(ws:List W)(s:S8):Nat→S8
  |0=>s
  |k+1=>rnd (K64.getD k 0) (ws.getD k 0) (rounds ws s k)
def addS(x y:S8):S8:=⟨x.a +y.a,x.b +y.b,x.c +y.c,x.d +y.d,x.e +y.e,x.f +y.f,x.g +y.g,x.h +y.h⟩
def piece(s:S8)(p:List UInt8):S8:=addS s (rounds (sched p 48) s 64)
def sv(s:S8):List Value:=[wv s.a,wv s.b,wv s.c,wv s.d,wv s.e,wv s.f,wv s.g,wv s.h]
def H0:S8:=⟨0x6a09e667,0xbb67ae85,0x3c6ef372,0xa54ff53a,0x510e527f,0x9b05688c,0x1f83d9ab,0x5be0cd19⟩
def wl(xs:List W):List Value:=xs.map wv++List.replicate (64 - xs.length) (wv 0)
theorem wl_length{xs:List W}(h:xs.length ≤64):(wl xs).length =64:=by simp[wl];omega
theorem wl_get{xs:List W}{j:Nat}(h:j<xs.length):(wl xs).toArray[j]? =some (wv (xs.getD j 0)):=by
  simp[wl,List.getElem?_append,h,List.getD]
theorem wl_put{xs:List W}{v:W}(h:xs.length <64):Lane.splice (wl xs) xs.length [wv v]=wl (xs++[v]):=by
  obtain⟨m,hm⟩:∃m,64 - xs.length =m+1:=⟨63 - xs.length,by omega⟩
  have h2:64 - (xs++[v]).length =m:=by simp;omega
  have hx:xs.length =(xs.map wv).length :=by simp
  unfold Lane.splice wl
  rw[hm,h2]
  conv=>lhs;rw[hx]
  simp[List.replicate_succ,List.drop_append]
end Go.Sha
namespace Go.Sha
open Go
theorem wl_put'{xs:List W}{v:W}{off:Nat}(h:xs.length =off)(h2:off<64):Lane.splice (wl xs) off [wv v]=wl (xs++[v]):=by subst h;exact wl_put h2
theorem wl_fit{xs:List W}{v:Value}{off:Nat}(h:xs.length =off)(h2:off<64):off+[v].length ≤(wl xs).length :=by rw[wl_length (by omega)];simp;omega
theorem wl_get'{xs:List W}{n j:Nat}(h:xs.length =n)(hj:j<n):(wl xs).toArray[j]? =some (wv (xs.getD j 0)):=wl_get (by omega)
theorem ones_wv(v:W):∀u∈[wv v],u.oneCell' =true:=fun u hu=>by
  rw[List.mem_singleton] at hu;subst hu;rfl
end Go.Sha
namespace Go.Sha
open Go
theorem sched_step(p:List UInt8)(k:Nat):sched p (k+1)=sched p k++[(sched p k).getD (16+k - 16) 0+(rr ((sched p k).getD (16+k - 15) 0) 7^^^rr ((sched p k).getD (16+k - 15) 0) 18^^^((sched p k).getD (16+k - 15) 0)>>>3)+
    (sched p k).getD (16+k - 7) 0+(rr ((sched p k).getD (16+k - 2) 0) 17^^^rr ((sched p k).getD (16+k - 2) 0) 19^^^((sched p k).getD (16+k - 2) 0)>>>10)]:=by
  rw[sched,nextW,sched_length];rfl
end Go.Sha
namespace Go.Sha
open Go Go.Lane
def runF:Nat→S8→List UInt8→S8
  |0,st,_=>st
  |f+1,st,l=>if 64≤l.length then runF f (piece st (l.take 64)) (l.drop 64) else st
def run(st:S8)(l:List UInt8):S8:=runF l.length st l
def remF:Nat→List UInt8→List UInt8
  |0,l=>l
  |f+1,l=>if 64≤l.length then remF f (l.drop 64) else l
def rem(l:List UInt8):List UInt8:=remF l.length l
theorem runF_fuel:∀(f g:Nat) (st:S8) (l:List UInt8),l.length ≤f→l.length ≤g→runF f st l=runF g st l
  |0,0,_,_,_,_=>rfl
  |0,g+1,st,l,h,_=>by simp only[runF];rw[if_neg (by omega)]
  |f+1,0,st,l,_,h=>by simp only[runF];rw[if_neg (by omega)]
  | f + 1, g + 1, st, l, h1, h2 => by
    simp only[runF]
    by_cases hl:64≤l.length
    · rw [if_pos hl, if_pos hl]
      exact runF_fuel f g _ _ (by rw[List.length_drop];omega) (by rw[List.length_drop];omega)
    · rw[if_neg hl,if_neg hl]
theorem run_step{st:S8}{l:List UInt8}(h:64≤l.length):run st l=run (piece st (l.take 64)) (l.drop 64):=by
  unfold run
  obtain⟨n,hn⟩:∃n,l.length =n+1:=⟨l.length - 1,by omega⟩
  rw[hn]
  conv=>lhs;unfold runF
  rw[if_pos h]
  exact runF_fuel _ _ _ _ (by rw[List.length_drop];omega) (Nat.le_refl _)
theorem run_end{st:S8}{l:List UInt8}(h:l.length <64):run st l=st:=by
  unfold run
  cases l.length with
  |zero=>rfl
  |succ n=>unfold runF;rw[if_neg (by omega)]
theorem remF_fuel:∀(f g:Nat) (l:List UInt8),l.length ≤f→l.length ≤g→remF f l=remF g l
  |0,0,_,_,_=>rfl
  |0,g+1,l,h,_=>by simp only[remF];rw[if_neg (by omega)]
  |f+1,0,l,_,h=>by simp only[remF];rw[if_neg (by omega)]
  | f + 1, g + 1, l, h1, h2 => by
    simp only[remF]
    by_cases hl:64≤l.length
    · rw [if_pos hl, if_pos hl]
      exact remF_fuel f g _ (by rw[List.length_drop];omega) (by rw[List.length_drop];omega)
    · rw[if_neg hl,if_neg hl]
theorem rem_step{l:List UInt8}(h:64≤l.length):rem l=rem (l.drop 64):=by
  unfold rem
  obtain⟨n,hn⟩:∃n,l.length =n+1:=⟨l.length - 1,by omega⟩
  rw[hn]
  conv=>lhs;unfold remF
  rw[if_pos h]
  exact remF_fuel _ _ _ (by rw[List.length_drop];omega) (Nat.le_refl _)
theorem rem_end{l:List UInt8}(h:l.length <64):rem l=l:=by
  unfold rem
  cases l.length with
  |zero=>rfl
  |succ n=>unfold remF;rw[if_neg (by omega)]
theorem rem_lt : ∀ (m : Nat) (l : List UInt8), l.length ≤ m → (rem l).length < 64 ∧ (rem l).length ≤ l.length ∧ (rem l).length % 64 = l.length % 64
  | m, l, h => by
    by_cases hl:64≤l.length
    · rw [rem_step hl]
      match m,h with
      |0,h=>omega
      | m + 1, h =>
        obtain⟨a,b,c⟩:=rem_lt m (l.drop 64) (by rw[List.length_drop];omega)
        rw[List.length_drop] at b c
        exact⟨a,by omega,by omega⟩
    · rw [rem_end (by omega)]
      exact⟨by omega,by omega,rfl⟩
theorem run_append : ∀ (m : Nat) (st : S8) (l r : List UInt8), l.length ≤ m → run st (l ++ r) = run (run st l) (rem l ++ r)
  | m, st, l, r, h => by
    by_cases hl:64≤l.length
    · match m, h with
      |0,h=>omega
      | m + 1, h =>
        rw[run_step (st:=st) (l:=l) hl,rem_step hl,run_step (st:=st) (l:=l++r) (by rw[List.length_append];omega),List.take_append_of_le_length hl,List.drop_append_of_le_length hl]
        exact run_append m _ _ _ (by rw[List.length_drop];omega)
    · rw[run_end (st:=st) (l:=l) (by omega),rem_end (by omega)]
theorem rem_append : ∀ (m : Nat) (l r : List UInt8), l.length ≤ m → rem (l ++ r) = rem (rem l ++ r)
  | m, l, r, h => by
    by_cases hl:64≤l.length
    · match m, h with
      |0,h=>omega
      | m + 1, h =>
        rw[rem_step (l:=l) hl,rem_step (l:=l++r) (by rw[List.length_append];omega),List.drop_append_of_le_length hl]
        exact rem_append m _ _ (by rw[List.length_drop];omega)
    · rw[rem_end (l:=l) (by omega)]
def told(s:S8):List UInt8:=[b32 (s.a >>>24),b32 (s.a >>>16),b32 (s.a >>>8),b32 (s.a >>>0),b32 (s.b >>>24),b32 (s.b >>>16),b32 (s.b >>>8),b32 (s.b >>>0),
  b32 (s.c >>>24),b32 (s.c >>>16),b32 (s.c >>>8),b32 (s.c >>>0),b32 (s.d >>>24),b32 (s.d >>>16),b32 (s.d >>>8),b32 (s.d >>>0),
  b32 (s.e >>>24),b32 (s.e >>>16),b32 (s.e >>>8),b32 (s.e >>>0),b32 (s.f >>>24),b32 (s.f >>>16),b32 (s.f >>>8),b32 (s.f >>>0),
  b32 (s.g >>>24),b32 (s.g >>>16),b32 (s.g >>>8),b32 (s.g >>>0),b32 (s.h >>>24),b32 (s.h >>>16),b32 (s.h >>>8),b32 (s.h >>>0)]
def tk(s:S8)(j:Nat):List Value:=((told s).map bv).take j++List.replicate (32 - j) (.int .u8 0)
def hv(l:List UInt8):Value:= .agg (l.map bv).toArray
def zlen(n:Nat):Nat:=(120 - n%64)%64
def lenB(n:Nat):List UInt8:=[UInt8.ofNat (8*n/2^56),UInt8.ofNat (8*n/2^48),UInt8.ofNat (8*n/2^40),UInt8.ofNat (8*n/2^32),UInt8.ofNat (8*n/2^24),UInt8.ofNat (8*n/2^16),UInt8.ofNat (8*n/2^8),UInt8.ofNat (8*n/2^0)]
def padded(r:List UInt8)(n:Nat):List UInt8:=r++[0x80]++List.replicate (zlen (r.length +1)) 0++lenB n
def fin(st:S8)(r:List UInt8)(n:Nat):List UInt8:=told (run st (padded r n))
def sha(l:List UInt8):List UInt8:=fin H0 l l.length
theorem zlen_congr{a b:Nat}(h:a%64=b%64):zlen a=zlen b:=by unfold zlen;rw[h]
theorem sha_rem(l:List UInt8):fin (run H0 l) (rem l) l.length =sha l:=by
  unfold sha fin padded
  obtain⟨_,_,hm⟩:=rem_lt l.length l (Nat.le_refl _)
  have hz:zlen ((rem l).length +1)=zlen (l.length +1):=zlen_congr (by omega)
  rw[hz]
  simp only[List.append_assoc]
  rw[run_append l.length H0 l _ (Nat.le_refl _)]
theorem padded_len(r:List UInt8)(n:Nat):(padded r n).length %64=0:=by
  simp only[padded,List.length_append,List.length_replicate,lenB,List.length_cons,List.length_nil,zlen]
  omega
def StA (h : Heap) (b : Nat) (o : Option Nat) (st : S8) (r : List UInt8) (n : Nat) : Prop :=
  ∃ ad cap, o = ad.map (·.block) ∧ o ≠ some b ∧ h[b]? = some (.cells (sv st ++ [Value.slice ad r.length cap, Value.int .u64 ((n : Nat) : Int)]).toArray 149) ∧
    Own h (.slice ad r.length cap) 5 r.length 1 (r.map bv)
def Gr(F:Nat→Prop)(h h':Heap):Prop:=h.size ≤h'.size ∧∀k,k<h.size →¬F k→h'[k]? =h[k]?
theorem Gr.refl(F:Nat→Prop)(h:Heap):Gr F h h:=⟨Nat.le_refl _,fun _ _ _=>rfl⟩
theorem Gr.trans{F:Nat→Prop}{a b c:Heap}(h:Gr F a b)(k:Gr F b c):Gr F a c:=⟨Nat.le_trans h.1 k.1,fun i hi hF=>(k.2 i (Nat.lt_of_lt_of_le hi h.1) hF).trans (h.2 i hi hF)⟩
theorem Gr.grew{F:Nat→Prop}{a b c:Heap}{o:Option Nat}(h:Gr F a b)(k:Grew o b c)(ho:∀i,o=some i→F i∨a.size ≤i):Gr F a c:=
  ⟨Nat.le_trans h.1 k.size,fun i hi hF=>(k.get i (Nat.lt_of_lt_of_le hi h.1) (fun e=>by rcases ho i e.symm with h|h;exact hF h;omega)).trans (h.2 i hi hF)⟩
theorem Gr.ext{F:Nat→Prop}{a b c:Heap}(h:Gr F a b)(k:Ext b c):Gr F a c:=h.grew k (by simp)
theorem Gr.blk{F:Nat→Prop}{h h':Heap}{b:Nat}{x:Obj}(g:Gr F h h')(e:h[b]? =some x)(hF:¬F b):h'[b]? =some x:=by rw[g.2 b (blk_lt e) hF];exact e
theorem Gr.toExt{F:Nat→Prop}{h0 h h':Heap}(e:Ext h0 h)(g:Gr F h h')(hF:∀k,F k→h0.size ≤k):Ext h0 h':=
  ⟨Nat.le_trans e.size g.1,fun k hk _=>(g.2 k (Nat.lt_of_lt_of_le hk e.size) (fun hf=>by have:=hF k hf;omega)).trans (e.get k hk (by simp))⟩
def Ktab(h:Heap):Prop:=∀j,j<64→hcell h ⟨0,j,none⟩=some (wv (K64.getD j 0))
theorem Ktab.ext{h h':Heap}(k:Ktab h)(g:Ext h h'):Ktab h':=fun j hj=>g.cell (k j hj)
theorem Ktab.grew{o:Option Nat}{h h':Heap}(k:Ktab h)(g:Grew o h h')(hne:some 0≠o):Ktab h':=fun j hj=>g.cell (k j hj) hne
theorem Ktab.gr{F:Nat→Prop}{h h':Heap}(k:Ktab h)(g:Gr F h h')(hF:¬F 0):Ktab h':=fun j hj=>by
  rw[hcell_congr (g.2 0 (hcell_lt (k j hj)) hF)];exact k j hj
theorem Ktab.lt{h:Heap}(k:Ktab h):0<h.size :=hcell_lt (k 0 (by decide))
theorem u64n{x:Nat}(h:x<18446744073709551616):IntKind.u64.wrap (x:Int)=(x:Int):=by
  simp only[IntKind.wrap,IntKind.bits,IntKind.signed]
  simp
  omega
theorem u64e{x:Int}{y:Nat}(e:x=(y:Int))(h:y<18446744073709551616):IntKind.u64.wrap x=(y:Int):=by rw[e];exact u64n h
theorem ones_map(l:List UInt8):∀u∈l.map bv,u.oneCell' =true:=fun u hu=>by
  obtain⟨x,_,rfl⟩:=List.mem_map.1 hu;rfl
theorem get_bv{l:List UInt8}{j:Nat}(h:j<l.length):(l.map bv)[j]? =some (bv (l.getD j 0)):=by simp[h,List.getD]
end Go.Sha
namespace Go.Lane
open Go
section
variable {P:Program} {ops:Array Oper} {base:Nat→Value} {vals:Vals} {h:Heap} {i:Nat}
theorem blkOf_slice(ad:Option Addr)(n c:Nat):blkOf (.slice ad n c)=ad.map (·.block):=by cases ad<;>rfl
theorem Calm.sliceO{a x:Option Addr}{len cap sz:Nat}{lo hi mx:Option Int}(l r m n' c':Nat)(hx:slOp P ops base vals i=some (a,len,cap,sz,lo,hi,mx))
    (hm:mx=none∧m=cap∨mx=some (m:Int)∧m≤cap∧hi.isSome =true) (hr:hi=none∧r=len∨hi=some (r:Int)) (hl:lo=none∧l=0∨lo=some (l:Int)) (hlr:l≤r) (hrm:r≤m)
    (e1:x=if m=l then a else a.map (·.add (l*sz))) (e2:r - l=n') (e3:m - l=c') (h:Heap):
    Calm P ops base vals i h (.slice x n' c'):=by
  subst e1;subst e2;subst e3
  exact Calm.slice l r m hx hm hr hl hlr hrm h
theorem Own.drop{ad:Option Addr}{n cap E sz:Nat}{xs:List Value}(o:Own h (.slice ad n cap) E n sz xs)(k:Nat)(hk:k≤n):
    Own h (.slice (if cap=k then ad else ad.map (·.add (k*sz))) (n - k) (cap - k)) E (n - k) sz (xs.drop (k*sz)):=by
  refine⟨by rw[List.length_drop,o.1,Nat.sub_mul], ?_⟩
  rcases o.2 with⟨e,hn⟩|⟨g,off,cap',l,e,hg,hnc,hcm,hfit,hx⟩
  · simp only [Value.slice.injEq] at e
    obtain⟨rfl,rfl,rfl⟩:=e
    have:k=0:=by omega
    subst this
    exact .inl (by simp)
  · simp only [Value.slice.injEq] at e
    obtain⟨rfl,_,rfl⟩:=e
    refine .inr ?_
    by_cases hck:cap=k
    · have hnk : n = k := by omega
      subst hck;subst hnk
      refine⟨g,off,0,l,by simp,hg,by omega,by simp[maxLen],by omega, ?_⟩
      rw[Nat.sub_self,Nat.zero_mul,List.take_zero,List.drop_eq_nil_of_le (by rw[o.1];exact Nat.le_refl _)]
    · refine ⟨g, off + k * sz, cap - k, l, ?_, hg, by omega, by omega, ?_, ?_⟩
      · rw[if_neg hck];simp[add_lit]
      · have h1 : k * sz + (cap - k) * sz = cap * sz := by rw [← Nat.add_mul]; congr 1; omega
        omega
      · rw[←hx,List.drop_take,List.drop_drop, ←Nat.sub_mul]
theorem Own.some_at{ad:Option Addr}{n cap E sz:Nat}{xs:List Value}(o:Own h (.slice ad n cap) E n sz xs)(hn:0<n):∃g off,ad=some ⟨g,off,none⟩∧n≤cap:=by
  rcases o.2 with⟨_,h0⟩|⟨g,off,cap',l,e,hg,hnc,_⟩
  · omega
  · simp only [Value.slice.injEq] at e
    exact⟨g,off,e.1,by omega⟩
theorem Row.cells{ad:Addr}{n m cap sz:Nat}{xs:List Value}(r:Row h (.slice (some ad) n cap) m sz xs):∀j u,xs[j]? =some u→hcell h (ad.add j)=some u:=by
  rcases r.2 with⟨e,_⟩|⟨a,c,e,_,hx⟩
  · cases e
  · simp only [Value.slice.injEq, Option.some.injEq] at e
    obtain⟨rfl,_,_⟩:=e
    exact hx
end
end Go.Lane
namespace Go.Sha
open Go Go.Lane
theorem pre64{h:Heap}{ad:Addr}{cap E:Nat}{r:List UInt8}(o:Own h (.slice (some ad) r.length cap) E r.length 1 (r.map bv))(hl:64≤r.length):∀j,j<64→hcell h (ad.add j)=some (bv ((r.take 64).getD j 0)):=by
  intro j hj
  refine o.row.cells j _ ?_
  rw[get_bv (by omega)]
  congr 2
  simp[List.getD,hj]
theorem blk_drop{c:Prop}[Decidable c]{a:Addr}{k:Nat}{x:Option Addr}(e:x=if c then some a else (some a).map (·.add k)):x.map (·.block)=some a.block :=by
  subst e;split<;>simp[add_block]
theorem fdivN(x k:Nat):Int.fdiv (x:Int) (2^k)=((x/2^k:Nat):Int):=by
  have:((2:Int)^k)=((2^k:Nat):Int):=by simp
  rw[this,Int.fdiv_eq_ediv_of_nonneg _ (Int.natCast_nonneg _),Int.natCast_ediv]
theorem conv64(x:Nat):Value.int .u8 (IntKind.u8.wrap (x:Int))=bv (UInt8.ofNat x):=by
  unfold bv
  rw[wrap8_nat];simp
theorem some_add0{c:Prop}[Decidable c](a:Addr):some a=if c then some a else (some a).map (·.add (0*1)):=by
  split<;>simp[Addr.add]
end Go.Sha
namespace Go.Lane
open Go
section
variable {P:Program} {ops:Array Oper} {base:Nat→Value} {vals:Vals} {h:Heap} {i:Nat}
theorem Row.kept{o:Option Nat}{h h':Heap}{v:Value}{n sz:Nat}{xs:List Value}(r:Row h v n sz xs)(g:Grew o h h')(hne:blkOf v=none∨blkOf v≠o):Row h' v n sz xs:=by
  refine⟨r.1,r.2.imp id ?_⟩
  rintro⟨a,cap,e,hc,hx⟩
  refine⟨a,cap,e,hc,fun j u hu=>g.cell (hx j u hu) ?_⟩
  rw[add_block]
  subst e
  simpa[blkOf] using hne
theorem Row.kept'{o:Option Nat}{h h':Heap}{v:Value}{n sz:Nat}{xs:List Value}(r:Row h v n sz xs)(g:Grew o h h')(hne:xs=[]∨blkOf v=none∨blkOf v≠o):Row h' v n sz xs:=by
  rcases hne with e0|hne
  · exact⟨r.1,r.2.imp id fun⟨a,cap,e,hc,_⟩=>⟨a,cap,e,hc,fun j u hu=>by rw[e0] at hu;cases hu⟩⟩
  · exact r.kept g hne
theorem Does.append2 {t E : TypeId} {sz by_ n m : Nat} {v x : Value} {xs ys : List Value} (hx : apOp ops base vals i = some (t, t, v, x)) (he : elF P t = some (E, sz, by_, true))
    (ho:Own h v E n sz xs) (hr:Row h x m sz ys) (h1:∀u∈ys,u.oneCell' =true) (hlen:n+m≤maxLen) (hbytes:(n+m)*by_≤140737488355328):
    Does P ops base vals i h fun v' h'=>∃ad cap,v'= .slice ad (n+m) cap∧Own h' (.slice ad (n+m) cap) E (n+m) sz (xs++ys)∧Grew (blkOf v) h h'∧(ad.map (·.block)=blkOf v∨ad.map (·.block)=some h.size):=by
  obtain⟨o,h1',h2',hf⟩:=(Does.append hx he ho hr h1 hlen hbytes).does
  refine⟨o,h1',h2',fun w hw=> ?_⟩
  have key:∀v' h',(Own h' v' E (n+m) sz (xs++ys)∧Grew (blkOf v) h h'∧(blkOf v'=blkOf v∨blkOf v'=some h.size)∧(v'= .slice none 0 0∨∃a c,v'= .slice (some a) (n+m) c))→
      ∃ad cap,v'= .slice ad (n+m) cap∧Own h' (.slice ad (n+m) cap) E (n+m) sz (xs++ys)∧Grew (blkOf v) h h'∧(ad.map (·.block)=blkOf v∨ad.map (·.block)=some h.size):=by
    rintro v' h' ⟨a,b,c,d⟩
    rcases d with d|⟨q,k,d⟩
    · have hz : n + m = 0 := by
        rcases a.2 with⟨_,e⟩|⟨_,_,_,_,e,_⟩
        · exact e
        · rw[d] at e;cases e
      have e:Value.slice none (n+m) 0=v':=by rw[hz];exact d.symm
      refine⟨none,0,e.symm,by rw[e];exact a,b, ?_⟩
      rw[d] at c;exact c
    · refine ⟨some q, k, d, by rw [← d]; exact a, b, ?_⟩
      rw[d] at c;exact c
  have:=hf w hw
  generalize (execOp (env ops base vals i) o).run P w=r at this⊢
  cases r with
  |halt x w'=>exact this
  | ok x w' =>
    cases x<;>first|exact⟨this.1,key _ _ this.2⟩|exact⟨this.1,this.2.mono key⟩|exact this
def apT(ops:Array Oper)(base:Nat→Value)(vals:Vals)(j:Nat):TypeId:=match apOp ops base vals j with|some (t,_)=>t|none=>0
theorem Does.append3{t E:TypeId}{sz by_ n m c N:Nat}{a:Option Addr}{x:Value}{xs ys Z:List Value}(hx:apOp ops base vals i=some (t,t, .slice a n c,x))(he:elF P t=some (E,sz,by_,true))
    (ho:Own h (.slice a n c) E n sz xs) (hr:Row h x m sz ys) (h1:∀u∈ys,u.oneCell' =true) (hlen:n+m≤maxLen) (hbytes:(n+m)*by_≤140737488355328) (hN:n+m=N) (hZ:xs++ys=Z):
    Does P ops base vals i h fun v' h'=>∃ad cap,v'= .slice ad N cap∧Own h' (.slice ad N cap) E N sz Z∧Grew (a.map (fun(x:Addr)=>x.block)) h h'∧(ad.map (fun(x:Addr)=>x.block)=a.map (fun(x:Addr)=>x.block)∨ad.map (fun(x:Addr)=>x.block)=some h.size):=by
  subst hN;subst hZ
  have:=Does.append2 hx he ho hr h1 hlen hbytes
  rw[blkOf_slice] at this
  exact this
theorem tP{K:Exit→Act→Heap→Prop}{nn k:Nat}(j N by_:Nat)(Z:List Value){E:TypeId}{sz n m c:Nat}{a:Option Addr}{x:Value}{xs ys:List Value}(ho:Own h (.slice a n c) E n sz xs)(hr:Row h x m sz ys)(h1:∀u∈ys,u.oneCell' =true)
    (hh:∀ad cap h',Own h' (.slice ad N cap) E N sz Z→Grew (a.map (fun(x:Addr)=>x.block)) h h'→(ad.map (fun(x:Addr)=>x.block)=a.map (fun(x:Addr)=>x.block)∨ad.map (fun(x:Addr)=>x.block)=some h.size)→SeqK P ops nn base K (j+1) (vset (foldP P ops base (j - k) k vals) j (.slice ad N cap)) h')
    (hl:n+m≤maxLen:=by unfold maxLen;omega) (hb:(n+m)*by_≤140737488355328:=by omega) (hN:n+m=N:=by first|rfl| (simp;done)| (simp;omega)) (hZ:xs++ys=Z:=by first|rfl|exact List.flatMap_append.symm | (simp;done)| (simp;rfl))
    (hx:apOp ops base (foldP P ops base (j - k) k vals) j=some (apT ops base (foldP P ops base (j - k) k vals) j,apT ops base (foldP P ops base (j - k) k vals) j, .slice a n c,x):=by kernel_rfl) (he:elF P (apT ops base (foldP P ops base (j - k) k vals) j)=some (E,sz,by_,true):=by kernel_rfl)
    (hr':okP P ops base (j - k) k vals=true:=by kernel_rfl) (hk:Nat.ble k j=true:=by kernel_rfl):SeqK P ops nn base K k vals h:=
  jmp j hk hr' (SeqK.eff (Does.append3 hx he ho hr h1 hl hb hN hZ) rfl fun v' h' ⟨ad,cap,e,o,g,b⟩=>by subst e;exact hh ad cap h' o g b)
theorem mP0{K:Exit→Act→Heap→Prop}{A:List Nat}{D X Wd nn:Nat}(D' X' i N by_:Nat)(Z:List Value){E:TypeId}{sz n m c:Nat}{a:Option Addr}{x:Value}{xs ys:List Value}(ho:Own h (.slice a n c) E n sz xs)(hr:Row h x m sz ys)(h1:∀u∈ys,u.oneCell' =true)
    (hh:∀ad cap h',Own h' (.slice ad N cap) E N sz Z→Grew (a.map (fun(x:Addr)=>x.block)) h h'→(ad.map (fun(x:Addr)=>x.block)=a.map (fun(x:Addr)=>x.block)∨ad.map (fun(x:Addr)=>x.block)=some h.size)→SimK P ops A nn base K D' X' Wd (vset vals i (.slice ad N cap)) h')
    (hl:n+m≤maxLen:=by unfold maxLen;omega) (hb:(n+m)*by_≤140737488355328:=by omega) (hN:n+m=N:=by first|rfl| (simp;done)| (simp;omega)) (hZ:xs++ys=Z:=by first|rfl|exact List.flatMap_append.symm | (simp;done)| (simp;rfl))
    (hx:apOp ops base vals i=some (apT ops base vals i,apT ops base vals i, .slice a n c,x):=by kernel_rfl) (he:elF P (apT ops base vals i)=some (E,sz,by_,true):=by kernel_rfl)
    (hn:nexts ops A D=[i]:=by kernel_rfl) (hD:D|||2^i=D':=by kernel_rfl) (hX:X|||anc A i|||2^i=X':=by kernel_rfl) (hp:pendL ops A D X Wd i=[]:=by kernel_rfl):SimK P ops A nn base K D X Wd vals h:=
  SimK.eff0 hn hD hX hp (Does.append3 hx he ho hr h1 hl hb hN hZ) fun v' h' ⟨ad,cap,e,o,g,b⟩=>by subst e;exact hh ad cap h' o g b
theorem Own.k{o:Option Nat}{h':Heap}{ad:Option Addr}{n c m sz:Nat}{E:TypeId}{xs:List Value}(w:Own h (.slice ad n c) E m sz xs)(g:Grew o h h')(hne:ad.map (fun(x:Addr)=>x.block)=none∨ad.map (fun(x:Addr)=>x.block)≠o):Own h' (.slice ad n c) E m sz xs:=w.kept g (by rw[blkOf_slice];exact hne)
end
end Go.Lane
namespace Go.Sha
open Go Go.Lane
/-! words, by the operation alone -/
section
variable {P:Program} {K:Exit→Act→Heap→Prop} {h:Heap} {ops:Array Oper} {base:Nat→Value} {vals:Vals} {n:Nat}
theorem xA{k:Nat}(j:Nat)(a b:W)(hs:SeqK P ops n base K (j+1) (vset (foldP P ops base (j - k) k vals) j (wv (a+b))) h)(hv:pureVal P ops base (foldP P ops base (j - k) k vals) j=some (.int .u32 (IntKind.u32.wrap ((a.toNat :Int)+(b.toNat :Int)))):=by kernel_rfl)(hr:okP P ops base (j - k) k vals=true:=by kernel_rfl)(hk:Nat.ble k j=true:=by kernel_rfl):SeqK P ops n base K k vals h:=t1 j _ _ (add32 a b) hs hv hr hk
theorem yA{A:List Nat}{D X Wd:Nat}(D' i:Nat)(a b:W)(hs:SimK P ops A n base K D' X Wd (vset vals i (wv (a+b))) h)(hv:pureVal P ops base vals i=some (.int .u32 (IntKind.u32.wrap ((a.toNat :Int)+(b.toNat :Int)))):=by kernel_rfl)(hc:(canReg ops A D i&& !(Wd.testBit i))=true:=by kernel_rfl)(hD:D|||2^i=D':=by kernel_rfl):SimK P ops A n base K D X Wd vals h:=SimK.pure1 hc hD hv (add32 a b) hs
theorem xX{k:Nat}(j:Nat)(a b:W)(hs:SeqK P ops n base K (j+1) (vset (foldP P ops base (j - k) k vals) j (wv (a^^^b))) h)(hv:pureVal P ops base (foldP P ops base (j - k) k vals) j=some (.int .u32 (IntKind.u32.wrap ((BitVec.ofInt 32 (a.toNat :Int)^^^BitVec.ofInt 32 (b.toNat :Int)).toNat :Int))):=by kernel_rfl)(hr:okP P ops base (j - k) k vals=true:=by kernel_rfl)(hk:Nat.ble k j=true:=by kernel_rfl):SeqK P ops n base K k vals h:=t1 j _ _ (xor32 a b) hs hv hr hk
theorem yX{A:List Nat}{D X Wd:Nat}(D' i:Nat)(a b:W)(hs:SimK P ops A n base K D' X Wd (vset vals i (wv (a^^^b))) h)(hv:pureVal P ops base vals i=some (.int .u32 (IntKind.u32.wrap ((BitVec.ofInt 32 (a.toNat :Int)^^^BitVec.ofInt 32 (b.toNat :Int)).toNat :Int))):=by kernel_rfl)(hc:(canReg ops A D i&& !(Wd.testBit i))=true:=by kernel_rfl)(hD:D|||2^i=D':=by kernel_rfl):SimK P ops A n base K D X Wd vals h:=SimK.pure1 hc hD hv (xor32 a b) hs
theorem xN{k:Nat}(j:Nat)(a b:W)(hs:SeqK P ops n base K (j+1) (vset (foldP P ops base (j - k) k vals) j (wv (a&&&b))) h)(hv:pureVal P ops base (foldP P ops base (j - k) k vals) j=some (.int .u32 (IntKind.u32.wrap ((BitVec.ofInt 32 (a.toNat :Int)&&&BitVec.ofInt 32 (b.toNat :Int)).toNat :Int))):=by kernel_rfl)(hr:okP P ops base (j - k) k vals=true:=by kernel_rfl)(hk:Nat.ble k j=true:=by kernel_rfl):SeqK P ops n base K k vals h:=t1 j _ _ (and32 a b) hs hv hr hk
theorem yN{A:List Nat}{D X Wd:Nat}(D' i:Nat)(a b:W)(hs:SimK P ops A n base K D' X Wd (vset vals i (wv (a&&&b))) h)(hv:pureVal P ops base vals i=some (.int .u32 (IntKind.u32.wrap ((BitVec.ofInt 32 (a.toNat :Int)&&&BitVec.ofInt 32 (b.toNat :Int)).toNat :Int))):=by kernel_rfl)(hc:(canReg ops A D i&& !(Wd.testBit i))=true:=by kernel_rfl)(hD:D|||2^i=D':=by kernel_rfl):SimK P ops A n base K D X Wd vals h:=SimK.pure1 hc hD hv (and32 a b) hs
theorem xO{k:Nat}(j:Nat)(a b:W)(hs:SeqK P ops n base K (j+1) (vset (foldP P ops base (j - k) k vals) j (wv (a|||b))) h)(hv:pureVal P ops base (foldP P ops base (j - k) k vals) j=some (.int .u32 (IntKind.u32.wrap ((BitVec.ofInt 32 (a.toNat :Int)|||BitVec.ofInt 32 (b.toNat :Int)).toNat :Int))):=by kernel_rfl)(hr:okP P ops base (j - k) k vals=true:=by kernel_rfl)(hk:Nat.ble k j=true:=by kernel_rfl):SeqK P ops n base K k vals h:=t1 j _ _ (or32 a b) hs hv hr hk
theorem yO{A:List Nat}{D X Wd:Nat}(D' i:Nat)(a b:W)(hs:SimK P ops A n base K D' X Wd (vset vals i (wv (a|||b))) h)(hv:pureVal P ops base vals i=some (.int .u32 (IntKind.u32.wrap ((BitVec.ofInt 32 (a.toNat :Int)|||BitVec.ofInt 32 (b.toNat :Int)).toNat :Int))):=by kernel_rfl)(hc:(canReg ops A D i&& !(Wd.testBit i))=true:=by kernel_rfl)(hD:D|||2^i=D':=by kernel_rfl):SimK P ops A n base K D X Wd vals h:=SimK.pure1 hc hD hv (or32 a b) hs
theorem xL{k:Nat}(j:Nat)(a:W)(m:Nat)(hs:SeqK P ops n base K (j+1) (vset (foldP P ops base (j - k) k vals) j (wv (a<<<m))) h)(hv:pureVal P ops base (foldP P ops base (j - k) k vals) j=some (.int .u32 (IntKind.u32.wrap ((a.toNat :Int)*2^m))):=by kernel_rfl)(hr:okP P ops base (j - k) k vals=true:=by kernel_rfl)(hk:Nat.ble k j=true:=by kernel_rfl):SeqK P ops n base K k vals h:=t1 j _ _ (shl32 a m) hs hv hr hk
theorem yL{A:List Nat}{D X Wd:Nat}(D' i:Nat)(a:W)(m:Nat)(hs:SimK P ops A n base K D' X Wd (vset vals i (wv (a<<<m))) h)(hv:pureVal P ops base vals i=some (.int .u32 (IntKind.u32.wrap ((a.toNat :Int)*2^m))):=by kernel_rfl)(hc:(canReg ops A D i&& !(Wd.testBit i))=true:=by kernel_rfl)(hD:D|||2^i=D':=by kernel_rfl):SimK P ops A n base K D X Wd vals h:=SimK.pure1 hc hD hv (shl32 a m) hs
theorem xR{k:Nat}(j:Nat)(a:W)(m:Nat)(hs:SeqK P ops n base K (j+1) (vset (foldP P ops base (j - k) k vals) j (wv (a>>>m))) h)(hv:pureVal P ops base (foldP P ops base (j - k) k vals) j=some (.int .u32 (Int.fdiv (a.toNat :Int) (2^m))):=by kernel_rfl)(hr:okP P ops base (j - k) k vals=true:=by kernel_rfl)(hk:Nat.ble k j=true:=by kernel_rfl):SeqK P ops n base K k vals h:=t1 j _ _ (shr32 a m) hs hv hr hk
theorem yR{A:List Nat}{D X Wd:Nat}(D' i:Nat)(a:W)(m:Nat)(hs:SimK P ops A n base K D' X Wd (vset vals i (wv (a>>>m))) h)(hv:pureVal P ops base vals i=some (.int .u32 (Int.fdiv (a.toNat :Int) (2^m))):=by kernel_rfl)(hc:(canReg ops A D i&& !(Wd.testBit i))=true:=by kernel_rfl)(hD:D|||2^i=D':=by kernel_rfl):SimK P ops A n base K D X Wd vals h:=SimK.pure1 hc hD hv (shr32 a m) hs
theorem yM{A:List Nat}{D X Wd:Nat}(D' i:Nat)(a:W)(hs:SimK P ops A n base K D' X Wd (vset vals i (wv (~~~a))) h)(hv:pureVal P ops base vals i=some (.int .u32 (IntKind.u32.wrap ((BitVec.ofInt 32 4294967295^^^BitVec.ofInt 32 (a.toNat :Int)).toNat :Int))):=by kernel_rfl)(hc:(canReg ops A D i&& !(Wd.testBit i))=true:=by kernel_rfl)(hD:D|||2^i=D':=by kernel_rfl):SimK P ops A n base K D X Wd vals h:=SimK.pure1 hc hD hv (not32 a) hs
theorem yC{A:List Nat}{D X Wd:Nat}(D' i:Nat)(a:UInt8)(hs:SimK P ops A n base K D' X Wd (vset vals i (wv (w8 a))) h)(hv:pureVal P ops base vals i=some (.int .u32 (IntKind.u32.wrap (a.toNat :Int))):=by kernel_rfl)(hc:(canReg ops A D i&& !(Wd.testBit i))=true:=by kernel_rfl)(hD:D|||2^i=D':=by kernel_rfl):SimK P ops A n base K D X Wd vals h:=SimK.pure1 hc hD hv (conv8 a) hs
theorem xD{k:Nat}(j:Nat)(a:W)(hs:SeqK P ops n base K (j+1) (vset (foldP P ops base (j - k) k vals) j (bv (b32 a))) h)(hv:pureVal P ops base (foldP P ops base (j - k) k vals) j=some (.int .u8 (IntKind.u8.wrap (a.toNat :Int))):=by kernel_rfl)(hr:okP P ops base (j - k) k vals=true:=by kernel_rfl)(hk:Nat.ble k j=true:=by kernel_rfl):SeqK P ops n base K k vals h:=t1 j _ _ (conv32 a) hs hv hr hk
end
end Go.Sha
end
section
namespace Go.Lane
open Go Go.Sha
theorem part_one{P:Program}{e:TypeId}{cs:Array Value}{i:Nat}{v:Value}{d:TypeDesc}(he:P.underlying e=some d)(hd:(match d with| .struct _| .array _ _=>true|_=>false)=false)(hv:cs[i]? =some v)(w:World):(part e cs i).run P w= .ok v w:=by
  have ha:(isAgg e).run P w= .ok false w:=by
    unfold isAgg
    simp only[Sem.run_bind,run_underlying he,Result.andThen_ok]
    cases d<;>first|rfl| (simp at hd)
  simp[part,ha,hv]
theorem bv_beq(a b:UInt8):(((a.toNat :Int))==(b.toNat :Int))=decide (a=b):=by
  rw[Bool.eq_iff_iff]
  simp only[beq_iff_eq,decide_eq_true_eq]
  constructor
  · intro h;exact UInt8.toNat_inj.1 (by omega)
  · intro h;rw[h]
theorem run_eq_loop{P:Program}{e:TypeId}{n:Nat}(d:Nat)(he:P.underlying e=some (.int .u8))(l r:List UInt8)(hl:l.length =n)(hr:r.length =n)(w:World):∀(m k:Nat),k+m=n→
    (forIn (List.range' k m) ((none:Option Bool),()) fun i __s=>(do
            let __do_lift←part e (List.map bv l).toArray (i*1)
            let __do_lift_1←part e (List.map bv r).toArray (i*1)
            let __do_lift←Op.equalIn (d+1) e __do_lift __do_lift_1
            if (!__do_lift)=true then pure (ForInStep.done (some false,())) else pure (ForInStep.yield (none,())):Sem (ForInStep (Option Bool×Unit)))).run P w=
      .ok (if l.drop k=r.drop k then (none,()) else (some false,())) w
  | 0, k, hk => by
    rw[List.drop_eq_nil_of_le (by omega),List.drop_eq_nil_of_le (by omega)]
    simp
  | m + 1, k, hk => by
    have hkl:k<l.length :=by omega
    have hkr:k<r.length :=by omega
    have h1:=part_one (P:=P) (cs:=(List.map bv l).toArray) (i:=k*1) (v:=bv l[k]) he rfl (by simp[hkl]) w
    have h2:=part_one (P:=P) (cs:=(List.map bv r).toArray) (i:=k*1) (v:=bv r[k]) he rfl (by simp[hkr]) w
    have h3:(Op.equalIn (d+1) e (bv l[k]) (bv r[k])).run P w= .ok (decide (l[k]=r[k])) w:=by
      rw[←bv_beq]
      simp[Op.equalIn,run_underlying he,bv]
    rw[List.range'_succ,List.forIn_cons]
    simp only[Sem.run_bind,h1,h2,h3,Result.andThen_ok]
    rw[List.drop_eq_getElem_cons hkl,List.drop_eq_getElem_cons hkr]
    by_cases e1:l[k]=r[k]
    · simp only [e1, decide_true, Bool.not_true, Bool.false_eq_true, if_false, Sem.run_pure, Result.andThen_ok, List.cons.injEq, true_and]
      exact run_eq_loop d he l r hl hr w m (k+1) (by omega)
    · have hne : ¬ (l[k] :: l.drop (k + 1) = r[k] :: r.drop (k + 1)) := fun h => e1 (List.cons.inj h).1
      rw[if_neg hne]
      simp only[e1,decide_false,Bool.not_false,if_true,Sem.run_pure,Result.andThen_ok]
theorem run_eq_bytes{P:Program}{t e:TypeId}{n:Nat}{i:TypeInfo}(d:Nat)(ht:P.underlying t=some (.array n e))(he:P.underlying e=some (.int .u8))(hi:P.info? e=some i)(hs:i.size =1)(l r:List UInt8)(hl:l.length =n)(hr:r.length =n)(w:World):
    (Op.equalIn (d+2) t (.agg (l.map bv).toArray) (.agg (r.map bv).toArray)).run P w= .ok (decide (l=r)) w:=by
  have hloop:=run_eq_loop (P:=P) d he l r hl hr w n 0 (by omega)
  have hsz:[:n].size =n:=by simp[Std.Legacy.Range.size]
  unfold Op.equalIn
  simp only[Sem.run_bind,run_underlying ht,Result.andThen_ok,sizeOf,typeInfo,program,Sem.run,hi,hs,Sem.run_pure,Std.Legacy.Range.forIn_eq_forIn_range',hsz]
  rw[hloop]
  simp only[List.drop_zero,Result.andThen_ok]
  by_cases e1:l=r<;>simp[e1]
def eqF (P : Program) (e : Operand → Value) (o : Oper) : Option (Bool × Array Value × Array Value × Nat) :=
  match o.op with
  | .binOp op t x y _ => match e x, e y with
    | .agg a, .agg b => match P.underlying t, P.eqGuardType P.depth t with
      | some (.array n el), false => match P.underlying el, P.info? el with
        | some (.int .u8), some i => match Nat.beq i.size 1 with
          | true => match op with
            | .eql =>some (true,a,b,n)
            | .neq =>some (false,a,b,n)
            |_=>none
          |false=>none
        |_,_=>none
      |_,_=>none
    |_,_=>none
  |_=>none
def eqOp(P:Program)(ops:Array Oper)(base:Nat→Value)(vals:Vals)(i:Nat):=(opE ops base vals i).bind (eqF P (env ops base vals i))
theorem Calm.eqH{P:Program}{ops:Array Oper}{base:Nat→Value}{vals:Vals}{i:Nat}{q:Bool}{n:Nat}{l r:List UInt8}(hx:eqOp P ops base vals i=some (q,(l.map bv).toArray,(r.map bv).toArray,n))(hl:l.length =n)(hr:r.length =n)(h:Heap):
    Calm P ops base vals i h (.bool (decide (l=r)==q)):=by
  refine does_split hx fun o ho w hw=> ?_
  have hrun:(execOp (env ops base vals i) o).run P w= .ok (.value (.bool (decide (l=r)==q))) w:=by
    unfold eqF at ho
    cases hop:o.op with
    | binOp op t x y T' =>
      simp only[hop] at ho
      cases ha:env ops base vals i x<;>simp only[ha] at ho<;>first| (cases ho;done)|skip
      cases hb:env ops base vals i y<;>simp only[hb] at ho<;>first| (cases ho;done)|skip
      cases hu:P.underlying t with
      |none=>simp[hu] at ho
      | some dd =>
        cases hg:P.eqGuardType P.depth t with
        |true=>cases dd<;>simp[hu,hg] at ho
        | false =>
          cases dd<;>simp only[hu,hg] at ho<;>first| (cases ho;done)|skip
          rename_i n' el
          cases hel:P.underlying el with
          |none=>simp[hel] at ho
          | some de =>
            cases de<;>simp only[hel] at ho<;>first| (cases ho;done)|skip
            rename_i k
            cases hi:P.info? el with
            |none=>cases k<;>simp[hi] at ho
            | some inf =>
              cases k<;>simp only[hi] at ho<;>first| (cases ho;done)|skip
              cases hs:Nat.beq inf.size 1 with
              |false=>simp[hs] at ho
              | true =>
                have hs':=Nat.eq_of_beq_eq_true hs
                simp only[hs] at ho
                cases op<;>simp only[Option.some.injEq,Prod.mk.injEq] at ho<;>first| (cases ho;done)|skip
                · obtain ⟨rfl, h1, h2, rfl⟩ := ho
                  subst h1;subst h2
                  have hq:=run_eq_bytes (P:=P) 9998 hu hel hi hs' l r hl hr w
                  unfold execOp
                  simp[hop,eqGuard,binOp,ha,hb,hg,Op.equal,Op.maxDepth,hq,program,Sem.run]
                · obtain ⟨rfl, h1, h2, rfl⟩ := ho
                  subst h1;subst h2
                  have hq:=run_eq_bytes (P:=P) 9998 hu hel hi hs' l r hl hr w
                  unfold execOp
                  simp[hop,eqGuard,binOp,ha,hb,hg,Op.equal,Op.maxDepth,hq,program,Sem.run]
    |_=>simp[hop] at ho
  rw[hrun]
  exact⟨Same.refl w,rfl,hw⟩
end Go.Lane
namespace Go.Sha
open Go Go.Lane
theorem StA.gr{F:Nat→Prop}{h h':Heap}{b:Nat}{o:Option Nat}{st:S8}{r:List UInt8}{n:Nat}(s:StA h b o st r n)(g:Gr F h h')(hb:¬F b)(ho:∀k,o=some k→¬F k):StA h' b o st r n:=by
  obtain⟨ad,cap,e,hne,hm,hown⟩:=s
  refine⟨ad,cap,e,hne,g.blk hm hb,hown.1,hown.2.imp id ?_⟩
  rintro⟨q,off,cap',l,e1,hg,r⟩
  refine⟨q,off,cap',l,e1,g.blk hg (ho q ?_),r⟩
  simp only[Value.slice.injEq] at e1
  rw[e,e1.1];rfl
theorem Ext.gr{h h':Heap}(g:Ext h h')(F:Nat→Prop):Gr F h h':=⟨g.size,fun k hk _=>g.get k hk (by simp)⟩
theorem StA.ext{h h':Heap}{b:Nat}{o:Option Nat}{st:S8}{r:List UInt8}{n:Nat}(s:StA h b o st r n)(g:Ext h h'):StA h' b o st r n:=
  s.gr (Ext.gr g (fun _=>False)) (fun h=>h) (fun _ _ h=>h)
theorem Grew.gr{o:Option Nat}{h h':Heap}(g:Grew o h h'):Gr (fun k=>some k=o) h h':=⟨g.size,fun k hk hne=>g.get k hk hne⟩
theorem StA.lt{h:Heap}{b:Nat}{o:Option Nat}{st:S8}{r:List UInt8}{n:Nat}(s:StA h b o st r n):b<h.size ∧∀k,o=some k→k<h.size :=by
  obtain⟨ad,cap,e,hne,hm,hown⟩:=s
  exact⟨blk_lt hm,fun k hk=>hown.lt (by rw[blkOf_slice, ←e];exact hk)⟩
theorem Row.bnil(h:Heap):Row h (.slice none ([]:List UInt8).length 0) ([]:List UInt8).length 1 (([]:List UInt8).map bv):=Row.nil h 1
end Go.Sha
end
section
namespace Go.Proofs.YtegkejcglfgpmaaGreatDoor
open Go Go.Lane Go.Sha
theorem mixed:Tryz.prog.follows .mixedOrders =true:=by kernel_rfl
noncomputable def b119:Code:=Tryz.f119.body.getD .skip
theorem rotl_7(h:Heap)(x:W):Sat Tryz.prog 119 #[wv x,.int .i64 (-7)] h fun v h'=>v=wv (rr x 7)∧h'=h:=by
 refine sat_in Tryz.func119 17 fun a hF=> ?_
 refine qP [] hF fun a hF=> ?_
 refine qP [(5,.int .u64 25)] hF fun a hF=> ?_
 refine qS hF ?_
 refine xL 2 x 25 ?_
 refine xR 6 x 7 ?_
 refine xO 7 (x<<<25) (x>>>7) ?_
 refine sT [(4,wv ((x<<<25)|||(x>>>7)))] fun a hF=> ?_
 refine cR ?_
 refine rT 4 (wv ((x<<<25)|||(x>>>7))) hF ?_
 exact⟨congrArg wv (BitVec.or_comm _ _),rfl⟩
theorem rotl_18(h:Heap)(x:W):Sat Tryz.prog 119 #[wv x,.int .i64 (-18)] h fun v h'=>v=wv (rr x 18)∧h'=h:=by
 refine sat_in Tryz.func119 17 fun a hF=> ?_
 refine qP [] hF fun a hF=> ?_
 refine qP [(5,.int .u64 14)] hF fun a hF=> ?_
 refine qS hF ?_
 refine xL 2 x 14 ?_
 refine xR 6 x 18 ?_
 refine xO 7 (x<<<14) (x>>>18) ?_
 refine sT [(4,wv ((x<<<14)|||(x>>>18)))] fun a hF=> ?_
 refine cR ?_
 refine rT 4 (wv ((x<<<14)|||(x>>>18))) hF ?_
 exact⟨congrArg wv (BitVec.or_comm _ _),rfl⟩
theorem rotl_17(h:Heap)(x:W):Sat Tryz.prog 119 #[wv x,.int .i64 (-17)] h fun v h'=>v=wv (rr x 17)∧h'=h:=by
 refine sat_in Tryz.func119 17 fun a hF=> ?_
 refine qP [] hF fun a hF=> ?_
 refine qP [(5,.int .u64 15)] hF fun a hF=> ?_
 refine qS hF ?_
 refine xL 2 x 15 ?_
 refine xR 6 x 17 ?_
 refine xO 7 (x<<<15) (x>>>17) ?_
 refine sT [(4,wv ((x<<<15)|||(x>>>17)))] fun a hF=> ?_
 refine cR ?_
 refine rT 4 (wv ((x<<<15)|||(x>>>17))) hF ?_
 exact⟨congrArg wv (BitVec.or_comm _ _),rfl⟩
theorem rotl_19(h:Heap)(x:W):Sat Tryz.prog 119 #[wv x,.int .i64 (-19)] h fun v h'=>v=wv (rr x 19)∧h'=h:=by
 refine sat_in Tryz.func119 17 fun a hF=> ?_
 refine qP [] hF fun a hF=> ?_
 refine qP [(5,.int .u64 13)] hF fun a hF=> ?_
 refine qS hF ?_
 refine xL 2 x 13 ?_
 refine xR 6 x 19 ?_
 refine xO 7 (x<<<13) (x>>>19) ?_
 refine sT [(4,wv ((x<<<13)|||(x>>>19)))] fun a hF=> ?_
 refine cR ?_
 refine rT 4 (wv ((x<<<13)|||(x>>>19))) hF ?_
 exact⟨congrArg wv (BitVec.or_comm _ _),rfl⟩
theorem rotl_6(h:Heap)(x:W):Sat Tryz.prog 119 #[wv x,.int .i64 (-6)] h fun v h'=>v=wv (rr x 6)∧h'=h:=by
 refine sat_in Tryz.func119 17 fun a hF=> ?_
 refine qP [] hF fun a hF=> ?_
 refine qP [(5,.int .u64 26)] hF fun a hF=> ?_
 refine qS hF ?_
 refine xL 2 x 26 ?_
 refine xR 6 x 6 ?_
 refine xO 7 (x<<<26) (x>>>6) ?_
 refine sT [(4,wv ((x<<<26)|||(x>>>6)))] fun a hF=> ?_
 refine cR ?_
 refine rT 4 (wv ((x<<<26)|||(x>>>6))) hF ?_
 exact⟨congrArg wv (BitVec.or_comm _ _),rfl⟩
theorem rotl_11(h:Heap)(x:W):Sat Tryz.prog 119 #[wv x,.int .i64 (-11)] h fun v h'=>v=wv (rr x 11)∧h'=h:=by
 refine sat_in Tryz.func119 17 fun a hF=> ?_
 refine qP [] hF fun a hF=> ?_
 refine qP [(5,.int .u64 21)] hF fun a hF=> ?_
 refine qS hF ?_
 refine xL 2 x 21 ?_
 refine xR 6 x 11 ?_
 refine xO 7 (x<<<21) (x>>>11) ?_
 refine sT [(4,wv ((x<<<21)|||(x>>>11)))] fun a hF=> ?_
 refine cR ?_
 refine rT 4 (wv ((x<<<21)|||(x>>>11))) hF ?_
 exact⟨congrArg wv (BitVec.or_comm _ _),rfl⟩
theorem rotl_25(h:Heap)(x:W):Sat Tryz.prog 119 #[wv x,.int .i64 (-25)] h fun v h'=>v=wv (rr x 25)∧h'=h:=by
 refine sat_in Tryz.func119 17 fun a hF=> ?_
 refine qP [] hF fun a hF=> ?_
 refine qP [(5,.int .u64 7)] hF fun a hF=> ?_
 refine qS hF ?_
 refine xL 2 x 7 ?_
 refine xR 6 x 25 ?_
 refine xO 7 (x<<<7) (x>>>25) ?_
 refine sT [(4,wv ((x<<<7)|||(x>>>25)))] fun a hF=> ?_
 refine cR ?_
 refine rT 4 (wv ((x<<<7)|||(x>>>25))) hF ?_
 exact⟨congrArg wv (BitVec.or_comm _ _),rfl⟩
theorem rotl_2(h:Heap)(x:W):Sat Tryz.prog 119 #[wv x,.int .i64 (-2)] h fun v h'=>v=wv (rr x 2)∧h'=h:=by
 refine sat_in Tryz.func119 17 fun a hF=> ?_
 refine qP [] hF fun a hF=> ?_
 refine qP [(5,.int .u64 30)] hF fun a hF=> ?_
 refine qS hF ?_
 refine xL 2 x 30 ?_
 refine xR 6 x 2 ?_
 refine xO 7 (x<<<30) (x>>>2) ?_
 refine sT [(4,wv ((x<<<30)|||(x>>>2)))] fun a hF=> ?_
 refine cR ?_
 refine rT 4 (wv ((x<<<30)|||(x>>>2))) hF ?_
 exact⟨congrArg wv (BitVec.or_comm _ _),rfl⟩
theorem rotl_13(h:Heap)(x:W):Sat Tryz.prog 119 #[wv x,.int .i64 (-13)] h fun v h'=>v=wv (rr x 13)∧h'=h:=by
 refine sat_in Tryz.func119 17 fun a hF=> ?_
 refine qP [] hF fun a hF=> ?_
 refine qP [(5,.int .u64 19)] hF fun a hF=> ?_
 refine qS hF ?_
 refine xL 2 x 19 ?_
 refine xR 6 x 13 ?_
 refine xO 7 (x<<<19) (x>>>13) ?_
 refine sT [(4,wv ((x<<<19)|||(x>>>13)))] fun a hF=> ?_
 refine cR ?_
 refine rT 4 (wv ((x<<<19)|||(x>>>13))) hF ?_
 exact⟨congrArg wv (BitVec.or_comm _ _),rfl⟩
theorem rotl_22(h:Heap)(x:W):Sat Tryz.prog 119 #[wv x,.int .i64 (-22)] h fun v h'=>v=wv (rr x 22)∧h'=h:=by
 refine sat_in Tryz.func119 17 fun a hF=> ?_
 refine qP [] hF fun a hF=> ?_
 refine qP [(5,.int .u64 10)] hF fun a hF=> ?_
 refine qS hF ?_
 refine xL 2 x 10 ?_
 refine xR 6 x 22 ?_
 refine xO 7 (x<<<10) (x>>>22) ?_
 refine sT [(4,wv ((x<<<10)|||(x>>>22)))] fun a hF=> ?_
 refine cR ?_
 refine rT 4 (wv ((x<<<10)|||(x>>>22))) hF ?_
 exact⟨congrArg wv (BitVec.or_comm _ _),rfl⟩
noncomputable def b92:Code:=Tryz.f92.body.getD .skip
theorem piece_sat(h:Heap)(s:S8)(pa:Addr)(pc:Nat)(p:List UInt8)(hp:∀j,j<64→hcell h (pa.add j)=some (bv (p.getD j 0)))(hK:Ktab h):Sat Tryz.prog 92 #[.agg #[wv s.a,wv s.b,wv s.c,wv s.d,wv s.e,wv s.f,wv s.g,wv s.h],.slice (some pa) 64 pc] h fun v h'=>v= .agg (sv (piece s p)).toArray ∧Ext h h':=by
 have e0:=Ext.refl h
 refine sat_in Tryz.func92 211 fun a hF=> ?_
 refine qS hF ?_
 refine tN 0 (pV h.size) #[wv s.a,wv s.b,wv s.c,wv s.d,wv s.e,wv s.f,wv s.g,wv s.h] 145 fun h1 g2 m3=> ?_
 have lt4:=blk_lt m3
 have zs5:=e0.size
 replace e0:=e0.ext g2
 refine tN 1 (pV h1.size) #[.int .u32 0,.int .u32 0,.int .u32 0,.int .u32 0,.int .u32 0,.int .u32 0,.int .u32 0,.int .u32 0] 145 fun h6 g7 m8=> ?_
 have lt9:=blk_lt m8
 have zs10:=e0.size
 replace e0:=e0.ext g7
 replace m3:=m3.x g7
 refine sT [(2,pV h.size),(4,pV h1.size)] fun a hF=> ?_
 refine qS hF ?_
 refine tN 0 (pV h6.size) #[.int .u32 0,.int .u32 0,.int .u32 0,.int .u32 0,.int .u32 0,.int .u32 0,.int .u32 0,.int .u32 0,.int .u32 0,.int .u32 0,.int .u32 0,.int .u32 0,.int .u32 0,.int .u32 0,.int .u32 0,.int .u32 0,.int .u32 0,.int .u32 0,.int .u32 0,.int .u32 0,.int .u32 0,.int .u32 0,.int .u32 0,.int .u32 0,.int .u32 0,.int .u32 0,.int .u32 0,.int .u32 0,.int .u32 0,.int .u32 0,.int .u32 0,.int .u32 0,.int .u32 0,.int .u32 0,.int .u32 0,.int .u32 0,.int .u32 0,.int .u32 0,.int .u32 0,.int .u32 0,.int .u32 0,.int .u32 0,.int .u32 0,.int .u32 0,.int .u32 0,.int .u32 0,.int .u32 0,.int .u32 0,.int .u32 0,.int .u32 0,.int .u32 0,.int .u32 0,.int .u32 0,.int .u32 0,.int .u32 0,.int .u32 0,.int .u32 0,.int .u32 0,.int .u32 0,.int .u32 0,.int .u32 0,.int .u32 0,.int .u32 0,.int .u32 0] 173 fun h11 g12 m13=> ?_
 have lt14:=blk_lt m13
 have zs15:=e0.size
 replace e0:=e0.ext g12
 replace m3:=m3.x g12
 replace m8:=m8.x g12
 refine sT [(5,pV h6.size)] fun a hF=> ?_
 refine cS ?_
 refine qP [(27,.int .i64 0)] hF fun a hF=> ?_
 refine cB 0 ?_
 refine cL (fun m a h'=>∃k:Nat,m=16 - k∧(Ext h h')∧(h'[h.size]? =some (.cells #[wv s.a,wv s.b,wv s.c,wv s.d,wv s.e,wv s.f,wv s.g,wv s.h] 145))∧(h'[h1.size]? =some (.cells #[.int .u32 0,.int .u32 0,.int .u32 0,.int .u32 0,.int .u32 0,.int .u32 0,.int .u32 0,.int .u32 0] 145))∧(k≤16)∧(h'[h6.size]? =some (.cells (wl (first p k)).toArray 173))∧(Fr a 211 [(1,.slice (some pa) 64 pc),(2,.pointer (some ⟨h.size,0,none⟩)),(4,.pointer (some ⟨h1.size,0,none⟩)),(5,.pointer (some ⟨h6.size,0,none⟩)),(27,.int .i64 ((k:Nat):Int))])) (16 - 0) ⟨0,rfl,e0,m3,m8,(by omega),m13,hF.to⟩ ?_
 clear hF a
 clear e0
 clear m3
 clear m8
 clear m13
 rintro m a h16 ⟨k,rfl,e0,m3,m8,hk,m13,hF⟩
 refine qP [(28,.bool (decide (((k:Nat):Int)<(16:Int))))] hF fun a hF=> ?_
 refine cS ?_
 refine cJ 28 hF (fun hc17=> ?_) fun hc17=> ?_
 ·skip
  refine cN ?_
  refine tK ?_
  refine cS ?_
  refine cB 1 ?_
  refine qP [(6,nV k)] hF fun a hF=> ?_
  refine cD [0,0,0,4,14,30,62,126,0,0,512,1536,3840,7936,16128,32512,65534,0,0,262144,786432,1966080,4063232,8257536,16646144,33554430,0,0,134217728,402653184,1006632960,2080374784,4227858432,8589934590,17179869183,34359738367] 5 mixed hF ?_
  refine mP 7 [0,1,2] [nV k,.slice (some pa) 64 pc,nV k] ?_
  refine m1 15 3 (.int .i64 ((4*k:Nat):Int)) (.int .i64 (IntKind.i64.wrap (4*((k:Nat):Int)))) (congrArg (Value.int .i64) (w64' (by omega) (by omega) (by omega))) ?_
  refine mI 31 4 pa 64 1 (4*k) (4*k) ?_
  refine mL 63 32 5 (bv (p.getD (4*k) 0)) (Calm.load (T:=5) (p:=(Addr.add pa (4*k))) (by kernel_rfl) (Loads.one (k:=1) (by kernel_rfl) (e0.cell (hp (4*k) (by omega))))) ?_
  refine yC 127 6 (p.getD (4*k) 0) ?_
  refine yL 255 7 (w8 (p.getD (4*k) 0)) 24 ?_
  refine mP 1023 [8,9] [.slice (some pa) 64 pc,nV k] ?_
  refine m1 2047 10 (.int .i64 ((4*k:Nat):Int)) (.int .i64 (IntKind.i64.wrap (4*((k:Nat):Int)))) (congrArg (Value.int .i64) (w64' (by omega) (by omega) (by omega))) ?_
  refine mA 4095 11 (4*k) 1 ?_
  refine mI 8191 12 pa 64 1 ((4*k)+1) ((4*k)+1) ?_
  refine mL 16383 8224 13 (bv (p.getD ((4*k)+1) 0)) (Calm.load (T:=5) (p:=(Addr.add pa ((4*k)+1))) (by kernel_rfl) (Loads.one (k:=1) (by kernel_rfl) (e0.cell (hp ((4*k)+1) (by omega))))) ?_
  refine yC 32767 14 (p.getD ((4*k)+1) 0) ?_
  refine yL 65535 15 (w8 (p.getD ((4*k)+1) 0)) 16 ?_
  refine yO 131071 16 ((w8 (p.getD (4*k) 0))<<<24) ((w8 (p.getD ((4*k)+1) 0))<<<16) ?_
  refine mP 524287 [17,18] [.slice (some pa) 64 pc,nV k] ?_
  refine m1 1048575 19 (.int .i64 ((4*k:Nat):Int)) (.int .i64 (IntKind.i64.wrap (4*((k:Nat):Int)))) (congrArg (Value.int .i64) (w64' (by omega) (by omega) (by omega))) ?_
  refine mA 2097151 20 (4*k) 2 ?_
  refine mI 4194303 21 pa 64 1 ((4*k)+2) ((4*k)+2) ?_
  refine mL 8388607 4202528 22 (bv (p.getD ((4*k)+2) 0)) (Calm.load (T:=5) (p:=(Addr.add pa ((4*k)+2))) (by kernel_rfl) (Loads.one (k:=1) (by kernel_rfl) (e0.cell (hp ((4*k)+2) (by omega))))) ?_
  refine yC 16777215 23 (p.getD ((4*k)+2) 0) ?_
  refine yL 33554431 24 (w8 (p.getD ((4*k)+2) 0)) 8 ?_
  refine yO 67108863 25 (((w8 (p.getD (4*k) 0))<<<24)|||((w8 (p.getD ((4*k)+1) 0))<<<16)) ((w8 (p.getD ((4*k)+2) 0))<<<8) ?_
  refine mP 268435455 [26,27] [.slice (some pa) 64 pc,nV k] ?_
  refine m1 536870911 28 (.int .i64 ((4*k:Nat):Int)) (.int .i64 (IntKind.i64.wrap (4*((k:Nat):Int)))) (congrArg (Value.int .i64) (w64' (by omega) (by omega) (by omega))) ?_
  refine mA 1073741823 29 (4*k) 3 ?_
  refine mI 2147483647 30 pa 64 1 ((4*k)+3) ((4*k)+3) ?_
  refine mL 4294967295 2151686176 31 (bv (p.getD ((4*k)+3) 0)) (Calm.load (T:=5) (p:=(Addr.add pa ((4*k)+3))) (by kernel_rfl) (Loads.one (k:=1) (by kernel_rfl) (e0.cell (hp ((4*k)+3) (by omega))))) ?_
  refine yC 8589934591 32 (p.getD ((4*k)+3) 0) ?_
  refine yO 17179869183 33 ((((w8 (p.getD (4*k) 0))<<<24)|||((w8 (p.getD ((4*k)+1) 0))<<<16))|||((w8 (p.getD ((4*k)+2) 0))<<<8)) (w8 (p.getD ((4*k)+3) 0)) ?_
  refine mJ 34359738367 34 h6.size 0 64 1 k k ?_
  refine mV 68719476735 68719476735 35 k [wv (((((w8 (p.getD (4*k) 0))<<<24)|||((w8 (p.getD ((4*k)+1) 0))<<<16))|||((w8 (p.getD ((4*k)+2) 0))<<<8))|||(w8 (p.getD ((4*k)+3) 0)))] (wl (first p k++[(((((w8 (p.getD (4*k) 0))<<<24)|||((w8 (p.getD ((4*k)+1) 0))<<<16))|||((w8 (p.getD ((4*k)+2) 0))<<<8))|||(w8 (p.getD ((4*k)+3) 0)))])) m13 (fun h18 g19 zq=> ?_) (hfit:=(wl_fit (first_length p k) (by omega))) (h1:=(ones_wv _)) (e:=(wl_put' (first_length p k) (by omega)))
  replace e0:=e0.v g19
  replace m3:=m3.y g19
  replace m8:=m8.y g19
  replace m13:=zq
  refine mE [] fun a hF=> ?_
  refine bK ?_
  refine tK ?_
  refine rS hF ?_
  refine tA 0 k 1 ?_
  refine sE [(27,nV (k+1))] fun a hF=> ?_
  show ∃m',m'<_∧_
  refine⟨_,?_,k+1,rfl,e0,m3,m8,(by omega),m13,hF.to⟩
  omega
 ·skip
  refine cX 0 (xT (xT (xB ?_)))
  refine tK ?_
  refine cS ?_
  refine qP [(7,.int .i64 16)] hF fun a hF=> ?_
  refine cB 2 ?_
  refine cL (fun m a h'=>∃k:Nat,m=48 - k∧(Ext h h')∧(h'[h.size]? =some (.cells #[wv s.a,wv s.b,wv s.c,wv s.d,wv s.e,wv s.f,wv s.g,wv s.h] 145))∧(h'[h1.size]? =some (.cells #[.int .u32 0,.int .u32 0,.int .u32 0,.int .u32 0,.int .u32 0,.int .u32 0,.int .u32 0,.int .u32 0] 145))∧(k≤48)∧(h'[h6.size]? =some (.cells (wl (sched p k)).toArray 173))∧(Fr a 211 [(2,.pointer (some ⟨h.size,0,none⟩)),(4,.pointer (some ⟨h1.size,0,none⟩)),(5,.pointer (some ⟨h6.size,0,none⟩)),(7,.int .i64 ((16+k:Nat):Int))])) (48 - 0) ⟨0,rfl,e0,m3,m8,(by omega),(by have e:k=16:=(by omega);subst e;exact m13),hF.to⟩ ?_
  clear hF a
  clear e0
  clear m3
  clear m8
  rintro m a h20 ⟨k,rfl,e0,m3,m8,hk,m13,hF⟩
  refine cS ?_
  refine qP [(67,.bool (decide (((16+k:Nat):Int)<(64:Int))))] hF fun a hF=> ?_
  refine cJ 67 hF (fun hc21=> ?_) fun hc21=> ?_
  ·skip
   refine cN ?_
   refine tK ?_
   refine cS ?_
   refine cB 3 ?_
   refine cS ?_
   refine cD [0,1,3,7,0,16,48,112,15,511] 10 mixed hF ?_
   refine mP 1 [0] [nV (16+k)] ?_
   refine mU 3 1 (16+k) 15 ?_
   refine mJ 7 2 h6.size 0 64 1 ((16+k) - 15) ((16+k) - 15) ?_
   refine mL 15 8 3 (wv ((sched p k).getD ((16+k) - 15) 0)) (Calm.load (T:=143) (p:=⟨h6.size,(16+k) - 15,none⟩) (by kernel_rfl) (Loads.one (k:=1) (by kernel_rfl) ((hcell_blk m13).trans (wl_get' (sched_length p k) (by omega))))) ?_
   refine mP 31 [4] [nV (16+k)] ?_
   refine mU 63 5 (16+k) 2 ?_
   refine mJ 127 6 h6.size 0 64 1 ((16+k) - 2) ((16+k) - 2) ?_
   refine mL 255 136 7 (wv ((sched p k).getD ((16+k) - 2) 0)) (Calm.load (T:=143) (p:=⟨h6.size,(16+k) - 2,none⟩) (by kernel_rfl) (Loads.one (k:=1) (by kernel_rfl) ((hcell_blk m13).trans (wl_get' (sched_length p k) (by omega))))) ?_
   refine mP 1023 [8,9] [wv ((sched p k).getD ((16+k) - 15) 0),wv ((sched p k).getD ((16+k) - 2) 0)] ?_
   refine mE [(8,wv ((sched p k).getD ((16+k) - 15) 0)),(9,wv ((sched p k).getD ((16+k) - 2) 0))] fun a hF=> ?_
   refine tK ?_
   refine qS hF ?_
   refine tC 1 (wv (rr ((sched p k).getD ((16+k) - 15) 0) 7)) (Does.call (f:=119) (args:= #[wv ((sched p k).getD ((16+k) - 15) 0),.int .i64 (-7)]) (by kernel_rfl) (rotl_7 _ ((sched p k).getD ((16+k) - 15) 0))) ?_
   refine tC 3 (wv (rr ((sched p k).getD ((16+k) - 15) 0) 18)) (Does.call (f:=119) (args:= #[wv ((sched p k).getD ((16+k) - 15) 0),.int .i64 (-18)]) (by kernel_rfl) (rotl_18 _ ((sched p k).getD ((16+k) - 15) 0))) ?_
   refine xX 4 (rr ((sched p k).getD ((16+k) - 15) 0) 7) (rr ((sched p k).getD ((16+k) - 15) 0) 18) ?_
   refine xR 6 ((sched p k).getD ((16+k) - 15) 0) 3 ?_
   refine xX 7 ((rr ((sched p k).getD ((16+k) - 15) 0) 7)^^^(rr ((sched p k).getD ((16+k) - 15) 0) 18)) (((sched p k).getD ((16+k) - 15) 0)>>>3) ?_
   refine sT [(10,wv (((rr ((sched p k).getD ((16+k) - 15) 0) 7)^^^(rr ((sched p k).getD ((16+k) - 15) 0) 18))^^^(((sched p k).getD ((16+k) - 15) 0)>>>3)))] fun a hF=> ?_
   refine qS hF ?_
   refine tC 1 (wv (rr ((sched p k).getD ((16+k) - 2) 0) 17)) (Does.call (f:=119) (args:= #[wv ((sched p k).getD ((16+k) - 2) 0),.int .i64 (-17)]) (by kernel_rfl) (rotl_17 _ ((sched p k).getD ((16+k) - 2) 0))) ?_
   refine tC 3 (wv (rr ((sched p k).getD ((16+k) - 2) 0) 19)) (Does.call (f:=119) (args:= #[wv ((sched p k).getD ((16+k) - 2) 0),.int .i64 (-19)]) (by kernel_rfl) (rotl_19 _ ((sched p k).getD ((16+k) - 2) 0))) ?_
   refine xX 4 (rr ((sched p k).getD ((16+k) - 2) 0) 17) (rr ((sched p k).getD ((16+k) - 2) 0) 19) ?_
   refine xR 6 ((sched p k).getD ((16+k) - 2) 0) 10 ?_
   refine xX 7 ((rr ((sched p k).getD ((16+k) - 2) 0) 17)^^^(rr ((sched p k).getD ((16+k) - 2) 0) 19)) (((sched p k).getD ((16+k) - 2) 0)>>>10) ?_
   refine sT [(11,wv (((rr ((sched p k).getD ((16+k) - 2) 0) 17)^^^(rr ((sched p k).getD ((16+k) - 2) 0) 19))^^^(((sched p k).getD ((16+k) - 2) 0)>>>10)))] fun a hF=> ?_
   refine cD [0,0,2,6,14,0,62,0,128,384,896,2046,0,8190,16383,32767] 13 mixed hF ?_
   refine mP 3 [0,1] [nV (16+k),nV (16+k)] ?_
   refine mU 7 2 (16+k) 16 ?_
   refine mJ 15 3 h6.size 0 64 1 ((16+k) - 16) ((16+k) - 16) ?_
   refine mL 31 16 4 (wv ((sched p k).getD ((16+k) - 16) 0)) (Calm.load (T:=143) (p:=⟨h6.size,(16+k) - 16,none⟩) (by kernel_rfl) (Loads.one (k:=1) (by kernel_rfl) ((hcell_blk m13).trans (wl_get' (sched_length p k) (by omega))))) ?_
   refine mP 63 [5] [wv (((rr ((sched p k).getD ((16+k) - 15) 0) 7)^^^(rr ((sched p k).getD ((16+k) - 15) 0) 18))^^^(((sched p k).getD ((16+k) - 15) 0)>>>3))] ?_
   refine yA 127 6 ((sched p k).getD ((16+k) - 16) 0) (((rr ((sched p k).getD ((16+k) - 15) 0) 7)^^^(rr ((sched p k).getD ((16+k) - 15) 0) 18))^^^(((sched p k).getD ((16+k) - 15) 0)>>>3)) ?_
   refine mP 255 [7] [nV (16+k)] ?_
   refine mU 511 8 (16+k) 7 ?_
   refine mJ 1023 9 h6.size 0 64 1 ((16+k) - 7) ((16+k) - 7) ?_
   refine mL 2047 1040 10 (wv ((sched p k).getD ((16+k) - 7) 0)) (Calm.load (T:=143) (p:=⟨h6.size,(16+k) - 7,none⟩) (by kernel_rfl) (Loads.one (k:=1) (by kernel_rfl) ((hcell_blk m13).trans (wl_get' (sched_length p k) (by omega))))) ?_
   refine yA 4095 11 (((sched p k).getD ((16+k) - 16) 0)+(((rr ((sched p k).getD ((16+k) - 15) 0) 7)^^^(rr ((sched p k).getD ((16+k) - 15) 0) 18))^^^(((sched p k).getD ((16+k) - 15) 0)>>>3))) ((sched p k).getD ((16+k) - 7) 0) ?_
   refine mP 8191 [12] [wv (((rr ((sched p k).getD ((16+k) - 2) 0) 17)^^^(rr ((sched p k).getD ((16+k) - 2) 0) 19))^^^(((sched p k).getD ((16+k) - 2) 0)>>>10))] ?_
   refine yA 16383 13 ((((sched p k).getD ((16+k) - 16) 0)+(((rr ((sched p k).getD ((16+k) - 15) 0) 7)^^^(rr ((sched p k).getD ((16+k) - 15) 0) 18))^^^(((sched p k).getD ((16+k) - 15) 0)>>>3)))+((sched p k).getD ((16+k) - 7) 0)) (((rr ((sched p k).getD ((16+k) - 2) 0) 17)^^^(rr ((sched p k).getD ((16+k) - 2) 0) 19))^^^(((sched p k).getD ((16+k) - 2) 0)>>>10)) ?_
   refine mJ 32767 14 h6.size 0 64 1 (16+k) (16+k) ?_
   refine mV 65535 65535 15 (16+k) [wv (((((sched p k).getD ((16+k) - 16) 0)+(((rr ((sched p k).getD ((16+k) - 15) 0) 7)^^^(rr ((sched p k).getD ((16+k) - 15) 0) 18))^^^(((sched p k).getD ((16+k) - 15) 0)>>>3)))+((sched p k).getD ((16+k) - 7) 0))+(((rr ((sched p k).getD ((16+k) - 2) 0) 17)^^^(rr ((sched p k).getD ((16+k) - 2) 0) 19))^^^(((sched p k).getD ((16+k) - 2) 0)>>>10)))] (wl (sched p k++[(((((sched p k).getD ((16+k) - 16) 0)+(((rr ((sched p k).getD ((16+k) - 15) 0) 7)^^^(rr ((sched p k).getD ((16+k) - 15) 0) 18))^^^(((sched p k).getD ((16+k) - 15) 0)>>>3)))+((sched p k).getD ((16+k) - 7) 0))+(((rr ((sched p k).getD ((16+k) - 2) 0) 17)^^^(rr ((sched p k).getD ((16+k) - 2) 0) 19))^^^(((sched p k).getD ((16+k) - 2) 0)>>>10)))])) m13 (fun h22 g23 zq=> ?_) (hfit:=(wl_fit (sched_length p k) (by omega))) (h1:=(ones_wv _)) (e:=(wl_put' (sched_length p k) (by omega)))
   replace e0:=e0.v g23
   replace m3:=m3.y g23
   replace m8:=m8.y g23
   replace m13:=zq
   refine mE [] fun a hF=> ?_
   refine bK ?_
   refine tK ?_
   refine rS hF ?_
   refine tA 1 (16+k) 1 ?_
   refine sE [(7,nV ((16+k)+1))] fun a hF=> ?_
   show ∃m',m'<_∧_
   refine⟨_,?_,k+1,rfl,e0,m3,m8,(by omega),(by rw[show sched p (k+1)=_ from sched_step p k];exact m13),hF.to⟩
   omega
  ·skip
   refine cX 2 (xT (xT (xB ?_)))
   refine tK ?_
   refine cS ?_
   refine cD [0,1,0,4,0,16,0,64,0,256,0,1024,0,4096,0,16384,3,65551,196671,459007,984063,2035711,4145151,8388607] 14 mixed hF ?_
   refine mP 1 [0] [pV h.size] ?_
   refine mO 3 2 1 0 (wv s.a) m3 ?_
   refine mP 7 [2] [.pointer (some ⟨h.size,1,none⟩)] ?_
   refine mO 15 10 3 1 (wv s.b) m3 ?_
   refine mP 31 [4] [.pointer (some ⟨h.size,2,none⟩)] ?_
   refine mO 63 42 5 2 (wv s.c) m3 ?_
   refine mP 127 [6] [.pointer (some ⟨h.size,3,none⟩)] ?_
   refine mO 255 170 7 3 (wv s.d) m3 ?_
   refine mP 511 [8] [.pointer (some ⟨h.size,4,none⟩)] ?_
   refine mO 1023 682 9 4 (wv s.e) m3 ?_
   refine mP 2047 [10] [.pointer (some ⟨h.size,5,none⟩)] ?_
   refine mO 4095 2730 11 5 (wv s.f) m3 ?_
   refine mP 8191 [12] [.pointer (some ⟨h.size,6,none⟩)] ?_
   refine mO 16383 10922 13 6 (wv s.g) m3 ?_
   refine mP 32767 [14] [.pointer (some ⟨h.size,7,none⟩)] ?_
   refine mO 65535 43690 15 7 (wv s.h) m3 ?_
   refine mP 16777215 [16,17,18,19,20,21,22,23] [wv s.a,wv s.b,wv s.c,wv s.d,wv s.e,wv s.f,wv s.g,wv s.h] ?_
   refine mE [(12,wv s.a),(13,wv s.b),(14,wv s.c),(15,wv s.d),(16,wv s.e),(17,wv s.f),(18,wv s.g),(19,wv s.h)] fun a hF=> ?_
   refine tK ?_
   refine cS ?_
   refine qP [(125,.int .i64 0)] hF fun a hF=> ?_
   refine cB 4 ?_
   refine cL (fun m a h'=>∃k:Nat,∃R:S8,m=64 - k∧(Ext h h')∧(h'[h.size]? =some (.cells #[wv s.a,wv s.b,wv s.c,wv s.d,wv s.e,wv s.f,wv s.g,wv s.h] 145))∧(h'[h1.size]? =some (.cells #[.int .u32 0,.int .u32 0,.int .u32 0,.int .u32 0,.int .u32 0,.int .u32 0,.int .u32 0,.int .u32 0] 145))∧(k≤64)∧(rounds (sched p 48) s k=R)∧(h'[h6.size]? =some (.cells (wl (sched p 48)).toArray 173))∧(Fr a 211 [(2,.pointer (some ⟨h.size,0,none⟩)),(4,.pointer (some ⟨h1.size,0,none⟩)),(5,.pointer (some ⟨h6.size,0,none⟩)),(12,wv R.a),(13,wv R.b),(14,wv R.c),(15,wv R.d),(16,wv R.e),(17,wv R.f),(18,wv R.g),(19,wv R.h),(125,.int .i64 ((k:Nat):Int))])) (64 - 0) ⟨0,s,rfl,e0,m3,m8,(by omega),rfl,(by have e:k=48:=(by omega);subst e;exact m13),hF.to⟩ ?_
   clear hF a
   clear e0
   clear m3
   clear m8
   rintro m a h24 ⟨k,R,rfl,e0,m3,m8,hk,hR,m13,hF⟩
   refine qP [(126,.bool (decide (((k:Nat):Int)<(64:Int))))] hF fun a hF=> ?_
   refine cS ?_
   refine cJ 126 hF (fun hc25=> ?_) fun hc25=> ?_
   ·skip
    refine cN ?_
    refine tK ?_
    refine cS ?_
    refine cB 5 ?_
    refine qP [(20,nV k)] hF fun a hF=> ?_
    refine qS hF ?_
    refine tC 1 (wv (rr R.e 6)) (Does.call (f:=119) (args:= #[wv R.e,.int .i64 (-6)]) (by kernel_rfl) (rotl_6 _ R.e)) ?_
    refine tC 3 (wv (rr R.e 11)) (Does.call (f:=119) (args:= #[wv R.e,.int .i64 (-11)]) (by kernel_rfl) (rotl_11 _ R.e)) ?_
    refine xX 4 (rr R.e 6) (rr R.e 11) ?_
    refine tC 6 (wv (rr R.e 25)) (Does.call (f:=119) (args:= #[wv R.e,.int .i64 (-25)]) (by kernel_rfl) (rotl_25 _ R.e)) ?_
    refine xX 7 ((rr R.e 6)^^^(rr R.e 11)) (rr R.e 25) ?_
    refine sT [(21,wv (((rr R.e 6)^^^(rr R.e 11))^^^(rr R.e 25)))] fun a hF=> ?_
    refine cS ?_
    refine cD [0,0,3,0,0,24,0,64,0,448,1016,2047,0,4096,12288,32767,0,65536,196608,524287,1048575] 19 mixed hF ?_
    refine mP 3 [0,1] [wv R.h,wv (((rr R.e 6)^^^(rr R.e 11))^^^(rr R.e 25))] ?_
    refine yA 7 2 R.h (((rr R.e 6)^^^(rr R.e 11))^^^(rr R.e 25)) ?_
    refine mP 31 [3,4] [wv R.e,wv R.f] ?_
    refine yN 63 5 R.e R.f ?_
    refine mP 127 [6] [wv R.e] ?_
    refine yM 255 7 R.e ?_
    refine mP 511 [8] [wv R.g] ?_
    refine yN 1023 9 (~~~R.e) R.g ?_
    refine yX 2047 10 (R.e &&&R.f) ((~~~R.e)&&&R.g) ?_
    refine yA 4095 11 (R.h +(((rr R.e 6)^^^(rr R.e 11))^^^(rr R.e 25))) ((R.e &&&R.f)^^^((~~~R.e)&&&R.g)) ?_
    refine mP 8191 [12] [nV k] ?_
    refine mJ 16383 13 0 0 64 1 k k ?_
    refine mL 32767 16384 14 (wv (K64.getD k 0)) (Calm.load (T:=143) (p:=⟨0,k,none⟩) (by kernel_rfl) (Loads.one (k:=1) (by kernel_rfl) (e0.cell (hK k (by omega))))) ?_
    refine yA 65535 15 ((R.h +(((rr R.e 6)^^^(rr R.e 11))^^^(rr R.e 25)))+((R.e &&&R.f)^^^((~~~R.e)&&&R.g))) (K64.getD k 0) ?_
    refine mP 131071 [16] [nV k] ?_
    refine mJ 262143 17 h6.size 0 64 1 k k ?_
    refine mL 524287 278528 18 (wv ((sched p 48).getD k 0)) (Calm.load (T:=143) (p:=⟨h6.size,k,none⟩) (by kernel_rfl) (Loads.one (k:=1) (by kernel_rfl) ((hcell_blk m13).trans (wl_get' (sched_length p 48) (by omega))))) ?_
    refine yA 1048575 19 (((R.h +(((rr R.e 6)^^^(rr R.e 11))^^^(rr R.e 25)))+((R.e &&&R.f)^^^((~~~R.e)&&&R.g)))+(K64.getD k 0)) ((sched p 48).getD k 0) ?_
    refine mP 2097151 [20] [wv ((((R.h +(((rr R.e 6)^^^(rr R.e 11))^^^(rr R.e 25)))+((R.e &&&R.f)^^^((~~~R.e)&&&R.g)))+(K64.getD k 0))+((sched p 48).getD k 0))] ?_
    refine mE [(22,wv ((((R.h +(((rr R.e 6)^^^(rr R.e 11))^^^(rr R.e 25)))+((R.e &&&R.f)^^^((~~~R.e)&&&R.g)))+(K64.getD k 0))+((sched p 48).getD k 0)))] fun a hF=> ?_
    refine tK ?_
    refine qS hF ?_
    refine tC 1 (wv (rr R.a 2)) (Does.call (f:=119) (args:= #[wv R.a,.int .i64 (-2)]) (by kernel_rfl) (rotl_2 _ R.a)) ?_
    refine tC 3 (wv (rr R.a 13)) (Does.call (f:=119) (args:= #[wv R.a,.int .i64 (-13)]) (by kernel_rfl) (rotl_13 _ R.a)) ?_
    refine xX 4 (rr R.a 2) (rr R.a 13) ?_
    refine tC 6 (wv (rr R.a 22)) (Does.call (f:=119) (args:= #[wv R.a,.int .i64 (-22)]) (by kernel_rfl) (rotl_22 _ R.a)) ?_
    refine xX 7 ((rr R.a 2)^^^(rr R.a 13)) (rr R.a 22) ?_
    refine sT [(23,wv (((rr R.a 2)^^^(rr R.a 13))^^^(rr R.a 22)))] fun a hF=> ?_
    refine qS hF ?_
    refine xN 3 R.a R.b ?_
    refine xN 6 R.a R.c ?_
    refine xX 7 (R.a &&&R.b) (R.a &&&R.c) ?_
    refine xN 10 R.b R.c ?_
    refine xX 11 ((R.a &&&R.b)^^^(R.a &&&R.c)) (R.b &&&R.c) ?_
    refine xA 12 (((rr R.a 2)^^^(rr R.a 13))^^^(rr R.a 22)) (((R.a &&&R.b)^^^(R.a &&&R.c))^^^(R.b &&&R.c)) ?_
    refine sT [(24,wv ((((rr R.a 2)^^^(rr R.a 13))^^^(rr R.a 22))+(((R.a &&&R.b)^^^(R.a &&&R.c))^^^(R.b &&&R.c))))] fun a hF=> ?_
    refine rS hF ?_
    refine xA 5 R.d ((((R.h +(((rr R.e 6)^^^(rr R.e 11))^^^(rr R.e 25)))+((R.e &&&R.f)^^^((~~~R.e)&&&R.g)))+(K64.getD k 0))+((sched p 48).getD k 0)) ?_
    refine xA 11 ((((R.h +(((rr R.e 6)^^^(rr R.e 11))^^^(rr R.e 25)))+((R.e &&&R.f)^^^((~~~R.e)&&&R.g)))+(K64.getD k 0))+((sched p 48).getD k 0)) ((((rr R.a 2)^^^(rr R.a 13))^^^(rr R.a 22))+(((R.a &&&R.b)^^^(R.a &&&R.c))^^^(R.b &&&R.c))) ?_
    refine sE [(12,wv (((((R.h +(((rr R.e 6)^^^(rr R.e 11))^^^(rr R.e 25)))+((R.e &&&R.f)^^^((~~~R.e)&&&R.g)))+(K64.getD k 0))+((sched p 48).getD k 0))+((((rr R.a 2)^^^(rr R.a 13))^^^(rr R.a 22))+(((R.a &&&R.b)^^^(R.a &&&R.c))^^^(R.b &&&R.c))))),(13,wv R.a),(14,wv R.b),(15,wv R.c),(16,wv (R.d +((((R.h +(((rr R.e 6)^^^(rr R.e 11))^^^(rr R.e 25)))+((R.e &&&R.f)^^^((~~~R.e)&&&R.g)))+(K64.getD k 0))+((sched p 48).getD k 0)))),(17,wv R.e),(18,wv R.f),(19,wv R.g)] fun a hF=> ?_
    refine bK ?_
    refine tK ?_
    refine rS hF ?_
    refine tA 0 k 1 ?_
    refine sE [(125,nV (k+1))] fun a hF=> ?_
    show ∃m',m'<_∧_
    refine⟨_,?_,k+1,(rnd (K64.getD k 0) ((sched p 48).getD k 0) R),rfl,e0,m3,m8,(by omega),(by rw[←hR];rfl),m13,hF.to⟩
    omega
   ·skip
    refine cX 4 (xT (xT (xB ?_)))
    refine tK ?_
    refine cS ?_
    refine qP [(198,.agg #[wv R.a,wv R.b,wv R.c,wv R.d,wv R.e,wv R.f,wv R.g,wv R.h]),(199,.int .i64 0)] hF fun a hF=> ?_
    refine cB 6 ?_
    refine cU 9 ?_
    refine Cround.step ?_
    refine qP [(200,.bool true)] hF fun a hF=> ?_
    refine cS ?_
    refine cT 200 hF ?_
    refine cN ?_
    refine tK ?_
    refine cS ?_
    refine cB 7 ?_
    refine qP [(25,.int .i64 0),(26,wv R.a)] hF fun a hF=> ?_
    refine rS hF ?_
    refine tO 2 0 m3 ?_
    refine xA 4 s.a R.a ?_
    refine tV 6 0 [wv (s.a +R.a)] [wv (s.a +R.a),wv s.b,wv s.c,wv s.d,wv s.e,wv s.f,wv s.g,wv s.h] m3 fun h26 g27 zq=> ?_
    replace e0:=e0.v g27
    replace m8:=m8.y g27
    replace m13:=m13.y g27
    replace m3:=zq
    refine sE [] fun a hF=> ?_
    refine bK ?_
    refine tK ?_
    refine rP [(199,.int .i64 1)] hF fun a hF=> ?_
    refine tK (Cround.step ?_)
    refine qP [(200,.bool true)] hF fun a hF=> ?_
    refine cS ?_
    refine cT 200 hF ?_
    refine cN ?_
    refine tK ?_
    refine cS ?_
    refine cB 7 ?_
    refine qP [(25,.int .i64 1),(26,wv R.b)] hF fun a hF=> ?_
    refine rS hF ?_
    refine tO 2 1 m3 ?_
    refine xA 4 s.b R.b ?_
    refine tV 6 1 [wv (s.b +R.b)] [wv (s.a +R.a),wv (s.b +R.b),wv s.c,wv s.d,wv s.e,wv s.f,wv s.g,wv s.h] m3 fun h28 g29 zq=> ?_
    replace e0:=e0.v g29
    replace m8:=m8.y g29
    replace m13:=m13.y g29
    replace m3:=zq
    refine sE [] fun a hF=> ?_
    refine bK ?_
    refine tK ?_
    refine rP [(199,.int .i64 2)] hF fun a hF=> ?_
    refine tK (Cround.step ?_)
    refine qP [(200,.bool true)] hF fun a hF=> ?_
    refine cS ?_
    refine cT 200 hF ?_
    refine cN ?_
    refine tK ?_
    refine cS ?_
    refine cB 7 ?_
    refine qP [(25,.int .i64 2),(26,wv R.c)] hF fun a hF=> ?_
    refine rS hF ?_
    refine tO 2 2 m3 ?_
    refine xA 4 s.c R.c ?_
    refine tV 6 2 [wv (s.c +R.c)] [wv (s.a +R.a),wv (s.b +R.b),wv (s.c +R.c),wv s.d,wv s.e,wv s.f,wv s.g,wv s.h] m3 fun h30 g31 zq=> ?_
    replace e0:=e0.v g31
    replace m8:=m8.y g31
    replace m13:=m13.y g31
    replace m3:=zq
    refine sE [] fun a hF=> ?_
    refine bK ?_
    refine tK ?_
    refine rP [(199,.int .i64 3)] hF fun a hF=> ?_
    refine tK (Cround.step ?_)
    refine qP [(200,.bool true)] hF fun a hF=> ?_
    refine cS ?_
    refine cT 200 hF ?_
    refine cN ?_
    refine tK ?_
    refine cS ?_
    refine cB 7 ?_
    refine qP [(25,.int .i64 3),(26,wv R.d)] hF fun a hF=> ?_
    refine rS hF ?_
    refine tO 2 3 m3 ?_
    refine xA 4 s.d R.d ?_
    refine tV 6 3 [wv (s.d +R.d)] [wv (s.a +R.a),wv (s.b +R.b),wv (s.c +R.c),wv (s.d +R.d),wv s.e,wv s.f,wv s.g,wv s.h] m3 fun h32 g33 zq=> ?_
    replace e0:=e0.v g33
    replace m8:=m8.y g33
    replace m13:=m13.y g33
    replace m3:=zq
    refine sE [] fun a hF=> ?_
    refine bK ?_
    refine tK ?_
    refine rP [(199,.int .i64 4)] hF fun a hF=> ?_
    refine tK (Cround.step ?_)
    refine qP [(200,.bool true)] hF fun a hF=> ?_
    refine cS ?_
    refine cT 200 hF ?_
    refine cN ?_
    refine tK ?_
    refine cS ?_
    refine cB 7 ?_
    refine qP [(25,.int .i64 4),(26,wv R.e)] hF fun a hF=> ?_
    refine rS hF ?_
    refine tO 2 4 m3 ?_
    refine xA 4 s.e R.e ?_
    refine tV 6 4 [wv (s.e +R.e)] [wv (s.a +R.a),wv (s.b +R.b),wv (s.c +R.c),wv (s.d +R.d),wv (s.e +R.e),wv s.f,wv s.g,wv s.h] m3 fun h34 g35 zq=> ?_
    replace e0:=e0.v g35
    replace m8:=m8.y g35
    replace m13:=m13.y g35
    replace m3:=zq
    refine sE [] fun a hF=> ?_
    refine bK ?_
    refine tK ?_
    refine rP [(199,.int .i64 5)] hF fun a hF=> ?_
    refine tK (Cround.step ?_)
    refine qP [(200,.bool true)] hF fun a hF=> ?_
    refine cS ?_
    refine cT 200 hF ?_
    refine cN ?_
    refine tK ?_
    refine cS ?_
    refine cB 7 ?_
    refine qP [(25,.int .i64 5),(26,wv R.f)] hF fun a hF=> ?_
    refine rS hF ?_
    refine tO 2 5 m3 ?_
    refine xA 4 s.f R.f ?_
    refine tV 6 5 [wv (s.f +R.f)] [wv (s.a +R.a),wv (s.b +R.b),wv (s.c +R.c),wv (s.d +R.d),wv (s.e +R.e),wv (s.f +R.f),wv s.g,wv s.h] m3 fun h36 g37 zq=> ?_
    replace e0:=e0.v g37
    replace m8:=m8.y g37
    replace m13:=m13.y g37
    replace m3:=zq
    refine sE [] fun a hF=> ?_
    refine bK ?_
    refine tK ?_
    refine rP [(199,.int .i64 6)] hF fun a hF=> ?_
    refine tK (Cround.step ?_)
    refine qP [(200,.bool true)] hF fun a hF=> ?_
    refine cS ?_
    refine cT 200 hF ?_
    refine cN ?_
    refine tK ?_
    refine cS ?_
    refine cB 7 ?_
    refine qP [(25,.int .i64 6),(26,wv R.g)] hF fun a hF=> ?_
    refine rS hF ?_
    refine tO 2 6 m3 ?_
    refine xA 4 s.g R.g ?_
    refine tV 6 6 [wv (s.g +R.g)] [wv (s.a +R.a),wv (s.b +R.b),wv (s.c +R.c),wv (s.d +R.d),wv (s.e +R.e),wv (s.f +R.f),wv (s.g +R.g),wv s.h] m3 fun h38 g39 zq=> ?_
    replace e0:=e0.v g39
    replace m8:=m8.y g39
    replace m13:=m13.y g39
    replace m3:=zq
    refine sE [] fun a hF=> ?_
    refine bK ?_
    refine tK ?_
    refine rP [(199,.int .i64 7)] hF fun a hF=> ?_
    refine tK (Cround.step ?_)
    refine qP [(200,.bool true)] hF fun a hF=> ?_
    refine cS ?_
    refine cT 200 hF ?_
    refine cN ?_
    refine tK ?_
    refine cS ?_
    refine cB 7 ?_
    refine qP [(25,.int .i64 7),(26,wv R.h)] hF fun a hF=> ?_
    refine rS hF ?_
    refine tO 2 7 m3 ?_
    refine xA 4 s.h R.h ?_
    refine tV 6 7 [wv (s.h +R.h)] [wv (s.a +R.a),wv (s.b +R.b),wv (s.c +R.c),wv (s.d +R.d),wv (s.e +R.e),wv (s.f +R.f),wv (s.g +R.g),wv (s.h +R.h)] m3 fun h40 g41 zq=> ?_
    replace e0:=e0.v g41
    replace m8:=m8.y g41
    replace m13:=m13.y g41
    replace m3:=zq
    refine sE [] fun a hF=> ?_
    refine bK ?_
    refine tK ?_
    refine rP [(199,.int .i64 8)] hF fun a hF=> ?_
    refine tK (Cround.step ?_)
    refine qP [(200,.bool false)] hF fun a hF=> ?_
    refine cS ?_
    refine cF 200 hF ?_
    refine cX 6 (xT (xT (xB ?_)))
    refine tK ?_
    refine qS hF ?_
    refine tR 0 m3 ?_
    refine tV0 1 [wv (s.a +R.a),wv (s.b +R.b),wv (s.c +R.c),wv (s.d +R.d),wv (s.e +R.e),wv (s.f +R.f),wv (s.g +R.g),wv (s.h +R.h)] m8 fun h42 g43 zq=> ?_
    replace e0:=e0.v g43
    replace m3:=m3.y g43
    replace m13:=m13.y g43
    replace m8:=zq
    refine sT [] fun a hF=> ?_
    refine cR ?_
    refine rB m8 hF ?_
    have e:k=64:=by omega
    subst e
    subst hR
    exact⟨rfl,e0⟩
end Go.Proofs.YtegkejcglfgpmaaGreatDoor
end
section
namespace Go.Proofs.YtegkejcglfgpmaaGreatDoor
open Go Go.Lane Go.Sha
noncomputable def b93:Code:=Tryz.f93.body.getD .skip
set_option maxHeartbeats 4000000 in
theorem told_sat(h:Heap)(s:S8):Sat Tryz.prog 93 #[.agg #[wv s.a,wv s.b,wv s.c,wv s.d,wv s.e,wv s.f,wv s.g,wv s.h]] h fun v h'=>v=hv (told s)∧Ext h h':=by
 have e0:=Ext.refl h
 refine sat_in Tryz.func93 29 fun a hF=> ?_
 refine qS hF ?_
 refine tN 0 (pV h.size) #[wv s.a,wv s.b,wv s.c,wv s.d,wv s.e,wv s.f,wv s.g,wv s.h] 145 fun h1 g2 m3=> ?_
 have lt4:=blk_lt m3
 have zs5:=e0.size
 replace e0:=e0.ext g2
 refine tN 1 (pV h1.size) (tk s 0).toArray 39 fun h6 g7 m8=> ?_
 have lt9:=blk_lt m8
 have zs10:=e0.size
 replace e0:=e0.ext g7
 replace m3:=m3.x g7
 refine sT [(1,pV h.size),(2,pV h1.size)] fun a hF=> ?_
 refine qS hF ?_
 refine tN 0 (pV h6.size) (tk s 0).toArray 39 fun h11 g12 m13=> ?_
 have lt14:=blk_lt m13
 have zs15:=e0.size
 replace e0:=e0.ext g12
 replace m3:=m3.x g12
 replace m8:=m8.x g12
 refine sT [(3,pV h6.size)] fun a hF=> ?_
 refine cS ?_
 refine qS hF ?_
 refine tR 0 m3 ?_
 refine sT [(7,.agg #[wv s.a,wv s.b,wv s.c,wv s.d,wv s.e,wv s.f,wv s.g,wv s.h]),(8,.int .i64 0)] fun a hF=> ?_
 refine cB 0 ?_
 refine cU 9 ?_
 refine Cround.step ?_
 refine qP [(9,.bool true)] hF fun a hF=> ?_
 refine cS ?_
 refine cT 9 hF ?_
 refine cN ?_
 refine tK ?_
 refine cS ?_
 refine cB 1 ?_
 refine qP [(4,.int .i64 0),(5,wv s.a)] hF fun a hF=> ?_
 refine qP [(12,.int .i64 0)] hF fun a hF=> ?_
 refine cB 2 ?_
 refine cU 5 ?_
 refine Cround.step ?_
 refine qP [(13,.bool true)] hF fun a hF=> ?_
 refine cS ?_
 refine cT 13 hF ?_
 refine cN ?_
 refine tK ?_
 refine cS ?_
 refine cB 3 ?_
 refine qP [(6,.int .i64 0)] hF fun a hF=> ?_
 refine rS hF ?_
 refine xR 8 s.a 24 ?_
 refine xD 9 (s.a >>>24) ?_
 refine tV 11 0 [bv (b32 (s.a >>>24))] (tk s 1) m13 fun h16 g17 zq=> ?_
 replace e0:=e0.v g17
 replace m3:=m3.y g17
 replace m8:=m8.y g17
 replace m13:=zq
 refine sE [] fun a hF=> ?_
 refine bK ?_
 refine tK ?_
 refine rP [(12,.int .i64 1)] hF fun a hF=> ?_
 refine tK (Cround.step ?_)
 refine qP [(13,.bool true)] hF fun a hF=> ?_
 refine cS ?_
 refine cT 13 hF ?_
 refine cN ?_
 refine tK ?_
 refine cS ?_
 refine cB 3 ?_
 refine qP [(6,.int .i64 1)] hF fun a hF=> ?_
 refine rS hF ?_
 refine xR 8 s.a 16 ?_
 refine xD 9 (s.a >>>16) ?_
 refine tV 11 1 [bv (b32 (s.a >>>16))] (tk s 2) m13 fun h18 g19 zq=> ?_
 replace e0:=e0.v g19
 replace m3:=m3.y g19
 replace m8:=m8.y g19
 replace m13:=zq
 refine sE [] fun a hF=> ?_
 refine bK ?_
 refine tK ?_
 refine rP [(12,.int .i64 2)] hF fun a hF=> ?_
 refine tK (Cround.step ?_)
 refine qP [(13,.bool true)] hF fun a hF=> ?_
 refine cS ?_
 refine cT 13 hF ?_
 refine cN ?_
 refine tK ?_
 refine cS ?_
 refine cB 3 ?_
 refine qP [(6,.int .i64 2)] hF fun a hF=> ?_
 refine rS hF ?_
 refine xR 8 s.a 8 ?_
 refine xD 9 (s.a >>>8) ?_
 refine tV 11 2 [bv (b32 (s.a >>>8))] (tk s 3) m13 fun h20 g21 zq=> ?_
 replace e0:=e0.v g21
 replace m3:=m3.y g21
 replace m8:=m8.y g21
 replace m13:=zq
 refine sE [] fun a hF=> ?_
 refine bK ?_
 refine tK ?_
 refine rP [(12,.int .i64 3)] hF fun a hF=> ?_
 refine tK (Cround.step ?_)
 refine qP [(13,.bool true)] hF fun a hF=> ?_
 refine cS ?_
 refine cT 13 hF ?_
 refine cN ?_
 refine tK ?_
 refine cS ?_
 refine cB 3 ?_
 refine qP [(6,.int .i64 3)] hF fun a hF=> ?_
 refine rS hF ?_
 refine xR 8 s.a 0 ?_
 refine xD 9 (s.a >>>0) ?_
 refine tV 11 3 [bv (b32 (s.a >>>0))] (tk s 4) m13 fun h22 g23 zq=> ?_
 replace e0:=e0.v g23
 replace m3:=m3.y g23
 replace m8:=m8.y g23
 replace m13:=zq
 refine sE [] fun a hF=> ?_
 refine bK ?_
 refine tK ?_
 refine rP [(12,.int .i64 4)] hF fun a hF=> ?_
 refine tK (Cround.step ?_)
 refine qP [(13,.bool false)] hF fun a hF=> ?_
 refine cS ?_
 refine cF 13 hF ?_
 refine cX 2 (xT (xT (xB ?_)))
 refine bK ?_
 refine tK ?_
 refine rP [(8,.int .i64 1)] hF fun a hF=> ?_
 refine tK (Cround.step ?_)
 refine qP [(9,.bool true)] hF fun a hF=> ?_
 refine cS ?_
 refine cT 9 hF ?_
 refine cN ?_
 refine tK ?_
 refine cS ?_
 refine cB 1 ?_
 refine qP [(4,.int .i64 1),(5,wv s.b)] hF fun a hF=> ?_
 refine qP [(12,.int .i64 0)] hF fun a hF=> ?_
 refine cB 2 ?_
 refine cU 5 ?_
 refine Cround.step ?_
 refine qP [(13,.bool true)] hF fun a hF=> ?_
 refine cS ?_
 refine cT 13 hF ?_
 refine cN ?_
 refine tK ?_
 refine cS ?_
 refine cB 3 ?_
 refine qP [(6,.int .i64 0)] hF fun a hF=> ?_
 refine rS hF ?_
 refine xR 8 s.b 24 ?_
 refine xD 9 (s.b >>>24) ?_
 refine tV 11 4 [bv (b32 (s.b >>>24))] (tk s 5) m13 fun h24 g25 zq=> ?_
 replace e0:=e0.v g25
 replace m3:=m3.y g25
 replace m8:=m8.y g25
 replace m13:=zq
 refine sE [] fun a hF=> ?_
 refine bK ?_
 refine tK ?_
 refine rP [(12,.int .i64 1)] hF fun a hF=> ?_
 refine tK (Cround.step ?_)
 refine qP [(13,.bool true)] hF fun a hF=> ?_
 refine cS ?_
 refine cT 13 hF ?_
 refine cN ?_
 refine tK ?_
 refine cS ?_
 refine cB 3 ?_
 refine qP [(6,.int .i64 1)] hF fun a hF=> ?_
 refine rS hF ?_
 refine xR 8 s.b 16 ?_
 refine xD 9 (s.b >>>16) ?_
 refine tV 11 5 [bv (b32 (s.b >>>16))] (tk s 6) m13 fun h26 g27 zq=> ?_
 replace e0:=e0.v g27
 replace m3:=m3.y g27
 replace m8:=m8.y g27
 replace m13:=zq
 refine sE [] fun a hF=> ?_
 refine bK ?_
 refine tK ?_
 refine rP [(12,.int .i64 2)] hF fun a hF=> ?_
 refine tK (Cround.step ?_)
 refine qP [(13,.bool true)] hF fun a hF=> ?_
 refine cS ?_
 refine cT 13 hF ?_
 refine cN ?_
 refine tK ?_
 refine cS ?_
 refine cB 3 ?_
 refine qP [(6,.int .i64 2)] hF fun a hF=> ?_
 refine rS hF ?_
 refine xR 8 s.b 8 ?_
 refine xD 9 (s.b >>>8) ?_
 refine tV 11 6 [bv (b32 (s.b >>>8))] (tk s 7) m13 fun h28 g29 zq=> ?_
 replace e0:=e0.v g29
 replace m3:=m3.y g29
 replace m8:=m8.y g29
 replace m13:=zq
 refine sE [] fun a hF=> ?_
 refine bK ?_
 refine tK ?_
 refine rP [(12,.int .i64 3)] hF fun a hF=> ?_
 refine tK (Cround.step ?_)
 refine qP [(13,.bool true)] hF fun a hF=> ?_
 refine cS ?_
 refine cT 13 hF ?_
 refine cN ?_
 refine tK ?_
 refine cS ?_
 refine cB 3 ?_
 refine qP [(6,.int .i64 3)] hF fun a hF=> ?_
 refine rS hF ?_
 refine xR 8 s.b 0 ?_
 refine xD 9 (s.b >>>0) ?_
 refine tV 11 7 [bv (b32 (s.b >>>0))] (tk s 8) m13 fun h30 g31 zq=> ?_
 replace e0:=e0.v g31
 replace m3:=m3.y g31
 replace m8:=m8.y g31
 replace m13:=zq
 refine sE [] fun a hF=> ?_
 refine bK ?_
 refine tK ?_
 refine rP [(12,.int .i64 4)] hF fun a hF=> ?_
 refine tK (Cround.step ?_)
 refine qP [(13,.bool false)] hF fun a hF=> ?_
 refine cS ?_
 refine cF 13 hF ?_
 refine cX 2 (xT (xT (xB ?_)))
 refine bK ?_
 refine tK ?_
 refine rP [(8,.int .i64 2)] hF fun a hF=> ?_
 refine tK (Cround.step ?_)
 refine qP [(9,.bool true)] hF fun a hF=> ?_
 refine cS ?_
 refine cT 9 hF ?_
 refine cN ?_
 refine tK ?_
 refine cS ?_
 refine cB 1 ?_
 refine qP [(4,.int .i64 2),(5,wv s.c)] hF fun a hF=> ?_
 refine qP [(12,.int .i64 0)] hF fun a hF=> ?_
 refine cB 2 ?_
 refine cU 5 ?_
 refine Cround.step ?_
 refine qP [(13,.bool true)] hF fun a hF=> ?_
 refine cS ?_
 refine cT 13 hF ?_
 refine cN ?_
 refine tK ?_
 refine cS ?_
 refine cB 3 ?_
 refine qP [(6,.int .i64 0)] hF fun a hF=> ?_
 refine rS hF ?_
 refine xR 8 s.c 24 ?_
 refine xD 9 (s.c >>>24) ?_
 refine tV 11 8 [bv (b32 (s.c >>>24))] (tk s 9) m13 fun h32 g33 zq=> ?_
 replace e0:=e0.v g33
 replace m3:=m3.y g33
 replace m8:=m8.y g33
 replace m13:=zq
 refine sE [] fun a hF=> ?_
 refine bK ?_
 refine tK ?_
 refine rP [(12,.int .i64 1)] hF fun a hF=> ?_
 refine tK (Cround.step ?_)
 refine qP [(13,.bool true)] hF fun a hF=> ?_
 refine cS ?_
 refine cT 13 hF ?_
 refine cN ?_
 refine tK ?_
 refine cS ?_
 refine cB 3 ?_
 refine qP [(6,.int .i64 1)] hF fun a hF=> ?_
 refine rS hF ?_
 refine xR 8 s.c 16 ?_
 refine xD 9 (s.c >>>16) ?_
 refine tV 11 9 [bv (b32 (s.c >>>16))] (tk s 10) m13 fun h34 g35 zq=> ?_
 replace e0:=e0.v g35
 replace m3:=m3.y g35
 replace m8:=m8.y g35
 replace m13:=zq
 refine sE [] fun a hF=> ?_
 refine bK ?_
 refine tK ?_
 refine rP [(12,.int .i64 2)] hF fun a hF=> ?_
 refine tK (Cround.step ?_)
 refine qP [(13,.bool true)] hF fun a hF=> ?_
 refine cS ?_
 refine cT 13 hF ?_
 refine cN ?_
 refine tK ?_
 refine cS ?_
 refine cB 3 ?_
 refine qP [(6,.int .i64 2)] hF fun a hF=> ?_
 refine rS hF ?_
 refine xR 8 s.c 8 ?_
 refine xD 9 (s.c >>>8) ?_
 refine tV 11 10 [bv (b32 (s.c >>>8))] (tk s 11) m13 fun h36 g37 zq=> ?_
 replace e0:=e0.v g37
 replace m3:=m3.y g37
 replace m8:=m8.y g37
 replace m13:=zq
 refine sE [] fun a hF=> ?_
 refine bK ?_
 refine tK ?_
 refine rP [(12,.int .i64 3)] hF fun a hF=> ?_
 refine tK (Cround.step ?_)
 refine qP [(13,.bool true)] hF fun a hF=> ?_
 refine cS ?_
 refine cT 13 hF ?_
 refine cN ?_
 refine tK ?_
 refine cS ?_
 refine cB 3 ?_
 refine qP [(6,.int .i64 3)] hF fun a hF=> ?_
 refine rS hF ?_
 refine xR 8 s.c 0 ?_
 refine xD 9 (s.c >>>0) ?_
 refine tV 11 11 [bv (b32 (s.c >>>0))] (tk s 12) m13 fun h38 g39 zq=> ?_
 replace e0:=e0.v g39
 replace m3:=m3.y g39
 replace m8:=m8.y g39
 replace m13:=zq
 refine sE [] fun a hF=> ?_
 refine bK ?_
 refine tK ?_
 refine rP [(12,.int .i64 4)] hF fun a hF=> ?_
 refine tK (Cround.step ?_)
 refine qP [(13,.bool false)] hF fun a hF=> ?_
 refine cS ?_
 refine cF 13 hF ?_
 refine cX 2 (xT (xT (xB ?_)))
 refine bK ?_
 refine tK ?_
 refine rP [(8,.int .i64 3)] hF fun a hF=> ?_
 refine tK (Cround.step ?_)
 refine qP [(9,.bool true)] hF fun a hF=> ?_
 refine cS ?_
 refine cT 9 hF ?_
 refine cN ?_
 refine tK ?_
 refine cS ?_
 refine cB 1 ?_
 refine qP [(4,.int .i64 3),(5,wv s.d)] hF fun a hF=> ?_
 refine qP [(12,.int .i64 0)] hF fun a hF=> ?_
 refine cB 2 ?_
 refine cU 5 ?_
 refine Cround.step ?_
 refine qP [(13,.bool true)] hF fun a hF=> ?_
 refine cS ?_
 refine cT 13 hF ?_
 refine cN ?_
 refine tK ?_
 refine cS ?_
 refine cB 3 ?_
 refine qP [(6,.int .i64 0)] hF fun a hF=> ?_
 refine rS hF ?_
 refine xR 8 s.d 24 ?_
 refine xD 9 (s.d >>>24) ?_
 refine tV 11 12 [bv (b32 (s.d >>>24))] (tk s 13) m13 fun h40 g41 zq=> ?_
 replace e0:=e0.v g41
 replace m3:=m3.y g41
 replace m8:=m8.y g41
 replace m13:=zq
 refine sE [] fun a hF=> ?_
 refine bK ?_
 refine tK ?_
 refine rP [(12,.int .i64 1)] hF fun a hF=> ?_
 refine tK (Cround.step ?_)
 refine qP [(13,.bool true)] hF fun a hF=> ?_
 refine cS ?_
 refine cT 13 hF ?_
 refine cN ?_
 refine tK ?_
 refine cS ?_
 refine cB 3 ?_
 refine qP [(6,.int .i64 1)] hF fun a hF=> ?_
 refine rS hF ?_
 refine xR 8 s.d 16 ?_
 refine xD 9 (s.d >>>16) ?_
 refine tV 11 13 [bv (b32 (s.d >>>16))] (tk s 14) m13 fun h42 g43 zq=> ?_
 replace e0:=e0.v g43
 replace m3:=m3.y g43
 replace m8:=m8.y g43
 replace m13:=zq
 refine sE [] fun a hF=> ?_
 refine bK ?_
 refine tK ?_
 refine rP [(12,.int .i64 2)] hF fun a hF=> ?_
 refine tK (Cround.step ?_)
 refine qP [(13,.bool true)] hF fun a hF=> ?_
 refine cS ?_
 refine cT 13 hF ?_
 refine cN ?_
 refine tK ?_
 refine cS ?_
 refine cB 3 ?_
 refine qP [(6,.int .i64 2)] hF fun a hF=> ?_
 refine rS hF ?_
 refine xR 8 s.d 8 ?_
 refine xD 9 (s.d >>>8) ?_
 refine tV 11 14 [bv (b32 (s.d >>>8))] (tk s 15) m13 fun h44 g45 zq=> ?_
 replace e0:=e0.v g45
 replace m3:=m3.y g45
 replace m8:=m8.y g45
 replace m13:=zq
 refine sE [] fun a hF=> ?_
 refine bK ?_
 refine tK ?_
 refine rP [(12,.int .i64 3)] hF fun a hF=> ?_
 refine tK (Cround.step ?_)
 refine qP [(13,.bool true)] hF fun a hF=> ?_
 refine cS ?_
 refine cT 13 hF ?_
 refine cN ?_
 refine tK ?_
 refine cS ?_
 refine cB 3 ?_
 refine qP [(6,.int .i64 3)] hF fun a hF=> ?_
 refine rS hF ?_
 refine xR 8 s.d 0 ?_
 refine xD 9 (s.d >>>0) ?_
 refine tV 11 15 [bv (b32 (s.d >>>0))] (tk s 16) m13 fun h46 g47 zq=> ?_
 replace e0:=e0.v g47
 replace m3:=m3.y g47
 replace m8:=m8.y g47
 replace m13:=zq
 refine sE [] fun a hF=> ?_
 refine bK ?_
 refine tK ?_
 refine rP [(12,.int .i64 4)] hF fun a hF=> ?_
 refine tK (Cround.step ?_)
 refine qP [(13,.bool false)] hF fun a hF=> ?_
 refine cS ?_
 refine cF 13 hF ?_
 refine cX 2 (xT (xT (xB ?_)))
 refine bK ?_
 refine tK ?_
 refine rP [(8,.int .i64 4)] hF fun a hF=> ?_
 refine tK (Cround.step ?_)
 refine qP [(9,.bool true)] hF fun a hF=> ?_
 refine cS ?_
 refine cT 9 hF ?_
 refine cN ?_
 refine tK ?_
 refine cS ?_
 refine cB 1 ?_
 refine qP [(4,.int .i64 4),(5,wv s.e)] hF fun a hF=> ?_
 refine qP [(12,.int .i64 0)] hF fun a hF=> ?_
 refine cB 2 ?_
 refine cU 5 ?_
 refine Cround.step ?_
 refine qP [(13,.bool true)] hF fun a hF=> ?_
 refine cS ?_
 refine cT 13 hF ?_
 refine cN ?_
 refine tK ?_
 refine cS ?_
 refine cB 3 ?_
 refine qP [(6,.int .i64 0)] hF fun a hF=> ?_
 refine rS hF ?_
 refine xR 8 s.e 24 ?_
 refine xD 9 (s.e >>>24) ?_
 refine tV 11 16 [bv (b32 (s.e >>>24))] (tk s 17) m13 fun h48 g49 zq=> ?_
 replace e0:=e0.v g49
 replace m3:=m3.y g49
 replace m8:=m8.y g49
 replace m13:=zq
 refine sE [] fun a hF=> ?_
 refine bK ?_
 refine tK ?_
 refine rP [(12,.int .i64 1)] hF fun a hF=> ?_
 refine tK (Cround.step ?_)
 refine qP [(13,.bool true)] hF fun a hF=> ?_
 refine cS ?_
 refine cT 13 hF ?_
 refine cN ?_
 refine tK ?_
 refine cS ?_
 refine cB 3 ?_
 refine qP [(6,.int .i64 1)] hF fun a hF=> ?_
 refine rS hF ?_
 refine xR 8 s.e 16 ?_
 refine xD 9 (s.e >>>16) ?_
 refine tV 11 17 [bv (b32 (s.e >>>16))] (tk s 18) m13 fun h50 g51 zq=> ?_
 replace e0:=e0.v g51
 replace m3:=m3.y g51
 replace m8:=m8.y g51
 replace m13:=zq
 refine sE [] fun a hF=> ?_
 refine bK ?_
 refine tK ?_
 refine rP [(12,.int .i64 2)] hF fun a hF=> ?_
 refine tK (Cround.step ?_)
 refine qP [(13,.bool true)] hF fun a hF=> ?_
 refine cS ?_
 refine cT 13 hF ?_
 refine cN ?_
 refine tK ?_
 refine cS ?_
 refine cB 3 ?_
 refine qP [(6,.int .i64 2)] hF fun a hF=> ?_
 refine rS hF ?_
 refine xR 8 s.e 8 ?_
 refine xD 9 (s.e >>>8) ?_
 refine tV 11 18 [bv (b32 (s.e >>>8))] (tk s 19) m13 fun h52 g53 zq=> ?_
 replace e0:=e0.v g53
 replace m3:=m3.y g53
 replace m8:=m8.y g53
 replace m13:=zq
 refine sE [] fun a hF=> ?_
 refine bK ?_
 refine tK ?_
 refine rP [(12,.int .i64 3)] hF fun a hF=> ?_
 refine tK (Cround.step ?_)
 refine qP [(13,.bool true)] hF fun a hF=> ?_
 refine cS ?_
 refine cT 13 hF ?_
 refine cN ?_
 refine tK ?_
 refine cS ?_
 refine cB 3 ?_
 refine qP [(6,.int .i64 3)] hF fun a hF=> ?_
 refine rS hF ?_
 refine xR 8 s.e 0 ?_
 refine xD 9 (s.e >>>0) ?_
 refine tV 11 19 [bv (b32 (s.e >>>0))] (tk s 20) m13 fun h54 g55 zq=> ?_
 replace e0:=e0.v g55
 replace m3:=m3.y g55
 replace m8:=m8.y g55
 replace m13:=zq
 refine sE [] fun a hF=> ?_
 refine bK ?_
 refine tK ?_
 refine rP [(12,.int .i64 4)] hF fun a hF=> ?_
 refine tK (Cround.step ?_)
 refine qP [(13,.bool false)] hF fun a hF=> ?_
 refine cS ?_
 refine cF 13 hF ?_
 refine cX 2 (xT (xT (xB ?_)))
 refine bK ?_
 refine tK ?_
 refine rP [(8,.int .i64 5)] hF fun a hF=> ?_
 refine tK (Cround.step ?_)
 refine qP [(9,.bool true)] hF fun a hF=> ?_
 refine cS ?_
 refine cT 9 hF ?_
 refine cN ?_
 refine tK ?_
 refine cS ?_
 refine cB 1 ?_
 refine qP [(4,.int .i64 5),(5,wv s.f)] hF fun a hF=> ?_
 refine qP [(12,.int .i64 0)] hF fun a hF=> ?_
 refine cB 2 ?_
 refine cU 5 ?_
 refine Cround.step ?_
 refine qP [(13,.bool true)] hF fun a hF=> ?_
 refine cS ?_
 refine cT 13 hF ?_
 refine cN ?_
 refine tK ?_
 refine cS ?_
 refine cB 3 ?_
 refine qP [(6,.int .i64 0)] hF fun a hF=> ?_
 refine rS hF ?_
 refine xR 8 s.f 24 ?_
 refine xD 9 (s.f >>>24) ?_
 refine tV 11 20 [bv (b32 (s.f >>>24))] (tk s 21) m13 fun h56 g57 zq=> ?_
 replace e0:=e0.v g57
 replace m3:=m3.y g57
 replace m8:=m8.y g57
 replace m13:=zq
 refine sE [] fun a hF=> ?_
 refine bK ?_
 refine tK ?_
 refine rP [(12,.int .i64 1)] hF fun a hF=> ?_
 refine tK (Cround.step ?_)
 refine qP [(13,.bool true)] hF fun a hF=> ?_
 refine cS ?_
 refine cT 13 hF ?_
 refine cN ?_
 refine tK ?_
 refine cS ?_
 refine cB 3 ?_
 refine qP [(6,.int .i64 1)] hF fun a hF=> ?_
 refine rS hF ?_
 refine xR 8 s.f 16 ?_
 refine xD 9 (s.f >>>16) ?_
 refine tV 11 21 [bv (b32 (s.f >>>16))] (tk s 22) m13 fun h58 g59 zq=> ?_
 replace e0:=e0.v g59
 replace m3:=m3.y g59
 replace m8:=m8.y g59
 replace m13:=zq
 refine sE [] fun a hF=> ?_
 refine bK ?_
 refine tK ?_
 refine rP [(12,.int .i64 2)] hF fun a hF=> ?_
 refine tK (Cround.step ?_)
 refine qP [(13,.bool true)] hF fun a hF=> ?_
 refine cS ?_
 refine cT 13 hF ?_
 refine cN ?_
 refine tK ?_
 refine cS ?_
 refine cB 3 ?_
 refine qP [(6,.int .i64 2)] hF fun a hF=> ?_
 refine rS hF ?_
 refine xR 8 s.f 8 ?_
 refine xD 9 (s.f >>>8) ?_
 refine tV 11 22 [bv (b32 (s.f >>>8))] (tk s 23) m13 fun h60 g61 zq=> ?_
 replace e0:=e0.v g61
 replace m3:=m3.y g61
 replace m8:=m8.y g61
 replace m13:=zq
 refine sE [] fun a hF=> ?_
 refine bK ?_
 refine tK ?_
 refine rP [(12,.int .i64 3)] hF fun a hF=> ?_
 refine tK (Cround.step ?_)
 refine qP [(13,.bool true)] hF fun a hF=> ?_
 refine cS ?_
 refine cT 13 hF ?_
 refine cN ?_
 refine tK ?_
 refine cS ?_
 refine cB 3 ?_
 refine qP [(6,.int .i64 3)] hF fun a hF=> ?_
 refine rS hF ?_
 refine xR 8 s.f 0 ?_
 refine xD 9 (s.f >>>0) ?_
 refine tV 11 23 [bv (b32 (s.f >>>0))] (tk s 24) m13 fun h62 g63 zq=> ?_
 replace e0:=e0.v g63
 replace m3:=m3.y g63
 replace m8:=m8.y g63
 replace m13:=zq
 refine sE [] fun a hF=> ?_
 refine bK ?_
 refine tK ?_
 refine rP [(12,.int .i64 4)] hF fun a hF=> ?_
 refine tK (Cround.step ?_)
 refine qP [(13,.bool false)] hF fun a hF=> ?_
 refine cS ?_
 refine cF 13 hF ?_
 refine cX 2 (xT (xT (xB ?_)))
 refine bK ?_
 refine tK ?_
 refine rP [(8,.int .i64 6)] hF fun a hF=> ?_
 refine tK (Cround.step ?_)
 refine qP [(9,.bool true)] hF fun a hF=> ?_
 refine cS ?_
 refine cT 9 hF ?_
 refine cN ?_
 refine tK ?_
 refine cS ?_
 refine cB 1 ?_
 refine qP [(4,.int .i64 6),(5,wv s.g)] hF fun a hF=> ?_
 refine qP [(12,.int .i64 0)] hF fun a hF=> ?_
 refine cB 2 ?_
 refine cU 5 ?_
 refine Cround.step ?_
 refine qP [(13,.bool true)] hF fun a hF=> ?_
 refine cS ?_
 refine cT 13 hF ?_
 refine cN ?_
 refine tK ?_
 refine cS ?_
 refine cB 3 ?_
 refine qP [(6,.int .i64 0)] hF fun a hF=> ?_
 refine rS hF ?_
 refine xR 8 s.g 24 ?_
 refine xD 9 (s.g >>>24) ?_
 refine tV 11 24 [bv (b32 (s.g >>>24))] (tk s 25) m13 fun h64 g65 zq=> ?_
 replace e0:=e0.v g65
 replace m3:=m3.y g65
 replace m8:=m8.y g65
 replace m13:=zq
 refine sE [] fun a hF=> ?_
 refine bK ?_
 refine tK ?_
 refine rP [(12,.int .i64 1)] hF fun a hF=> ?_
 refine tK (Cround.step ?_)
 refine qP [(13,.bool true)] hF fun a hF=> ?_
 refine cS ?_
 refine cT 13 hF ?_
 refine cN ?_
 refine tK ?_
 refine cS ?_
 refine cB 3 ?_
 refine qP [(6,.int .i64 1)] hF fun a hF=> ?_
 refine rS hF ?_
 refine xR 8 s.g 16 ?_
 refine xD 9 (s.g >>>16) ?_
 refine tV 11 25 [bv (b32 (s.g >>>16))] (tk s 26) m13 fun h66 g67 zq=> ?_
 replace e0:=e0.v g67
 replace m3:=m3.y g67
 replace m8:=m8.y g67
 replace m13:=zq
 refine sE [] fun a hF=> ?_
 refine bK ?_
 refine tK ?_
 refine rP [(12,.int .i64 2)] hF fun a hF=> ?_
 refine tK (Cround.step ?_)
 refine qP [(13,.bool true)] hF fun a hF=> ?_
 refine cS ?_
 refine cT 13 hF ?_
 refine cN ?_
 refine tK ?_
 refine cS ?_
 refine cB 3 ?_
 refine qP [(6,.int .i64 2)] hF fun a hF=> ?_
 refine rS hF ?_
 refine xR 8 s.g 8 ?_
 refine xD 9 (s.g >>>8) ?_
 refine tV 11 26 [bv (b32 (s.g >>>8))] (tk s 27) m13 fun h68 g69 zq=> ?_
 replace e0:=e0.v g69
 replace m3:=m3.y g69
 replace m8:=m8.y g69
 replace m13:=zq
 refine sE [] fun a hF=> ?_
 refine bK ?_
 refine tK ?_
 refine rP [(12,.int .i64 3)] hF fun a hF=> ?_
 refine tK (Cround.step ?_)
 refine qP [(13,.bool true)] hF fun a hF=> ?_
 refine cS ?_
 refine cT 13 hF ?_
 refine cN ?_
 refine tK ?_
 refine cS ?_
 refine cB 3 ?_
 refine qP [(6,.int .i64 3)] hF fun a hF=> ?_
 refine rS hF ?_
 refine xR 8 s.g 0 ?_
 refine xD 9 (s.g >>>0) ?_
 refine tV 11 27 [bv (b32 (s.g >>>0))] (tk s 28) m13 fun h70 g71 zq=> ?_
 replace e0:=e0.v g71
 replace m3:=m3.y g71
 replace m8:=m8.y g71
 replace m13:=zq
 refine sE [] fun a hF=> ?_
 refine bK ?_
 refine tK ?_
 refine rP [(12,.int .i64 4)] hF fun a hF=> ?_
 refine tK (Cround.step ?_)
 refine qP [(13,.bool false)] hF fun a hF=> ?_
 refine cS ?_
 refine cF 13 hF ?_
 refine cX 2 (xT (xT (xB ?_)))
 refine bK ?_
 refine tK ?_
 refine rP [(8,.int .i64 7)] hF fun a hF=> ?_
 refine tK (Cround.step ?_)
 refine qP [(9,.bool true)] hF fun a hF=> ?_
 refine cS ?_
 refine cT 9 hF ?_
 refine cN ?_
 refine tK ?_
 refine cS ?_
 refine cB 1 ?_
 refine qP [(4,.int .i64 7),(5,wv s.h)] hF fun a hF=> ?_
 refine qP [(12,.int .i64 0)] hF fun a hF=> ?_
 refine cB 2 ?_
 refine cU 5 ?_
 refine Cround.step ?_
 refine qP [(13,.bool true)] hF fun a hF=> ?_
 refine cS ?_
 refine cT 13 hF ?_
 refine cN ?_
 refine tK ?_
 refine cS ?_
 refine cB 3 ?_
 refine qP [(6,.int .i64 0)] hF fun a hF=> ?_
 refine rS hF ?_
 refine xR 8 s.h 24 ?_
 refine xD 9 (s.h >>>24) ?_
 refine tV 11 28 [bv (b32 (s.h >>>24))] (tk s 29) m13 fun h72 g73 zq=> ?_
 replace e0:=e0.v g73
 replace m3:=m3.y g73
 replace m8:=m8.y g73
 replace m13:=zq
 refine sE [] fun a hF=> ?_
 refine bK ?_
 refine tK ?_
 refine rP [(12,.int .i64 1)] hF fun a hF=> ?_
 refine tK (Cround.step ?_)
 refine qP [(13,.bool true)] hF fun a hF=> ?_
 refine cS ?_
 refine cT 13 hF ?_
 refine cN ?_
 refine tK ?_
 refine cS ?_
 refine cB 3 ?_
 refine qP [(6,.int .i64 1)] hF fun a hF=> ?_
 refine rS hF ?_
 refine xR 8 s.h 16 ?_
 refine xD 9 (s.h >>>16) ?_
 refine tV 11 29 [bv (b32 (s.h >>>16))] (tk s 30) m13 fun h74 g75 zq=> ?_
 replace e0:=e0.v g75
 replace m3:=m3.y g75
 replace m8:=m8.y g75
 replace m13:=zq
 refine sE [] fun a hF=> ?_
 refine bK ?_
 refine tK ?_
 refine rP [(12,.int .i64 2)] hF fun a hF=> ?_
 refine tK (Cround.step ?_)
 refine qP [(13,.bool true)] hF fun a hF=> ?_
 refine cS ?_
 refine cT 13 hF ?_
 refine cN ?_
 refine tK ?_
 refine cS ?_
 refine cB 3 ?_
 refine qP [(6,.int .i64 2)] hF fun a hF=> ?_
 refine rS hF ?_
 refine xR 8 s.h 8 ?_
 refine xD 9 (s.h >>>8) ?_
 refine tV 11 30 [bv (b32 (s.h >>>8))] (tk s 31) m13 fun h76 g77 zq=> ?_
 replace e0:=e0.v g77
 replace m3:=m3.y g77
 replace m8:=m8.y g77
 replace m13:=zq
 refine sE [] fun a hF=> ?_
 refine bK ?_
 refine tK ?_
 refine rP [(12,.int .i64 3)] hF fun a hF=> ?_
 refine tK (Cround.step ?_)
 refine qP [(13,.bool true)] hF fun a hF=> ?_
 refine cS ?_
 refine cT 13 hF ?_
 refine cN ?_
 refine tK ?_
 refine cS ?_
 refine cB 3 ?_
 refine qP [(6,.int .i64 3)] hF fun a hF=> ?_
 refine rS hF ?_
 refine xR 8 s.h 0 ?_
 refine xD 9 (s.h >>>0) ?_
 refine tV 11 31 [bv (b32 (s.h >>>0))] (tk s 32) m13 fun h78 g79 zq=> ?_
 replace e0:=e0.v g79
 replace m3:=m3.y g79
 replace m8:=m8.y g79
 replace m13:=zq
 refine sE [] fun a hF=> ?_
 refine bK ?_
 refine tK ?_
 refine rP [(12,.int .i64 4)] hF fun a hF=> ?_
 refine tK (Cround.step ?_)
 refine qP [(13,.bool false)] hF fun a hF=> ?_
 refine cS ?_
 refine cF 13 hF ?_
 refine cX 2 (xT (xT (xB ?_)))
 refine bK ?_
 refine tK ?_
 refine rP [(8,.int .i64 8)] hF fun a hF=> ?_
 refine tK (Cround.step ?_)
 refine qP [(9,.bool false)] hF fun a hF=> ?_
 refine cS ?_
 refine cF 9 hF ?_
 refine cX 0 (xT (xT (xB ?_)))
 refine tK ?_
 refine qS hF ?_
 refine tR 0 m13 ?_
 refine tV0 1 (tk s 32) m8 fun h80 g81 zq=> ?_
 replace e0:=e0.v g81
 replace m3:=m3.y g81
 replace m13:=m13.y g81
 replace m8:=zq
 refine sT [] fun a hF=> ?_
 refine cR ?_
 refine rB m8 hF ?_
 exact⟨rfl,e0⟩
noncomputable def b91:Code:=Tryz.f91.body.getD .skip
theorem start_sat(h:Heap):Sat Tryz.prog 91 #[] h fun v h'=>v= .agg (sv H0).toArray ∧Ext h h':=by
 have e0:=Ext.refl h
 refine sat_in Tryz.func91 2 fun a hF=> ?_
 refine qS hF ?_
 refine tN 0 (pV h.size) #[.int .u32 0,.int .u32 0,.int .u32 0,.int .u32 0,.int .u32 0,.int .u32 0,.int .u32 0,.int .u32 0] 145 fun h1 g2 m3=> ?_
 have lt4:=blk_lt m3
 have zs5:=e0.size
 replace e0:=e0.ext g2
 refine sT [(0,pV h.size)] fun a hF=> ?_
 refine qS hF ?_
 refine tV0 1 [.int .u32 1779033703,.int .u32 3144134277,.int .u32 1013904242,.int .u32 2773480762,.int .u32 1359893119,.int .u32 2600822924,.int .u32 528734635,.int .u32 1541459225] m3 fun h6 g7 zq=> ?_
 replace e0:=e0.v g7
 replace m3:=zq
 refine sT [] fun a hF=> ?_
 refine cR ?_
 refine rB m3 hF ?_
 exact⟨by kernel_rfl,e0⟩
noncomputable def b52:Code:=Tryz.f52.body.getD .skip
theorem new_sat(h:Heap):Sat Tryz.prog 52 #[] h fun v h'=>∃b,v= .pointer (some ⟨b,0,none⟩)∧StA h' b none H0 [] 0∧h.size ≤b∧Ext h h':=by
 have e0:=Ext.refl h
 refine sat_in Tryz.func52 4 fun a hF=> ?_
 refine qP [] hF fun a hF=> ?_
 refine qS hF ?_
 refine tG 0 (start_sat _) ?_
 rintro _ h1 ⟨rfl,g⟩
 replace e0:=e0.ext g
 clear g
 refine tN 2 (pV h1.size) #[wv H0.a,wv H0.b,wv H0.c,wv H0.d,wv H0.e,wv H0.f,wv H0.g,wv H0.h,.slice none 0 0,.int .u64 0] 149 fun h2 g3 m4=> ?_
 have lt5:=blk_lt m4
 have zs6:=e0.size
 replace e0:=e0.ext g3
 refine sT [(0,pV h1.size)] fun a hF=> ?_
 refine cR ?_
 refine rT 0 (pV h1.size) hF ?_
 exact⟨_,rfl,⟨none,0,rfl,by simp,m4,Own.nil _ _ _⟩,by omega,e0⟩
end Go.Proofs.YtegkejcglfgpmaaGreatDoor
end
section
namespace Go.Proofs.YtegkejcglfgpmaaGreatDoor
open Go Go.Lane Go.Sha
noncomputable def b53:Code:=Tryz.f53.body.getD .skip
theorem write_sat(h:Heap)(b:Nat)(o:Option Nat)(st:S8)(r bs:List UInt8)(n:Nat)(va:Option Addr)(vc:Nat)(hs:StA h b o st r n)(hr:Row h (.slice va bs.length vc) bs.length 1 (bs.map bv))(hvb:bs=[]∨blkOf (.slice va bs.length vc)≠some b)(hb0:0<b)(ho0:o≠some 0)(kt:Ktab h)(h1:r.length +bs.length ≤1099511627776)(h2:n+bs.length ≤1099511627776):Sat Tryz.prog 53 #[.pointer (some ⟨b,0,none⟩),.slice va bs.length vc] h fun _ h'=>∃o',StA h' b o' (run st (r++bs)) (rem (r++bs)) (n+bs.length)∧(o'=o∨∃g,o'=some g∧h.size ≤g)∧Gr (fun k=>k=b∨some k=o) h h':=by
 obtain⟨ad,cap,ho,hob,hm,own⟩:=hs
 have hb:h[b]? =_:=hm
 have g0:=Gr.refl (fun k=>k=b∨some k=o) h
 have hobo:=hob
 rw[ho] at hob
 refine sat_in Tryz.func53 50 fun a hF=> ?_
 refine qS hF ?_
 refine tO 3 9 hm ?_
 refine t1 6 (.int .u64 ((bs.length :Nat):Int)) (.int .u64 (IntKind.u64.wrap ((bs.length :Nat):Int))) (congrArg (Value.int .u64) (u64n (by omega))) ?_
 refine t1 7 (.int .u64 ((n+bs.length :Nat):Int)) (.int .u64 (IntKind.u64.wrap (((n:Nat):Int)+((bs.length :Nat):Int)))) (congrArg (Value.int .u64) (u64e (by omega) (by omega))) ?_
 refine tV 10 9 [.int .u64 ((n+bs.length :Nat):Int)] [wv st.a,wv st.b,wv st.c,wv st.d,wv st.e,wv st.f,wv st.g,wv st.h,.slice ad r.length cap,.int .u64 ((n+bs.length :Nat):Int)] hm fun h1 g2 zq=> ?_
 replace g0:=g0.grew g2 (by rintro _ ⟨⟩;exact .inl (.inl rfl))
 replace kt:=kt.grew g2 (by simp;omega)
 replace own:=own.kept g2 (by rw[blkOf_slice];right;exact hob)
 replace hr:=hr.kept' g2 (hvb.imp (fun e=>by rw[e];rfl) .inr)
 replace hm:=zq
 refine sT [] fun a hF=> ?_
 refine qS hF ?_
 refine tO 4 8 hm ?_
 refine tF 6 (Does.append2 (t:=32) (E:=5) (sz:=1) (by_:=1) (n:=r.length) (m:=bs.length) (v:= .slice ad r.length cap) (x:= .slice va bs.length vc) (xs:=(r.map bv)) (ys:=(bs.map bv)) (by kernel_rfl) (by kernel_rfl) own hr (ones_map _) (by unfold maxLen;omega) (by omega)) ?_
 rintro _ h7 ⟨ad3,cap4,rfl,own2,g5,hb6⟩
 clear own
 rw[blkOf_slice,←ho] at g5
 rw[blkOf_slice,←ho] at hb6
 have sz:=g0.1
 replace g0:=g0.grew g5 (fun k hk=> .inl (.inr hk.symm))
 replace kt:=kt.grew g5 (fun hk=>by have:=kt.lt;exact ho0 hk.symm)
 replace hm:=Grew.blk g5 hm hobo.symm
 have hob2:ad3.map (·.block)≠some b:=by
  rcases hb6 with e|e
  ·rw[e];exact hobo
  ·rw[e];have:=blk_lt hb;simp;omega
 replace hb6:ad3.map (·.block)=o∨∃g,ad3.map (·.block)=some g∧h.size ≤g:=by
  rcases hb6 with e|e
  ·exact .inl e
  ·exact .inr ⟨_,e,sz⟩
 refine tV 9 8 [.slice ad3 (r.length +bs.length) cap4] [wv st.a,wv st.b,wv st.c,wv st.d,wv st.e,wv st.f,wv st.g,wv st.h,.slice ad3 (r.length +bs.length) cap4,.int .u64 ((n+bs.length :Nat):Int)] hm fun h8 g9 zq=> ?_
 replace g0:=g0.grew g9 (by rintro _ ⟨⟩;exact .inl (.inl rfl))
 replace kt:=kt.grew g9 (by simp;omega)
 replace own2:=own2.kept g9 (by rw[blkOf_slice];right;exact hob2)
 replace hm:=zq
 refine sT [] fun a hF=> ?_
 refine cB 0 ?_
 simp only[←List.length_append,←List.map_append] at hm own2
 refine cL (fun m a h'=>∃st':S8,∃r':List UInt8,∃ad':Option Addr,∃cap':Nat,m=r'.length ∧(Gr (fun k=>k=b∨some k=o) h h')∧(Ktab h')∧(run st' r'=run st (r++bs)∧rem r'=rem (r++bs))∧(h'[b]? =some (.cells #[wv st'.a,wv st'.b,wv st'.c,wv st'.d,wv st'.e,wv st'.f,wv st'.g,wv st'.h,.slice ad' r'.length cap',.int .u64 ((n+bs.length :Nat):Int)] 149))∧(Own h' (.slice ad' r'.length cap') 5 r'.length 1 (r'.map bv))∧(ad'.map (·.block)≠some b∧(ad'.map (·.block)=o∨∃g,ad'.map (·.block)=some g∧h.size ≤g))∧(Fr a 50 [(0,.pointer (some ⟨b,0,none⟩))])) ((r++bs).length) ⟨st,(r++bs),ad3,cap4,rfl,g0,kt,⟨rfl,rfl⟩,hm,own2,⟨hob2,hb6⟩,hF.to⟩ ?_
 clear hF a
 clear g0
 clear kt
 clear hm
 clear own2
 rintro m a h10 ⟨st',r',ad',cap',rfl,g0,kt,hi,hm,own,ho',hF⟩
 refine cS ?_
 refine qS hF ?_
 refine tO 3 8 hm ?_
 refine sT [(28,.bool (decide ((64:Int)≤((r'.length :Nat):Int))))] fun a hF=> ?_
 refine cJ 28 hF (fun hc11=> ?_) fun hc11=> ?_
 ·skip
  have hl:64≤r'.length :=by omega
  obtain⟨gb,off,rfl,hcap⟩:=own.some_at (by omega)
  refine cN ?_
  refine tK ?_
  refine cB 1 ?_
  refine cS ?_
  refine cD [0,0,2,6,14,0,32,96,224,480,1022,2047,4095,8191] 3 mixed hF ?_
  refine mP 15 [0,1,2,3] [pV b,pV b,pV b,pV b] ?_
  refine mQ 31 16 4 0 [wv st'.a,wv st'.b,wv st'.c,wv st'.d,wv st'.e,wv st'.f,wv st'.g,wv st'.h] hm ?_
  refine mP 255 [5,6,7] [pV b,pV b,.pointer (some ⟨b,8,none⟩)] ?_
  refine mO 511 272 8 8 (.slice (some ⟨gb,off,none⟩) r'.length cap') hm ?_
  refine mF 1023 9 (.slice (some ⟨gb,off,none⟩) 64 cap') (fun h=>Calm.sliceO (a:=(some ⟨gb,off,none⟩)) (len:=r'.length) (cap:=cap') (sz:=1) (x:=(some ⟨gb,off,none⟩)) 0 64 cap' 64 cap' (by kernel_rfl) (.inl ⟨rfl,rfl⟩) (.inr rfl) (.inl ⟨rfl,rfl⟩) (by omega) (by omega) (some_add0 _) (by first|rfl|omega) (by first|rfl|omega) h) ?_
  refine mG0 2047 2046 10 (piece_sat _ st' ⟨gb,off,none⟩ cap' (r'.take 64) (pre64 own hl) kt) ?_
  rintro _ h12 ⟨rfl,g⟩
  replace g0:=g0.ext g
  replace kt:=kt.ext g
  replace own:=own.ext g
  replace hm:=hm.x g
  clear g
  refine mP 8191 [11,12] [pV b,pV b] ?_
  refine mV 16383 16383 13 0 [wv ((piece st' (r'.take 64)).a),wv ((piece st' (r'.take 64)).b),wv ((piece st' (r'.take 64)).c),wv ((piece st' (r'.take 64)).d),wv ((piece st' (r'.take 64)).e),wv ((piece st' (r'.take 64)).f),wv ((piece st' (r'.take 64)).g),wv ((piece st' (r'.take 64)).h)] [wv ((piece st' (r'.take 64)).a),wv ((piece st' (r'.take 64)).b),wv ((piece st' (r'.take 64)).c),wv ((piece st' (r'.take 64)).d),wv ((piece st' (r'.take 64)).e),wv ((piece st' (r'.take 64)).f),wv ((piece st' (r'.take 64)).g),wv ((piece st' (r'.take 64)).h),.slice (some ⟨gb,off,none⟩) r'.length cap',.int .u64 ((n+bs.length :Nat):Int)] hm fun h13 g14 zq=> ?_
  replace g0:=g0.grew g14 (by rintro _ ⟨⟩;exact .inl (.inl rfl))
  replace kt:=kt.grew g14 (by simp;omega)
  replace own:=own.kept g14 (by rw[blkOf_slice];right;exact ho'.1)
  replace hm:=zq
  refine mE [] fun a hF=> ?_
  refine tK ?_
  refine rS hF ?_
  refine tO 4 8 hm ?_
  obtain⟨ad2,had2⟩:∃x,x=if cap'=64 then (some ⟨gb,off,none⟩:Option Addr) else (some ⟨gb,off,none⟩:Option Addr).map (·.add (64*1)):=⟨_,rfl⟩
  have own2:=own.drop 64 hl
  rw[←had2] at own2
  refine tC 5 (.slice ad2 (r'.length - 64) (cap' - 64)) ((fun h=>Calm.sliceO (a:=(some ⟨gb,off,none⟩)) (len:=r'.length) (cap:=cap') (sz:=1) (x:=ad2) 64 r'.length cap' (r'.length - 64) (cap' - 64) (by kernel_rfl) (.inl ⟨rfl,rfl⟩) (.inl ⟨rfl,rfl⟩) (.inr rfl) (by omega) (by omega) had2 (by first|rfl|omega) (by first|rfl|omega) h) _) ?_
  refine tV 8 8 [.slice ad2 (r'.length - 64) (cap' - 64)] [wv ((piece st' (r'.take 64)).a),wv ((piece st' (r'.take 64)).b),wv ((piece st' (r'.take 64)).c),wv ((piece st' (r'.take 64)).d),wv ((piece st' (r'.take 64)).e),wv ((piece st' (r'.take 64)).f),wv ((piece st' (r'.take 64)).g),wv ((piece st' (r'.take 64)).h),.slice ad2 (r'.length - 64) (cap' - 64),.int .u64 ((n+bs.length :Nat):Int)] hm fun h15 g16 zq=> ?_
  replace g0:=g0.grew g16 (by rintro _ ⟨⟩;exact .inl (.inl rfl))
  replace kt:=kt.grew g16 (by simp;omega)
  replace own2:=own2.kept g16 (by rw[blkOf_slice,blk_drop had2];right;exact ho'.1)
  replace hm:=zq
  refine sE [] fun a hF=> ?_
  have e64:r'.length - 64=(r'.drop 64).length :=by simp
  rw[Nat.mul_one,←List.map_drop] at own2
  rw[e64] at hm own2
  refine bK ?_
  show ∃m',m'<_∧_
  refine⟨_,?_,(piece st' (r'.take 64)),(r'.drop 64),ad2,(cap' - 64),rfl,g0,kt,⟨by rw[←hi.1,run_step hl],by rw[←hi.2,rem_step hl]⟩,hm,own2,⟨by rw[blk_drop had2];exact ho'.1,by rw[blk_drop had2];exact ho'.2⟩,hF.to⟩
  omega
 ·skip
  refine cX 0 (xT (xT (xB ?_)))
  refine n0 hF ?_
  have e1:st'=run st (r++bs):=by rw[←hi.1,run_end (by omega)]
  have e2:r'=rem (r++bs):=by rw[←hi.2,rem_end (by omega)]
  exact⟨_,⟨ad',cap',rfl,ho'.1,e1▸e2▸hm,e2▸own⟩,ho'.2,g0⟩
end Go.Proofs.YtegkejcglfgpmaaGreatDoor
end
section
namespace Go.Proofs.YtegkejcglfgpmaaGreatDoor
open Go Go.Lane Go.Sha
noncomputable def b54:Code:=Tryz.f54.body.getD .skip
set_option maxHeartbeats 1000000 in
theorem sum_sat(h:Heap)(b:Nat)(o:Option Nat)(st:S8)(r:List UInt8)(n:Nat)(hs:StA h b o st r n)(kt:Ktab h)(h1:r.length ≤1099511627776)(h2:n≤1099511627776):Sat Tryz.prog 54 #[.pointer (some ⟨b,0,none⟩)] h fun v h'=>v=hv (fin st r n)∧Ext h h':=by
 obtain⟨ad,cap,ho,hob,hm,own0⟩:=hs
 have hb:b<h.size :=blk_lt hm
 have h0s:=kt.lt
 have hbo:∀k,o=some k→k<h.size :=fun k hk=>own0.lt (by rw[blkOf_slice,←ho];exact hk)
 have e0:=Ext.refl h
 refine sat_in Tryz.func54 54 fun a hF=> ?_
 refine qS hF ?_
 refine tN 0 (pV h.size) #[.int .u8 0,.int .u8 0,.int .u8 0,.int .u8 0,.int .u8 0,.int .u8 0,.int .u8 0,.int .u8 0,.int .u8 0,.int .u8 0,.int .u8 0,.int .u8 0,.int .u8 0,.int .u8 0,.int .u8 0,.int .u8 0,.int .u8 0,.int .u8 0,.int .u8 0,.int .u8 0,.int .u8 0,.int .u8 0,.int .u8 0,.int .u8 0,.int .u8 0,.int .u8 0,.int .u8 0,.int .u8 0,.int .u8 0,.int .u8 0,.int .u8 0,.int .u8 0] 39 fun h1 g2 m3=> ?_
 have lt4:=blk_lt m3
 have zs5:=e0.size
 replace e0:=e0.ext g2
 replace kt:=kt.ext g2
 replace own0:=own0.ext g2
 replace hm:=hm.x g2
 refine sT [(2,pV h.size)] fun a hF=> ?_
 refine qS hF ?_
 have e1:=Ext.refl h1
 refine tN 0 (.slice (some ⟨h1.size,0,none⟩) 0 0) #[] 5 fun h6 g7 m8=> ?_
 have lt9:=blk_lt m8
 have zs10:=e0.size
 have zs11:=e1.size
 replace e0:=e0.ext g7
 replace kt:=kt.ext g7
 replace own0:=own0.ext g7
 replace e1:=e1.ext g7
 replace hm:=hm.x g7
 replace m3:=m3.x g7
 refine tO 4 8 hm ?_
 have own_e:Own h6 (.slice (some ⟨h1.size,0,none⟩) 0 0) 5 0 1 (([]:List UInt8).map bv):=Own.empty 1 m8
 have hge_e:∀k,((some ⟨h1.size,0,none⟩):Option Addr).map (·.block)=some k→h1.size ≤k:=blk_ge _ (by omega)
 have hsz:=e1.size
 refine tF 5 (Does.append2 (t:=32) (E:=5) (sz:=1) (by_:=1) (n:=0) (m:=r.length) (v:= .slice (some ⟨h1.size,0,none⟩) 0 0) (x:= .slice ad r.length cap) (xs:=([]:List UInt8).map bv) (ys:=r.map bv) (by kernel_rfl) (by kernel_rfl) own_e own0.row (ones_map _) (by unfold maxLen;first|omega| (simp only[List.length_append,List.length_cons,List.length_nil,List.length_replicate,zlen];omega)) (by first|omega| (simp only[List.length_append,List.length_cons,List.length_nil,List.length_replicate,zlen];omega))) ?_
 rintro _ h16 ⟨ad12,cap13,rfl,ownx,g14,hb15⟩
 rw[blkOf_slice] at g14 hb15
 replace e0:=e0.grew g14 (fun k hk=>by have:=hge_e k hk;omega)
 replace kt:=kt.grew g14 (fun e=>by have:=hge_e _ e.symm;omega)
 replace e1:=e1.grew g14 (fun k hk=>by have:=hge_e k hk;omega)
 replace hm:=hm.y g14 (fun e=>by have:=hge_e _ e.symm;omega)
 replace m3:=m3.y g14 (fun e=>by have:=hge_e _ e.symm;omega)
 replace own_e:Own h16 (.slice ad12 (r).length cap13) 5 (r).length 1 (r.map bv):=Own.app ownx (by first|rfl|simp) (by first| (simp;done)| (simp;omega))
 replace hge_e:=ge_next hge_e hb15 (by omega)
 clear ownx g14 hb15 hsz
 clear own0
 refine sT [(3,.slice ad12 (0+r.length) cap13)] fun a hF=> ?_
 have hcan:(0+r.length :Nat)=r.length :=by first| (simp;done)| (simp;omega)
 rw[hcan] at hF;clear hcan
 refine qS hF ?_
 refine tN 1 (.slice (some ⟨h16.size,0,none⟩) 1 1) #[.int .u8 128] 5 fun h17 g18 m19=> ?_
 have lt20:=blk_lt m19
 have zs21:=e0.size
 have zs22:=e1.size
 replace e0:=e0.ext g18
 replace kt:=kt.ext g18
 replace e1:=e1.ext g18
 replace own_e:=own_e.ext g18
 replace hm:=hm.x g18
 replace m3:=m3.x g18
 have rowx:=Row.blk (n:=1) (sz:=1) (l:=[bv (128:UInt8)]) m19 rfl
 clear m19 lt20 zs21 zs22
 have hsz:=e1.size
 refine tF 2 (Does.append2 (t:=32) (E:=5) (sz:=1) (by_:=1) (n:=r.length) (m:=1) (v:= .slice ad12 r.length cap13) (x:= .slice (some ⟨h16.size,0,none⟩) 1 1) (xs:=r.map bv) (ys:=([(128:UInt8)]).map bv) (by kernel_rfl) (by kernel_rfl) own_e rowx (ones_map _) (by unfold maxLen;first|omega| (simp only[List.length_append,List.length_cons,List.length_nil,List.length_replicate,zlen];omega)) (by first|omega| (simp only[List.length_append,List.length_cons,List.length_nil,List.length_replicate,zlen];omega))) ?_
 rintro _ h27 ⟨ad23,cap24,rfl,ownx,g25,hb26⟩
 rw[blkOf_slice] at g25 hb26
 replace e0:=e0.grew g25 (fun k hk=>by have:=hge_e k hk;omega)
 replace kt:=kt.grew g25 (fun e=>by have:=hge_e _ e.symm;omega)
 replace e1:=e1.grew g25 (fun k hk=>by have:=hge_e k hk;omega)
 replace hm:=hm.y g25 (fun e=>by have:=hge_e _ e.symm;omega)
 replace m3:=m3.y g25 (fun e=>by have:=hge_e _ e.symm;omega)
 replace own_e:Own h27 (.slice ad23 ((r++[(128:UInt8)])).length cap24) 5 ((r++[(128:UInt8)])).length 1 ((r++[(128:UInt8)]).map bv):=Own.app ownx (by first|rfl|simp) (by first| (simp;done)| (simp;omega))
 replace hge_e:=ge_next hge_e hb26 (by omega)
 clear ownx g25 hb26 hsz
 clear rowx
 refine sT [(3,.slice ad23 (r.length +1) cap24)] fun a hF=> ?_
 have hcan:(r.length +1:Nat)=(r++[(128:UInt8)]).length :=by first| (simp;done)| (simp;omega)
 rw[hcan] at hF;clear hcan
 refine cS ?_
 refine cB 0 ?_
 have hz:(r++[(128:UInt8)]).length =r.length +1:=by simp
 have hz0:zlen (r.length +1)=(120 - (r.length +1)%64)%64:=rfl
 have hl0:(r++[(128:UInt8)]).length =(r++[128]++List.replicate 0 (0:UInt8)).length :=by simp
 rw[hl0] at hF
 have own_f:Own h27 (.slice ad23 (r++[128]++List.replicate 0 (0:UInt8)).length cap24) 5 (r++[128]++List.replicate 0 (0:UInt8)).length 1 ((r++[128]++List.replicate 0 (0:UInt8)).map bv):=by simpa using own_e
 refine cL (fun m a h'=>∃j:Nat,∃ad':Option Addr,∃cap':Nat,m=zlen (r.length +1) - j∧(Ext h h')∧(Ext h1 h')∧(Ktab h')∧(h'[b]? =some (.cells #[wv st.a,wv st.b,wv st.c,wv st.d,wv st.e,wv st.f,wv st.g,wv st.h,.slice ad r.length cap,.int .u64 ((n:Nat):Int)] 149))∧(h'[h.size]? =some (.cells #[.int .u8 0,.int .u8 0,.int .u8 0,.int .u8 0,.int .u8 0,.int .u8 0,.int .u8 0,.int .u8 0,.int .u8 0,.int .u8 0,.int .u8 0,.int .u8 0,.int .u8 0,.int .u8 0,.int .u8 0,.int .u8 0,.int .u8 0,.int .u8 0,.int .u8 0,.int .u8 0,.int .u8 0,.int .u8 0,.int .u8 0,.int .u8 0,.int .u8 0,.int .u8 0,.int .u8 0,.int .u8 0,.int .u8 0,.int .u8 0,.int .u8 0,.int .u8 0] 39))∧(j≤zlen (r.length +1))∧(Own h' (.slice ad' (r++[128]++List.replicate j 0).length cap') 5 (r++[128]++List.replicate j 0).length 1 ((r++[128]++List.replicate j 0).map bv))∧(∀k,ad'.map (·.block)=some k→h1.size ≤k)∧(Fr a 54 [(0,.pointer (some ⟨b,0,none⟩)),(2,.pointer (some ⟨h.size,0,none⟩)),(3,.slice ad' ((r++[128]++List.replicate j 0).length) cap')])) (zlen (r.length +1) - 0) ⟨0,ad23,cap24,rfl,e0,e1,kt,hm,m3,(by omega),own_f,hge_e,hF.to⟩ ?_
 clear hF a
 clear e0
 clear e1
 clear kt
 clear hm
 clear m3
 clear own_f
 clear hge_e
 rintro m a h28 ⟨j,ad',cap',rfl,e0,e1,kt,hm,m3,hj,own_e,hge_e,hF⟩
 have hlj:(r++[128]++List.replicate j 0).length =r.length +1+j:=by simp;omega
 refine cS ?_
 refine qS hF ?_
 refine t1 2 (.int .i64 ((((r++[128]++List.replicate j 0).length)%64:Nat):Int)) (.int .i64 (Int.tmod (((r++[128]++List.replicate j 0).length :Nat):Int) 64)) (congrArg (Value.int .i64) (tmodN ((r++[128]++List.replicate j 0).length) 64)) ?_
 refine sT [(18,.bool (!decide (((((r++[128]++List.replicate j 0).length)%64:Nat):Int)=(56:Int))))] fun a hF=> ?_
 refine cI 18 hF (fun hc29=> ?_) fun hc29=> ?_
 ·skip
  refine cN ?_
  refine tK ?_
  refine cB 1 ?_
  refine rS hF ?_
  refine tN 1 (.slice (some ⟨h28.size,0,none⟩) 1 1) #[.int .u8 0] 5 fun h30 g31 m32=> ?_
  have lt33:=blk_lt m32
  have zs34:=e0.size
  have zs35:=e1.size
  replace e0:=e0.ext g31
  replace e1:=e1.ext g31
  replace kt:=kt.ext g31
  replace own_e:=own_e.ext g31
  replace hm:=hm.x g31
  replace m3:=m3.x g31
  have rowx:=Row.blk (n:=1) (sz:=1) (l:=[bv (0:UInt8)]) m32 rfl
  clear m32 lt33 zs34 zs35
  have hsz:=e1.size
  refine tF 2 (Does.append2 (t:=32) (E:=5) (sz:=1) (by_:=1) (n:=(r++[128]++List.replicate j 0).length) (m:=1) (v:= .slice ad' ((r++[128]++List.replicate j 0).length) cap') (x:= .slice (some ⟨h28.size,0,none⟩) 1 1) (xs:=(r++[128]++List.replicate j 0).map bv) (ys:=([(0:UInt8)]).map bv) (by kernel_rfl) (by kernel_rfl) own_e rowx (ones_map _) (by unfold maxLen;first|omega| (simp only[List.length_append,List.length_cons,List.length_nil,List.length_replicate,zlen];omega)) (by first|omega| (simp only[List.length_append,List.length_cons,List.length_nil,List.length_replicate,zlen];omega))) ?_
  rintro _ h40 ⟨ad36,cap37,rfl,ownx,g38,hb39⟩
  rw[blkOf_slice] at g38 hb39
  replace e0:=e0.grew g38 (fun k hk=>by have:=hge_e k hk;omega)
  replace e1:=e1.grew g38 (fun k hk=>by have:=hge_e k hk;omega)
  replace kt:=kt.grew g38 (fun e=>by have:=hge_e _ e.symm;omega)
  replace hm:=hm.y g38 (fun e=>by have:=hge_e _ e.symm;omega)
  replace m3:=m3.y g38 (fun e=>by have:=hge_e _ e.symm;omega)
  replace own_e:Own h40 (.slice ad36 (((r++[128]++List.replicate j 0)++[(0:UInt8)])).length cap37) 5 (((r++[128]++List.replicate j 0)++[(0:UInt8)])).length 1 (((r++[128]++List.replicate j 0)++[(0:UInt8)]).map bv):=Own.app ownx (by first|rfl|simp) (by first| (simp;done)| (simp;omega))
  replace hge_e:=ge_next hge_e hb39 (by omega)
  clear ownx g38 hb39 hsz
  clear rowx
  refine sE [(3,.slice ad36 (((r++[128]++List.replicate j 0).length)+1) cap37)] fun a hF=> ?_
  have hcan:(((r++[128]++List.replicate j 0).length)+1:Nat)=((r++[128]++List.replicate j 0)++[(0:UInt8)]).length :=by first| (simp;done)| (simp;omega)
  rw[hcan] at hF;clear hcan
  refine bK ?_
  have hcan:((r++[128]++List.replicate j 0)++[(0:UInt8)]).length =(r++[128]++List.replicate (j+1) (0:UInt8)).length :=by simp[List.replicate_succ']
  rw[hcan] at hF;clear hcan
  show ∃m',m'<_∧_
  refine⟨_,?_,(j+1),ad36,cap37,rfl,e0,e1,kt,hm,m3,(by omega),(by simpa[List.replicate_succ'] using own_e),hge_e,hF.to⟩
  omega
 ·skip
  refine cX 0 (xT (xT (xB ?_)))
  refine tK ?_
  refine cS ?_
  refine qP [(22,.int .i64 0)] hF fun a hF=> ?_
  refine cB 2 ?_
  have ej:j=zlen (r.length +1):=by omega
  subst ej
  obtain⟨T0,hT0⟩:∃T:List UInt8,(r++[128]++List.replicate (zlen (r.length +1)) 0)=T:=⟨_,rfl⟩
  rw[hT0] at own_e hF hlj
  refine cU 9 ?_
  refine Cround.step ?_
  refine qP [(23,.bool true)] hF fun a hF=> ?_
  refine cS ?_
  refine cT 23 hF ?_
  refine cN ?_
  refine tK ?_
  refine cS ?_
  refine cB 3 ?_
  refine qP [(4,.int .i64 0)] hF fun a hF=> ?_
  refine rS hF ?_
  refine tO 4 9 hm ?_
  refine t1 5 (.int .u64 ((8*n:Nat):Int)) (.int .u64 (IntKind.u64.wrap (8*((n:Nat):Int)))) (congrArg (Value.int .u64) (u64e (by omega) (by omega))) ?_
  refine t1 9 (.int .u64 (((8*n)/2^56:Nat):Int)) (.int .u64 (Int.fdiv ((8*n:Nat):Int) (2^56))) (congrArg (Value.int .u64) (fdivN (8*n) 56)) ?_
  refine t1 10 (bv (UInt8.ofNat ((8*n)/2^56))) (.int .u8 (IntKind.u8.wrap (((8*n)/2^56:Nat):Int))) (conv64 _) ?_
  refine tN 11 (.slice (some ⟨h28.size,0,none⟩) 1 1) #[bv (UInt8.ofNat ((8*n)/2^56))] 5 fun h41 g42 m43=> ?_
  have lt44:=blk_lt m43
  have zs45:=e0.size
  have zs46:=e1.size
  replace e0:=e0.ext g42
  replace e1:=e1.ext g42
  replace kt:=kt.ext g42
  replace own_e:=own_e.ext g42
  replace hm:=hm.x g42
  replace m3:=m3.x g42
  have rowx:=Row.blk (n:=1) (sz:=1) (l:=[bv (UInt8.ofNat ((8*n)/2^56))]) m43 rfl
  clear m43 lt44 zs45 zs46
  have hsz:=e1.size
  refine tF 12 (Does.append2 (t:=32) (E:=5) (sz:=1) (by_:=1) (n:=T0.length) (m:=1) (v:= .slice ad' T0.length cap') (x:= .slice (some ⟨h28.size,0,none⟩) 1 1) (xs:=T0.map bv) (ys:=([UInt8.ofNat ((8*n)/2^56)]).map bv) (by kernel_rfl) (by kernel_rfl) own_e rowx (ones_map _) (by unfold maxLen;first|omega| (simp only[List.length_append,List.length_cons,List.length_nil,List.length_replicate,zlen];omega)) (by first|omega| (simp only[List.length_append,List.length_cons,List.length_nil,List.length_replicate,zlen];omega))) ?_
  rintro _ h51 ⟨ad47,cap48,rfl,ownx,g49,hb50⟩
  rw[blkOf_slice] at g49 hb50
  replace e0:=e0.grew g49 (fun k hk=>by have:=hge_e k hk;omega)
  replace e1:=e1.grew g49 (fun k hk=>by have:=hge_e k hk;omega)
  replace kt:=kt.grew g49 (fun e=>by have:=hge_e _ e.symm;omega)
  replace hm:=hm.y g49 (fun e=>by have:=hge_e _ e.symm;omega)
  replace m3:=m3.y g49 (fun e=>by have:=hge_e _ e.symm;omega)
  replace own_e:Own h51 (.slice ad47 ((T0++[UInt8.ofNat ((8*n)/2^56)])).length cap48) 5 ((T0++[UInt8.ofNat ((8*n)/2^56)])).length 1 ((T0++[UInt8.ofNat ((8*n)/2^56)]).map bv):=Own.app ownx (by first|rfl|simp) (by first| (simp;done)| (simp;omega))
  replace hge_e:=ge_next hge_e hb50 (by omega)
  clear ownx g49 hb50 hsz
  clear rowx
  obtain⟨T1,hT1⟩:∃T:List UInt8,(T0++[UInt8.ofNat ((8*n)/2^56)])=T:=⟨_,rfl⟩
  rw[hT1] at own_e
  have hlT1:T1.length =T0.length +1:=by rw[←hT1];simp
  refine sE [(3,.slice ad47 (T0.length +1) cap48)] fun a hF=> ?_
  have hcan:(T0.length +1:Nat)=T1.length :=by first| (rw[←hT1];simp;done)| (simp;done)| (simp;omega)
  rw[hcan] at hF;clear hcan
  refine bK ?_
  refine tK ?_
  refine rP [(22,.int .i64 1)] hF fun a hF=> ?_
  refine tK (Cround.step ?_)
  refine qP [(23,.bool true)] hF fun a hF=> ?_
  refine cS ?_
  refine cT 23 hF ?_
  refine cN ?_
  refine tK ?_
  refine cS ?_
  refine cB 3 ?_
  refine qP [(4,.int .i64 1)] hF fun a hF=> ?_
  refine rS hF ?_
  refine tO 4 9 hm ?_
  refine t1 5 (.int .u64 ((8*n:Nat):Int)) (.int .u64 (IntKind.u64.wrap (8*((n:Nat):Int)))) (congrArg (Value.int .u64) (u64e (by omega) (by omega))) ?_
  refine t1 9 (.int .u64 (((8*n)/2^48:Nat):Int)) (.int .u64 (Int.fdiv ((8*n:Nat):Int) (2^48))) (congrArg (Value.int .u64) (fdivN (8*n) 48)) ?_
  refine t1 10 (bv (UInt8.ofNat ((8*n)/2^48))) (.int .u8 (IntKind.u8.wrap (((8*n)/2^48:Nat):Int))) (conv64 _) ?_
  refine tN 11 (.slice (some ⟨h51.size,0,none⟩) 1 1) #[bv (UInt8.ofNat ((8*n)/2^48))] 5 fun h52 g53 m54=> ?_
  have lt55:=blk_lt m54
  have zs56:=e0.size
  have zs57:=e1.size
  replace e0:=e0.ext g53
  replace e1:=e1.ext g53
  replace kt:=kt.ext g53
  replace own_e:=own_e.ext g53
  replace hm:=hm.x g53
  replace m3:=m3.x g53
  have rowx:=Row.blk (n:=1) (sz:=1) (l:=[bv (UInt8.ofNat ((8*n)/2^48))]) m54 rfl
  clear m54 lt55 zs56 zs57
  have hsz:=e1.size
  refine tF 12 (Does.append2 (t:=32) (E:=5) (sz:=1) (by_:=1) (n:=T1.length) (m:=1) (v:= .slice ad47 T1.length cap48) (x:= .slice (some ⟨h51.size,0,none⟩) 1 1) (xs:=T1.map bv) (ys:=([UInt8.ofNat ((8*n)/2^48)]).map bv) (by kernel_rfl) (by kernel_rfl) own_e rowx (ones_map _) (by unfold maxLen;first|omega| (simp only[List.length_append,List.length_cons,List.length_nil,List.length_replicate,zlen];omega)) (by first|omega| (simp only[List.length_append,List.length_cons,List.length_nil,List.length_replicate,zlen];omega))) ?_
  rintro _ h62 ⟨ad58,cap59,rfl,ownx,g60,hb61⟩
  rw[blkOf_slice] at g60 hb61
  replace e0:=e0.grew g60 (fun k hk=>by have:=hge_e k hk;omega)
  replace e1:=e1.grew g60 (fun k hk=>by have:=hge_e k hk;omega)
  replace kt:=kt.grew g60 (fun e=>by have:=hge_e _ e.symm;omega)
  replace hm:=hm.y g60 (fun e=>by have:=hge_e _ e.symm;omega)
  replace m3:=m3.y g60 (fun e=>by have:=hge_e _ e.symm;omega)
  replace own_e:Own h62 (.slice ad58 ((T1++[UInt8.ofNat ((8*n)/2^48)])).length cap59) 5 ((T1++[UInt8.ofNat ((8*n)/2^48)])).length 1 ((T1++[UInt8.ofNat ((8*n)/2^48)]).map bv):=Own.app ownx (by first|rfl|simp) (by first| (simp;done)| (simp;omega))
  replace hge_e:=ge_next hge_e hb61 (by omega)
  clear ownx g60 hb61 hsz
  clear rowx
  obtain⟨T2,hT2⟩:∃T:List UInt8,(T1++[UInt8.ofNat ((8*n)/2^48)])=T:=⟨_,rfl⟩
  rw[hT2] at own_e
  have hlT2:T2.length =T1.length +1:=by rw[←hT2];simp
  refine sE [(3,.slice ad58 (T1.length +1) cap59)] fun a hF=> ?_
  have hcan:(T1.length +1:Nat)=T2.length :=by first| (rw[←hT2];simp;done)| (simp;done)| (simp;omega)
  rw[hcan] at hF;clear hcan
  refine bK ?_
  refine tK ?_
  refine rP [(22,.int .i64 2)] hF fun a hF=> ?_
  refine tK (Cround.step ?_)
  refine qP [(23,.bool true)] hF fun a hF=> ?_
  refine cS ?_
  refine cT 23 hF ?_
  refine cN ?_
  refine tK ?_
  refine cS ?_
  refine cB 3 ?_
  refine qP [(4,.int .i64 2)] hF fun a hF=> ?_
  refine rS hF ?_
  refine tO 4 9 hm ?_
  refine t1 5 (.int .u64 ((8*n:Nat):Int)) (.int .u64 (IntKind.u64.wrap (8*((n:Nat):Int)))) (congrArg (Value.int .u64) (u64e (by omega) (by omega))) ?_
  refine t1 9 (.int .u64 (((8*n)/2^40:Nat):Int)) (.int .u64 (Int.fdiv ((8*n:Nat):Int) (2^40))) (congrArg (Value.int .u64) (fdivN (8*n) 40)) ?_
  refine t1 10 (bv (UInt8.ofNat ((8*n)/2^40))) (.int .u8 (IntKind.u8.wrap (((8*n)/2^40:Nat):Int))) (conv64 _) ?_
  refine tN 11 (.slice (some ⟨h62.size,0,none⟩) 1 1) #[bv (UInt8.ofNat ((8*n)/2^40))] 5 fun h63 g64 m65=> ?_
  have lt66:=blk_lt m65
  have zs67:=e0.size
  have zs68:=e1.size
  replace e0:=e0.ext g64
  replace e1:=e1.ext g64
  replace kt:=kt.ext g64
  replace own_e:=own_e.ext g64
  replace hm:=hm.x g64
  replace m3:=m3.x g64
  have rowx:=Row.blk (n:=1) (sz:=1) (l:=[bv (UInt8.ofNat ((8*n)/2^40))]) m65 rfl
  clear m65 lt66 zs67 zs68
  have hsz:=e1.size
  refine tF 12 (Does.append2 (t:=32) (E:=5) (sz:=1) (by_:=1) (n:=T2.length) (m:=1) (v:= .slice ad58 T2.length cap59) (x:= .slice (some ⟨h62.size,0,none⟩) 1 1) (xs:=T2.map bv) (ys:=([UInt8.ofNat ((8*n)/2^40)]).map bv) (by kernel_rfl) (by kernel_rfl) own_e rowx (ones_map _) (by unfold maxLen;first|omega| (simp only[List.length_append,List.length_cons,List.length_nil,List.length_replicate,zlen];omega)) (by first|omega| (simp only[List.length_append,List.length_cons,List.length_nil,List.length_replicate,zlen];omega))) ?_
  rintro _ h73 ⟨ad69,cap70,rfl,ownx,g71,hb72⟩
  rw[blkOf_slice] at g71 hb72
  replace e0:=e0.grew g71 (fun k hk=>by have:=hge_e k hk;omega)
  replace e1:=e1.grew g71 (fun k hk=>by have:=hge_e k hk;omega)
  replace kt:=kt.grew g71 (fun e=>by have:=hge_e _ e.symm;omega)
  replace hm:=hm.y g71 (fun e=>by have:=hge_e _ e.symm;omega)
  replace m3:=m3.y g71 (fun e=>by have:=hge_e _ e.symm;omega)
  replace own_e:Own h73 (.slice ad69 ((T2++[UInt8.ofNat ((8*n)/2^40)])).length cap70) 5 ((T2++[UInt8.ofNat ((8*n)/2^40)])).length 1 ((T2++[UInt8.ofNat ((8*n)/2^40)]).map bv):=Own.app ownx (by first|rfl|simp) (by first| (simp;done)| (simp;omega))
  replace hge_e:=ge_next hge_e hb72 (by omega)
  clear ownx g71 hb72 hsz
  clear rowx
  obtain⟨T3,hT3⟩:∃T:List UInt8,(T2++[UInt8.ofNat ((8*n)/2^40)])=T:=⟨_,rfl⟩
  rw[hT3] at own_e
  have hlT3:T3.length =T2.length +1:=by rw[←hT3];simp
  refine sE [(3,.slice ad69 (T2.length +1) cap70)] fun a hF=> ?_
  have hcan:(T2.length +1:Nat)=T3.length :=by first| (rw[←hT3];simp;done)| (simp;done)| (simp;omega)
  rw[hcan] at hF;clear hcan
  refine bK ?_
  refine tK ?_
  refine rP [(22,.int .i64 3)] hF fun a hF=> ?_
  refine tK (Cround.step ?_)
  refine qP [(23,.bool true)] hF fun a hF=> ?_
  refine cS ?_
  refine cT 23 hF ?_
  refine cN ?_
  refine tK ?_
  refine cS ?_
  refine cB 3 ?_
  refine qP [(4,.int .i64 3)] hF fun a hF=> ?_
  refine rS hF ?_
  refine tO 4 9 hm ?_
  refine t1 5 (.int .u64 ((8*n:Nat):Int)) (.int .u64 (IntKind.u64.wrap (8*((n:Nat):Int)))) (congrArg (Value.int .u64) (u64e (by omega) (by omega))) ?_
  refine t1 9 (.int .u64 (((8*n)/2^32:Nat):Int)) (.int .u64 (Int.fdiv ((8*n:Nat):Int) (2^32))) (congrArg (Value.int .u64) (fdivN (8*n) 32)) ?_
  refine t1 10 (bv (UInt8.ofNat ((8*n)/2^32))) (.int .u8 (IntKind.u8.wrap (((8*n)/2^32:Nat):Int))) (conv64 _) ?_
  refine tN 11 (.slice (some ⟨h73.size,0,none⟩) 1 1) #[bv (UInt8.ofNat ((8*n)/2^32))] 5 fun h74 g75 m76=> ?_
  have lt77:=blk_lt m76
  have zs78:=e0.size
  have zs79:=e1.size
  replace e0:=e0.ext g75
  replace e1:=e1.ext g75
  replace kt:=kt.ext g75
  replace own_e:=own_e.ext g75
  replace hm:=hm.x g75
  replace m3:=m3.x g75
  have rowx:=Row.blk (n:=1) (sz:=1) (l:=[bv (UInt8.ofNat ((8*n)/2^32))]) m76 rfl
  clear m76 lt77 zs78 zs79
  have hsz:=e1.size
  refine tF 12 (Does.append2 (t:=32) (E:=5) (sz:=1) (by_:=1) (n:=T3.length) (m:=1) (v:= .slice ad69 T3.length cap70) (x:= .slice (some ⟨h73.size,0,none⟩) 1 1) (xs:=T3.map bv) (ys:=([UInt8.ofNat ((8*n)/2^32)]).map bv) (by kernel_rfl) (by kernel_rfl) own_e rowx (ones_map _) (by unfold maxLen;first|omega| (simp only[List.length_append,List.length_cons,List.length_nil,List.length_replicate,zlen];omega)) (by first|omega| (simp only[List.length_append,List.length_cons,List.length_nil,List.length_replicate,zlen];omega))) ?_
  rintro _ h84 ⟨ad80,cap81,rfl,ownx,g82,hb83⟩
  rw[blkOf_slice] at g82 hb83
  replace e0:=e0.grew g82 (fun k hk=>by have:=hge_e k hk;omega)
  replace e1:=e1.grew g82 (fun k hk=>by have:=hge_e k hk;omega)
  replace kt:=kt.grew g82 (fun e=>by have:=hge_e _ e.symm;omega)
  replace hm:=hm.y g82 (fun e=>by have:=hge_e _ e.symm;omega)
  replace m3:=m3.y g82 (fun e=>by have:=hge_e _ e.symm;omega)
  replace own_e:Own h84 (.slice ad80 ((T3++[UInt8.ofNat ((8*n)/2^32)])).length cap81) 5 ((T3++[UInt8.ofNat ((8*n)/2^32)])).length 1 ((T3++[UInt8.ofNat ((8*n)/2^32)]).map bv):=Own.app ownx (by first|rfl|simp) (by first| (simp;done)| (simp;omega))
  replace hge_e:=ge_next hge_e hb83 (by omega)
  clear ownx g82 hb83 hsz
  clear rowx
  obtain⟨T4,hT4⟩:∃T:List UInt8,(T3++[UInt8.ofNat ((8*n)/2^32)])=T:=⟨_,rfl⟩
  rw[hT4] at own_e
  have hlT4:T4.length =T3.length +1:=by rw[←hT4];simp
  refine sE [(3,.slice ad80 (T3.length +1) cap81)] fun a hF=> ?_
  have hcan:(T3.length +1:Nat)=T4.length :=by first| (rw[←hT4];simp;done)| (simp;done)| (simp;omega)
  rw[hcan] at hF;clear hcan
  refine bK ?_
  refine tK ?_
  refine rP [(22,.int .i64 4)] hF fun a hF=> ?_
  refine tK (Cround.step ?_)
  refine qP [(23,.bool true)] hF fun a hF=> ?_
  refine cS ?_
  refine cT 23 hF ?_
  refine cN ?_
  refine tK ?_
  refine cS ?_
  refine cB 3 ?_
  refine qP [(4,.int .i64 4)] hF fun a hF=> ?_
  refine rS hF ?_
  refine tO 4 9 hm ?_
  refine t1 5 (.int .u64 ((8*n:Nat):Int)) (.int .u64 (IntKind.u64.wrap (8*((n:Nat):Int)))) (congrArg (Value.int .u64) (u64e (by omega) (by omega))) ?_
  refine t1 9 (.int .u64 (((8*n)/2^24:Nat):Int)) (.int .u64 (Int.fdiv ((8*n:Nat):Int) (2^24))) (congrArg (Value.int .u64) (fdivN (8*n) 24)) ?_
  refine t1 10 (bv (UInt8.ofNat ((8*n)/2^24))) (.int .u8 (IntKind.u8.wrap (((8*n)/2^24:Nat):Int))) (conv64 _) ?_
  refine tN 11 (.slice (some ⟨h84.size,0,none⟩) 1 1) #[bv (UInt8.ofNat ((8*n)/2^24))] 5 fun h85 g86 m87=> ?_
  have lt88:=blk_lt m87
  have zs89:=e0.size
  have zs90:=e1.size
  replace e0:=e0.ext g86
  replace e1:=e1.ext g86
  replace kt:=kt.ext g86
  replace own_e:=own_e.ext g86
  replace hm:=hm.x g86
  replace m3:=m3.x g86
  have rowx:=Row.blk (n:=1) (sz:=1) (l:=[bv (UInt8.ofNat ((8*n)/2^24))]) m87 rfl
  clear m87 lt88 zs89 zs90
  have hsz:=e1.size
  refine tF 12 (Does.append2 (t:=32) (E:=5) (sz:=1) (by_:=1) (n:=T4.length) (m:=1) (v:= .slice ad80 T4.length cap81) (x:= .slice (some ⟨h84.size,0,none⟩) 1 1) (xs:=T4.map bv) (ys:=([UInt8.ofNat ((8*n)/2^24)]).map bv) (by kernel_rfl) (by kernel_rfl) own_e rowx (ones_map _) (by unfold maxLen;first|omega| (simp only[List.length_append,List.length_cons,List.length_nil,List.length_replicate,zlen];omega)) (by first|omega| (simp only[List.length_append,List.length_cons,List.length_nil,List.length_replicate,zlen];omega))) ?_
  rintro _ h95 ⟨ad91,cap92,rfl,ownx,g93,hb94⟩
  rw[blkOf_slice] at g93 hb94
  replace e0:=e0.grew g93 (fun k hk=>by have:=hge_e k hk;omega)
  replace e1:=e1.grew g93 (fun k hk=>by have:=hge_e k hk;omega)
  replace kt:=kt.grew g93 (fun e=>by have:=hge_e _ e.symm;omega)
  replace hm:=hm.y g93 (fun e=>by have:=hge_e _ e.symm;omega)
  replace m3:=m3.y g93 (fun e=>by have:=hge_e _ e.symm;omega)
  replace own_e:Own h95 (.slice ad91 ((T4++[UInt8.ofNat ((8*n)/2^24)])).length cap92) 5 ((T4++[UInt8.ofNat ((8*n)/2^24)])).length 1 ((T4++[UInt8.ofNat ((8*n)/2^24)]).map bv):=Own.app ownx (by first|rfl|simp) (by first| (simp;done)| (simp;omega))
  replace hge_e:=ge_next hge_e hb94 (by omega)
  clear ownx g93 hb94 hsz
  clear rowx
  obtain⟨T5,hT5⟩:∃T:List UInt8,(T4++[UInt8.ofNat ((8*n)/2^24)])=T:=⟨_,rfl⟩
  rw[hT5] at own_e
  have hlT5:T5.length =T4.length +1:=by rw[←hT5];simp
  refine sE [(3,.slice ad91 (T4.length +1) cap92)] fun a hF=> ?_
  have hcan:(T4.length +1:Nat)=T5.length :=by first| (rw[←hT5];simp;done)| (simp;done)| (simp;omega)
  rw[hcan] at hF;clear hcan
  refine bK ?_
  refine tK ?_
  refine rP [(22,.int .i64 5)] hF fun a hF=> ?_
  refine tK (Cround.step ?_)
  refine qP [(23,.bool true)] hF fun a hF=> ?_
  refine cS ?_
  refine cT 23 hF ?_
  refine cN ?_
  refine tK ?_
  refine cS ?_
  refine cB 3 ?_
  refine qP [(4,.int .i64 5)] hF fun a hF=> ?_
  refine rS hF ?_
  refine tO 4 9 hm ?_
  refine t1 5 (.int .u64 ((8*n:Nat):Int)) (.int .u64 (IntKind.u64.wrap (8*((n:Nat):Int)))) (congrArg (Value.int .u64) (u64e (by omega) (by omega))) ?_
  refine t1 9 (.int .u64 (((8*n)/2^16:Nat):Int)) (.int .u64 (Int.fdiv ((8*n:Nat):Int) (2^16))) (congrArg (Value.int .u64) (fdivN (8*n) 16)) ?_
  refine t1 10 (bv (UInt8.ofNat ((8*n)/2^16))) (.int .u8 (IntKind.u8.wrap (((8*n)/2^16:Nat):Int))) (conv64 _) ?_
  refine tN 11 (.slice (some ⟨h95.size,0,none⟩) 1 1) #[bv (UInt8.ofNat ((8*n)/2^16))] 5 fun h96 g97 m98=> ?_
  have lt99:=blk_lt m98
  have zs100:=e0.size
  have zs101:=e1.size
  replace e0:=e0.ext g97
  replace e1:=e1.ext g97
  replace kt:=kt.ext g97
  replace own_e:=own_e.ext g97
  replace hm:=hm.x g97
  replace m3:=m3.x g97
  have rowx:=Row.blk (n:=1) (sz:=1) (l:=[bv (UInt8.ofNat ((8*n)/2^16))]) m98 rfl
  clear m98 lt99 zs100 zs101
  have hsz:=e1.size
  refine tF 12 (Does.append2 (t:=32) (E:=5) (sz:=1) (by_:=1) (n:=T5.length) (m:=1) (v:= .slice ad91 T5.length cap92) (x:= .slice (some ⟨h95.size,0,none⟩) 1 1) (xs:=T5.map bv) (ys:=([UInt8.ofNat ((8*n)/2^16)]).map bv) (by kernel_rfl) (by kernel_rfl) own_e rowx (ones_map _) (by unfold maxLen;first|omega| (simp only[List.length_append,List.length_cons,List.length_nil,List.length_replicate,zlen];omega)) (by first|omega| (simp only[List.length_append,List.length_cons,List.length_nil,List.length_replicate,zlen];omega))) ?_
  rintro _ h106 ⟨ad102,cap103,rfl,ownx,g104,hb105⟩
  rw[blkOf_slice] at g104 hb105
  replace e0:=e0.grew g104 (fun k hk=>by have:=hge_e k hk;omega)
  replace e1:=e1.grew g104 (fun k hk=>by have:=hge_e k hk;omega)
  replace kt:=kt.grew g104 (fun e=>by have:=hge_e _ e.symm;omega)
  replace hm:=hm.y g104 (fun e=>by have:=hge_e _ e.symm;omega)
  replace m3:=m3.y g104 (fun e=>by have:=hge_e _ e.symm;omega)
  replace own_e:Own h106 (.slice ad102 ((T5++[UInt8.ofNat ((8*n)/2^16)])).length cap103) 5 ((T5++[UInt8.ofNat ((8*n)/2^16)])).length 1 ((T5++[UInt8.ofNat ((8*n)/2^16)]).map bv):=Own.app ownx (by first|rfl|simp) (by first| (simp;done)| (simp;omega))
  replace hge_e:=ge_next hge_e hb105 (by omega)
  clear ownx g104 hb105 hsz
  clear rowx
  obtain⟨T6,hT6⟩:∃T:List UInt8,(T5++[UInt8.ofNat ((8*n)/2^16)])=T:=⟨_,rfl⟩
  rw[hT6] at own_e
  have hlT6:T6.length =T5.length +1:=by rw[←hT6];simp
  refine sE [(3,.slice ad102 (T5.length +1) cap103)] fun a hF=> ?_
  have hcan:(T5.length +1:Nat)=T6.length :=by first| (rw[←hT6];simp;done)| (simp;done)| (simp;omega)
  rw[hcan] at hF;clear hcan
  refine bK ?_
  refine tK ?_
  refine rP [(22,.int .i64 6)] hF fun a hF=> ?_
  refine tK (Cround.step ?_)
  refine qP [(23,.bool true)] hF fun a hF=> ?_
  refine cS ?_
  refine cT 23 hF ?_
  refine cN ?_
  refine tK ?_
  refine cS ?_
  refine cB 3 ?_
  refine qP [(4,.int .i64 6)] hF fun a hF=> ?_
  refine rS hF ?_
  refine tO 4 9 hm ?_
  refine t1 5 (.int .u64 ((8*n:Nat):Int)) (.int .u64 (IntKind.u64.wrap (8*((n:Nat):Int)))) (congrArg (Value.int .u64) (u64e (by omega) (by omega))) ?_
  refine t1 9 (.int .u64 (((8*n)/2^8:Nat):Int)) (.int .u64 (Int.fdiv ((8*n:Nat):Int) (2^8))) (congrArg (Value.int .u64) (fdivN (8*n) 8)) ?_
  refine t1 10 (bv (UInt8.ofNat ((8*n)/2^8))) (.int .u8 (IntKind.u8.wrap (((8*n)/2^8:Nat):Int))) (conv64 _) ?_
  refine tN 11 (.slice (some ⟨h106.size,0,none⟩) 1 1) #[bv (UInt8.ofNat ((8*n)/2^8))] 5 fun h107 g108 m109=> ?_
  have lt110:=blk_lt m109
  have zs111:=e0.size
  have zs112:=e1.size
  replace e0:=e0.ext g108
  replace e1:=e1.ext g108
  replace kt:=kt.ext g108
  replace own_e:=own_e.ext g108
  replace hm:=hm.x g108
  replace m3:=m3.x g108
  have rowx:=Row.blk (n:=1) (sz:=1) (l:=[bv (UInt8.ofNat ((8*n)/2^8))]) m109 rfl
  clear m109 lt110 zs111 zs112
  have hsz:=e1.size
  refine tF 12 (Does.append2 (t:=32) (E:=5) (sz:=1) (by_:=1) (n:=T6.length) (m:=1) (v:= .slice ad102 T6.length cap103) (x:= .slice (some ⟨h106.size,0,none⟩) 1 1) (xs:=T6.map bv) (ys:=([UInt8.ofNat ((8*n)/2^8)]).map bv) (by kernel_rfl) (by kernel_rfl) own_e rowx (ones_map _) (by unfold maxLen;first|omega| (simp only[List.length_append,List.length_cons,List.length_nil,List.length_replicate,zlen];omega)) (by first|omega| (simp only[List.length_append,List.length_cons,List.length_nil,List.length_replicate,zlen];omega))) ?_
  rintro _ h117 ⟨ad113,cap114,rfl,ownx,g115,hb116⟩
  rw[blkOf_slice] at g115 hb116
  replace e0:=e0.grew g115 (fun k hk=>by have:=hge_e k hk;omega)
  replace e1:=e1.grew g115 (fun k hk=>by have:=hge_e k hk;omega)
  replace kt:=kt.grew g115 (fun e=>by have:=hge_e _ e.symm;omega)
  replace hm:=hm.y g115 (fun e=>by have:=hge_e _ e.symm;omega)
  replace m3:=m3.y g115 (fun e=>by have:=hge_e _ e.symm;omega)
  replace own_e:Own h117 (.slice ad113 ((T6++[UInt8.ofNat ((8*n)/2^8)])).length cap114) 5 ((T6++[UInt8.ofNat ((8*n)/2^8)])).length 1 ((T6++[UInt8.ofNat ((8*n)/2^8)]).map bv):=Own.app ownx (by first|rfl|simp) (by first| (simp;done)| (simp;omega))
  replace hge_e:=ge_next hge_e hb116 (by omega)
  clear ownx g115 hb116 hsz
  clear rowx
  obtain⟨T7,hT7⟩:∃T:List UInt8,(T6++[UInt8.ofNat ((8*n)/2^8)])=T:=⟨_,rfl⟩
  rw[hT7] at own_e
  have hlT7:T7.length =T6.length +1:=by rw[←hT7];simp
  refine sE [(3,.slice ad113 (T6.length +1) cap114)] fun a hF=> ?_
  have hcan:(T6.length +1:Nat)=T7.length :=by first| (rw[←hT7];simp;done)| (simp;done)| (simp;omega)
  rw[hcan] at hF;clear hcan
  refine bK ?_
  refine tK ?_
  refine rP [(22,.int .i64 7)] hF fun a hF=> ?_
  refine tK (Cround.step ?_)
  refine qP [(23,.bool true)] hF fun a hF=> ?_
  refine cS ?_
  refine cT 23 hF ?_
  refine cN ?_
  refine tK ?_
  refine cS ?_
  refine cB 3 ?_
  refine qP [(4,.int .i64 7)] hF fun a hF=> ?_
  refine rS hF ?_
  refine tO 4 9 hm ?_
  refine t1 5 (.int .u64 ((8*n:Nat):Int)) (.int .u64 (IntKind.u64.wrap (8*((n:Nat):Int)))) (congrArg (Value.int .u64) (u64e (by omega) (by omega))) ?_
  refine t1 9 (.int .u64 (((8*n)/2^0:Nat):Int)) (.int .u64 (Int.fdiv ((8*n:Nat):Int) (2^0))) (congrArg (Value.int .u64) (fdivN (8*n) 0)) ?_
  refine t1 10 (bv (UInt8.ofNat ((8*n)/2^0))) (.int .u8 (IntKind.u8.wrap (((8*n)/2^0:Nat):Int))) (conv64 _) ?_
  refine tN 11 (.slice (some ⟨h117.size,0,none⟩) 1 1) #[bv (UInt8.ofNat ((8*n)/2^0))] 5 fun h118 g119 m120=> ?_
  have lt121:=blk_lt m120
  have zs122:=e0.size
  have zs123:=e1.size
  replace e0:=e0.ext g119
  replace e1:=e1.ext g119
  replace kt:=kt.ext g119
  replace own_e:=own_e.ext g119
  replace hm:=hm.x g119
  replace m3:=m3.x g119
  have rowx:=Row.blk (n:=1) (sz:=1) (l:=[bv (UInt8.ofNat ((8*n)/2^0))]) m120 rfl
  clear m120 lt121 zs122 zs123
  have hsz:=e1.size
  refine tF 12 (Does.append2 (t:=32) (E:=5) (sz:=1) (by_:=1) (n:=T7.length) (m:=1) (v:= .slice ad113 T7.length cap114) (x:= .slice (some ⟨h117.size,0,none⟩) 1 1) (xs:=T7.map bv) (ys:=([UInt8.ofNat ((8*n)/2^0)]).map bv) (by kernel_rfl) (by kernel_rfl) own_e rowx (ones_map _) (by unfold maxLen;first|omega| (simp only[List.length_append,List.length_cons,List.length_nil,List.length_replicate,zlen];omega)) (by first|omega| (simp only[List.length_append,List.length_cons,List.length_nil,List.length_replicate,zlen];omega))) ?_
  rintro _ h128 ⟨ad124,cap125,rfl,ownx,g126,hb127⟩
  rw[blkOf_slice] at g126 hb127
  replace e0:=e0.grew g126 (fun k hk=>by have:=hge_e k hk;omega)
  replace e1:=e1.grew g126 (fun k hk=>by have:=hge_e k hk;omega)
  replace kt:=kt.grew g126 (fun e=>by have:=hge_e _ e.symm;omega)
  replace hm:=hm.y g126 (fun e=>by have:=hge_e _ e.symm;omega)
  replace m3:=m3.y g126 (fun e=>by have:=hge_e _ e.symm;omega)
  replace own_e:Own h128 (.slice ad124 ((T7++[UInt8.ofNat ((8*n)/2^0)])).length cap125) 5 ((T7++[UInt8.ofNat ((8*n)/2^0)])).length 1 ((T7++[UInt8.ofNat ((8*n)/2^0)]).map bv):=Own.app ownx (by first|rfl|simp) (by first| (simp;done)| (simp;omega))
  replace hge_e:=ge_next hge_e hb127 (by omega)
  clear ownx g126 hb127 hsz
  clear rowx
  obtain⟨T8,hT8⟩:∃T:List UInt8,(T7++[UInt8.ofNat ((8*n)/2^0)])=T:=⟨_,rfl⟩
  rw[hT8] at own_e
  have hlT8:T8.length =T7.length +1:=by rw[←hT8];simp
  refine sE [(3,.slice ad124 (T7.length +1) cap125)] fun a hF=> ?_
  have hcan:(T7.length +1:Nat)=T8.length :=by first| (rw[←hT8];simp;done)| (simp;done)| (simp;omega)
  rw[hcan] at hF;clear hcan
  refine bK ?_
  refine tK ?_
  refine rP [(22,.int .i64 8)] hF fun a hF=> ?_
  refine tK (Cround.step ?_)
  refine qP [(23,.bool false)] hF fun a hF=> ?_
  refine cS ?_
  refine cF 23 hF ?_
  refine cX 2 (xT (xT (xB ?_)))
  refine tK ?_
  refine qS hF ?_
  refine tQ 3 0 [wv st.a,wv st.b,wv st.c,wv st.d,wv st.e,wv st.f,wv st.g,wv st.h] hm ?_
  have hne0:ad124.map (·.block)≠some (h128.size):=by intro e;have:=own_e.lt (k:=h128.size) (by rw[blkOf_slice];exact e);omega
  refine tN 4 (pV h128.size) #[.int .u32 0,.int .u32 0,.int .u32 0,.int .u32 0,.int .u32 0,.int .u32 0,.int .u32 0,.int .u32 0] 145 fun h129 g130 m131=> ?_
  have lt132:=blk_lt m131
  have zs133:=e0.size
  have zs134:=e1.size
  replace e0:=e0.ext g130
  replace e1:=e1.ext g130
  replace kt:=kt.ext g130
  replace own_e:=own_e.ext g130
  replace hm:=hm.x g130
  replace m3:=m3.x g130
  refine tV0 5 [wv st.a,wv st.b,wv st.c,wv st.d,wv st.e,wv st.f,wv st.g,wv st.h] m131 fun h135 g136 zq=> ?_
  replace e0:=e0.v g136
  replace e1:=e1.grew g136 (by rintro _ ⟨⟩;omega)
  replace kt:=kt.grew g136 (by simp;omega)
  replace own_e:=own_e.kept g136 (by rw[blkOf_slice];right;first|exact hne0| (intro e;have:=hge_e _ e;omega))
  replace hm:=hm.y g136
  replace m3:=m3.y g136
  replace m131:=zq
  refine sT [(5,pV h128.size)] fun a hF=> ?_
  refine cS ?_
  refine cB 4 ?_
  subst hT8 hT7 hT6 hT5 hT4 hT3 hT2 hT1 hT0
  have hpad:(((((((((r++[128]++List.replicate (zlen (r.length +1)) 0)++[UInt8.ofNat ((8*n)/2^56)])++[UInt8.ofNat ((8*n)/2^48)])++[UInt8.ofNat ((8*n)/2^40)])++[UInt8.ofNat ((8*n)/2^32)])++[UInt8.ofNat ((8*n)/2^24)])++[UInt8.ofNat ((8*n)/2^16)])++[UInt8.ofNat ((8*n)/2^8)])++[UInt8.ofNat ((8*n)/2^0)])=padded r n:=by simp[padded,lenB]
  rw[hpad] at hF own_e
  have hp0:=padded_len r n
  clear hpad
  refine cL (fun m a h'=>∃st':S8,∃e':List UInt8,∃ad':Option Addr,∃cap':Nat,m=e'.length ∧(Ext h h')∧(Ext h1 h')∧(Ktab h')∧(h'[h.size]? =some (.cells #[.int .u8 0,.int .u8 0,.int .u8 0,.int .u8 0,.int .u8 0,.int .u8 0,.int .u8 0,.int .u8 0,.int .u8 0,.int .u8 0,.int .u8 0,.int .u8 0,.int .u8 0,.int .u8 0,.int .u8 0,.int .u8 0,.int .u8 0,.int .u8 0,.int .u8 0,.int .u8 0,.int .u8 0,.int .u8 0,.int .u8 0,.int .u8 0,.int .u8 0,.int .u8 0,.int .u8 0,.int .u8 0,.int .u8 0,.int .u8 0,.int .u8 0,.int .u8 0] 39))∧(run st' e'=run st (padded r n))∧(e'.length %64=0)∧(h'[h128.size]? =some (.cells #[wv st'.a,wv st'.b,wv st'.c,wv st'.d,wv st'.e,wv st'.f,wv st'.g,wv st'.h] 145))∧(Own h' (.slice ad' e'.length cap') 5 e'.length 1 (e'.map bv))∧(∀k,ad'.map (·.block)=some k→h1.size ≤k)∧(ad'.map (·.block)≠some (h128.size))∧(Fr a 54 [(2,.pointer (some ⟨h.size,0,none⟩)),(3,.slice ad' e'.length cap'),(5,.pointer (some ⟨h128.size,0,none⟩))])) ((padded r n).length) ⟨st,(padded r n),ad124,cap125,rfl,e0,e1,kt,m3,rfl,hp0,m131,own_e,hge_e,hne0,hF.to⟩ ?_
  clear hF a
  clear e0
  clear e1
  clear kt
  clear m3
  clear hp0
  clear m131
  clear own_e
  clear hge_e
  clear hne0
  rintro m a h137 ⟨st',e',ad',cap',rfl,e0,e1,kt,m3,hi,hmod,m5,own_e,hge_e,hne,hF⟩
  refine cS ?_
  refine qP [(45,.bool (decide ((0:Int)<((e'.length :Nat):Int))))] hF fun a hF=> ?_
  refine cJ 45 hF (fun hc138=> ?_) fun hc138=> ?_
  ·skip
   have hl:64≤e'.length :=by omega
   obtain⟨gb,off,rfl,hcap⟩:=own_e.some_at (by omega)
   refine cN ?_
   refine tK ?_
   refine cB 5 ?_
   refine cS ?_
   refine cD [0,0,2,7,15] 12 mixed hF ?_
   refine mR 1 1 0 m5 ?_
   refine mP 3 [1] [.slice (some ⟨gb,off,none⟩) e'.length cap'] ?_
   refine mF 7 2 (.slice (some ⟨gb,off,none⟩) 64 cap') (fun h=>Calm.sliceO (a:=(some ⟨gb,off,none⟩)) (len:=e'.length) (cap:=cap') (sz:=1) (x:=(some ⟨gb,off,none⟩)) 0 64 cap' 64 cap' (by kernel_rfl) (.inl ⟨rfl,rfl⟩) (.inr rfl) (.inl ⟨rfl,rfl⟩) (by omega) (by omega) (some_add0 _) (by first|rfl|omega) (by first|rfl|omega) h) ?_
   refine mG0 15 15 3 (piece_sat _ st' ⟨gb,off,none⟩ cap' (e'.take 64) (pre64 own_e hl) kt) ?_
   rintro _ h139 ⟨rfl,g⟩
   replace e0:=e0.ext g
   replace e1:=e1.ext g
   replace kt:=kt.ext g
   replace own_e:=own_e.ext g
   replace m3:=m3.x g
   replace m5:=m5.x g
   clear g
   refine mV 31 31 4 0 [wv ((piece st' (e'.take 64)).a),wv ((piece st' (e'.take 64)).b),wv ((piece st' (e'.take 64)).c),wv ((piece st' (e'.take 64)).d),wv ((piece st' (e'.take 64)).e),wv ((piece st' (e'.take 64)).f),wv ((piece st' (e'.take 64)).g),wv ((piece st' (e'.take 64)).h)] [wv ((piece st' (e'.take 64)).a),wv ((piece st' (e'.take 64)).b),wv ((piece st' (e'.take 64)).c),wv ((piece st' (e'.take 64)).d),wv ((piece st' (e'.take 64)).e),wv ((piece st' (e'.take 64)).f),wv ((piece st' (e'.take 64)).g),wv ((piece st' (e'.take 64)).h)] m5 fun h140 g141 zq=> ?_
   replace e0:=e0.v g141
   replace e1:=e1.grew g141 (by rintro _ ⟨⟩;omega)
   replace kt:=kt.grew g141 (by simp;omega)
   replace own_e:=own_e.kept g141 (by rw[blkOf_slice];right;first|exact hne| (intro e;have:=hge_e _ e;omega))
   replace m3:=m3.y g141
   replace m5:=zq
   refine mE [] fun a hF=> ?_
   refine tK ?_
   refine rS hF ?_
   obtain⟨ad2,had2⟩:∃x,x=if cap'=64 then (some ⟨gb,off,none⟩:Option Addr) else (some ⟨gb,off,none⟩:Option Addr).map (·.add (64*1)):=⟨_,rfl⟩
   have own_2:=own_e.drop 64 hl
   rw[←had2] at own_2
   refine tC 1 (.slice ad2 (e'.length - 64) (cap' - 64)) ((fun h=>Calm.sliceO (a:=(some ⟨gb,off,none⟩)) (len:=e'.length) (cap:=cap') (sz:=1) (x:=ad2) 64 e'.length cap' (e'.length - 64) (cap' - 64) (by kernel_rfl) (.inl ⟨rfl,rfl⟩) (.inl ⟨rfl,rfl⟩) (.inr rfl) (by omega) (by omega) had2 (by first|rfl|omega) (by first|rfl|omega) h) _) ?_
   refine sE [(3,.slice ad2 (e'.length - 64) (cap' - 64))] fun a hF=> ?_
   have e64:e'.length - 64=(e'.drop 64).length :=by simp
   rw[Nat.mul_one,←List.map_drop] at own_2
   rw[e64] at hF own_2
   refine bK ?_
   show ∃m',m'<_∧_
   refine⟨_,?_,(piece st' (e'.take 64)),(e'.drop 64),ad2,(cap' - 64),rfl,e0,e1,kt,m3,(by rw[←hi,run_step hl]),(by rw[List.length_drop];omega),m5,own_2,(by intro k hk;rw[blk_drop had2] at hk;exact hge_e k hk),(by rw[blk_drop had2];exact hne),hF.to⟩
   omega
  ·skip
   refine cX 4 (xT (xT (xB ?_)))
   refine tK ?_
   refine qS hF ?_
   refine tR 0 m5 ?_
   refine tG 1 (told_sat _ st') ?_
   rintro _ h142 ⟨rfl,g⟩
   replace e0:=e0.ext g
   replace e1:=e1.ext g
   replace kt:=kt.ext g
   replace own_e:=own_e.ext g
   replace m3:=m3.x g
   replace m5:=m5.x g
   clear g
   have est:st'=run st (padded r n):=by rw[←hi,run_end (by omega)]
   refine tV 2 0 ((told st').map bv) ((told st').map bv) m3 (fun h143 g144 zq=> ?_) (h1:=(ones_map _))
   replace e0:=e0.v g144
   clear e1
   replace kt:=kt.grew g144 (by simp;omega)
   replace own_e:=own_e.kept g144 (by rw[blkOf_slice];right;intro e;have:=hge_e _ e;omega)
   replace m5:=m5.y g144
   replace m3:=zq
   refine sT [] fun a hF=> ?_
   refine cR ?_
   refine ret_ok [.cell 2 39] [.agg (((told st').map bv).toArray)] (.agg (((told st').map bv).toArray)) rfl hF ⟨⟨_,rfl,Loads.all (vs:=(told st').map bv) (by kernel_rfl) m3⟩,trivial⟩ rfl ?_
   exact⟨by rw[est];rfl,e0⟩
end Go.Proofs.YtegkejcglfgpmaaGreatDoor
end
