/- A small program logic over heaps: a frame is told by its live slots; one rule serves a region in whatever order it is drawn; a law an operation. No condition. -/
import Derived.Orders
import Derived.Below
import Derived.KernelRfl
import Derived.Laws.AppendOwn
import Derived.LoopN
import Derived.Laws.Cells
import Derived.Test.YtlghdimpgfhmcaaRows
namespace Go.Lane
open Go

abbrev Heap := Array Obj

structure Same (w w' : World) : Prop where
  os : w'.os = w.os
  tape : w'.tape = w.tape
  output : w'.output = w.output
theorem Same.refl (w : World) : Same w w := ⟨rfl, rfl, rfl⟩
theorem Same.trans {a b c : World} (h : Same a b) (k : Same b c) : Same a c := ⟨k.os.trans h.os, k.tape.trans h.tape, k.output.trans h.output⟩

/-- the contract of a call, over heaps -/
def Sat (P : Program) (f : FuncId) (args : Array Value) (h : Heap) (R : Value → Heap → Prop) : Prop :=
  ∀ w : World, w.heap = h → Calls P f args w fun e w' => ∃ v, e = .returned v ∧ Same w w' ∧ R v w'.heap

theorem Sat.mono {P : Program} {f : FuncId} {args : Array Value} {h : Heap} {R R' : Value → Heap → Prop} (s : Sat P f args h R) (hr : ∀ v h', R v h' → R' v h') : Sat P f args h R' :=
  fun w hw => (s w hw).mono fun _ _ ⟨v, e, sm, r⟩ => ⟨v, e, sm, hr _ _ r⟩

def lk : List (Nat × Value) → Nat → Value → Value
  | [], _, d => d
  | (k, v) :: r, i, d => match Nat.beq k i with
    | true => v
    | false => lk r i d

/-- what is known of a frame -/
structure Fr (a : Act) (n : Nat) (L : List (Nat × Value)) : Prop where
  defers : a.defers = []
  size : a.tmps.size = n
  get : ∀ t, a.tmps.getD t undef = lk L t (a.tmps.getD t undef)

def ev (base : Nat → Value) : Operand → Value
  | .tmp t => base t
  | .const v => v
  | .global g => .pointer (some ⟨g, 0, none⟩)
  | .func f => .func (.func f) #[] #[]

def dst (ops : Array Oper) (i : Nat) : Option Tmp := (ops[i]?).bind (·.dst)

def lastP (p : Nat → Bool) : Nat → Option Nat
  | 0 => none
  | k + 1 => match p k with
    | true => some k
    | false => lastP p k

theorem lastP_some {p : Nat → Bool} : ∀ {k i : Nat}, lastP p k = some i → i < k ∧ p i = true ∧ ∀ j, i < j → j < k → p j = false
  | 0, _, h => by simp [lastP] at h
  | k + 1, i, h => by
    unfold lastP at h
    split at h
    · rename_i hp
      obtain rfl : k = i := by simpa using h
      exact ⟨by omega, hp, fun j h1 h2 => by omega⟩
    · rename_i hp
      obtain ⟨h1, h2, h3⟩ := lastP_some h
      refine ⟨by omega, h2, fun j h4 h5 => ?_⟩
      by_cases e : j = k
      · subst e; exact hp
      · exact h3 j h4 (by omega)
theorem lastP_none {p : Nat → Bool} : ∀ {k : Nat}, lastP p k = none → ∀ j, j < k → p j = false
  | 0, _, j, hj => by omega
  | k + 1, h, j, hj => by
    unfold lastP at h
    split at h
    · simp at h
    · rename_i hp
      by_cases e : j = k
      · subst e; exact hp
      · exact lastP_none h j (by omega)
theorem lastP_eq_some {p : Nat → Bool} {k i : Nat} (h1 : i < k) (h2 : p i = true) (h3 : ∀ j, i < j → j < k → p j = false) : lastP p k = some i := by
  cases h : lastP p k with
  | none => have := lastP_none h i h1; simp [h2] at this
  | some j =>
    obtain ⟨a, b, c⟩ := lastP_some h
    rcases Nat.lt_trichotomy i j with hl | he | hl
    · have := h3 j hl a; simp [b] at this
    · rw [he]
    · have := c i hl h1; simp [h2] at this
theorem lastP_eq_none {p : Nat → Bool} {k : Nat} (h : ∀ j, j < k → p j = false) : lastP p k = none := by
  cases e : lastP p k with
  | none => rfl
  | some j => obtain ⟨a, b, _⟩ := lastP_some e; have := h j a; simp [b] at this

abbrev Vals := Nat → Value
def vset (vals : Vals) (i : Nat) (v : Value) : Vals := fun k => match Nat.beq k i with | true => v | false => vals k
theorem vset_same (vals : Vals) (i : Nat) (v : Value) : vset vals i v i = v := by simp [vset]
theorem vset_ne {vals : Vals} {i k : Nat} {v : Value} (h : k ≠ i) : vset vals i v k = vals k := by
  have : Nat.beq k i = false := by
    cases e : Nat.beq k i with
    | false => rfl
    | true => exact absurd (Nat.eq_of_beq_eq_true e) h
  simp [vset, this]

/-- what operation j sees in slot t: the last of those ahead of it (in the text) that writes it, else what the frame had -/
def slotE (ops : Array Oper) (base : Nat → Value) (vals : Vals) (j t : Nat) : Value :=
  match lastP (fun i => dst ops i == some t) j with
  | some i => vals i
  | none => base t
/-- what stands in slot t when those in s have come up -/
def slotS (ops : Array Oper) (base : Nat → Value) (vals : Vals) (s : Nat → Bool) (t : Nat) : Value :=
  match lastP (fun i => s i && dst ops i == some t) ops.size with
  | some i => vals i
  | none => base t
def env (ops : Array Oper) (base : Nat → Value) (vals : Vals) (j : Nat) : Operand → Value := ev (slotE ops base vals j)

def wantedE (ops : Array Oper) (e : Operand → Value) (o : Oper) : Bool :=
  match o.guard with
  | none => true
  | some (g, want) => (match dst ops g with
    | some t => (match e (.tmp t) with | .bool b => some b | _ => none)
    | none => none) == some want

/-- one operation, run on any world with this heap -/
def EffU (P : Program) (e : Operand → Value) (o : Oper) (h : Heap) (R : Value → Heap → Prop) : Prop :=
  ∀ w : World, w.heap = h → match (execOp e o).run P w with
    | .ok (.value v) w' => Same w w' ∧ R v w'.heap
    | .ok .skip w' => Same w w' ∧ R undef w'.heap
    | .ok (.enter f args) w' => Same w w' ∧ Sat P f args w'.heap R
    | _ => False
def CalmU (P : Program) (e : Operand → Value) (o : Oper) (h : Heap) (v : Value) : Prop := EffU P e o h fun v' h' => v' = v ∧ h' = h

def Good (P : Program) (ops : Array Oper) (base : Nat → Value) (vals : Vals) (h : Heap) (j : Nat) : Prop :=
  ∃ o, ops[j]? = some o ∧ ((wantedE ops (env ops base vals j) o = true ∧ CalmU P (env ops base vals j) o h (vals j)) ∨
    (wantedE ops (env ops base vals j) o = false ∧ vals j = undef))

/-- the closed facts about a region -/
def anc (A : List Nat) (j : Nat) : Nat := A.getD j 0
def edgesOk (A : List Nat) (j : Nat) (o : Oper) : Bool :=
  let es := o.after.toList.filter fun e => Region.binds .any e
  es.all (fun e => Nat.blt e.on j) &&
  (let u := es.foldl (fun m e => m ||| 2 ^ e.on ||| anc A e.on) 0
   anc A j == u)
def pairOk (ops : Array Oper) (A : List Nat) (j : Nat) (oj : Oper) : Nat → List Oper → Bool
  | _, [] => true
  | i, oi :: r => (Nat.ble j i || oi.apart ops oj || (anc A j).testBit i) && pairOk ops A j oj (i + 1) r
def opsOk (ops : Array Oper) (A : List Nat) (n : Nat) : Nat → List Oper → Bool
  | _, [] => true
  | j, o :: r => edgesOk A j o && pairOk ops A j o 0 ops.toList && (match o.dst with | some d => Nat.blt d n | none => true) &&
      (match o.op with | .select .. => false | _ => true) && opsOk ops A n (j + 1) r
def regOk (ops : Array Oper) (A : List Nat) (n : Nat) : Bool := opsOk ops A n 0 ops.toList

structure OpsOk (ops : Array Oper) (A : List Nat) (n : Nat) (j : Nat) (o : Oper) : Prop where
  edge : ∀ e ∈ o.after, Region.binds .any e = true → e.on < j
  up : ∀ i, (anc A j).testBit i = true → ∃ e ∈ o.after, Region.binds .any e = true ∧ (e.on = i ∨ (anc A e.on).testBit i = true)
  has : ∀ e ∈ o.after, Region.binds .any e = true → (anc A j).testBit e.on = true
  pair : ∀ i oi, ops[i]? = some oi → i < j → oi.apart ops o = true ∨ (anc A j).testBit i = true
  dst : ∀ d, o.dst = some d → d < n
  sel : ∀ cs b, o.op ≠ .select cs b

theorem foldl_or_bit (A : List Nat) (i : Nat) : ∀ (es : List Edge) (m : Nat),
    (es.foldl (fun m e => m ||| 2 ^ e.on ||| anc A e.on) m).testBit i = true → m.testBit i = true ∨ ∃ e ∈ es, e.on = i ∨ (anc A e.on).testBit i = true
  | [], m, h => .inl h
  | e :: es, m, h => by
    rcases foldl_or_bit A i es _ h with h | ⟨e', he, h⟩
    · simp only [Nat.testBit_or, Nat.testBit_two_pow, Bool.or_eq_true, decide_eq_true_eq] at h
      rcases h with (h | h) | h
      · exact .inl h
      · exact .inr ⟨e, List.mem_cons_self, .inl h⟩
      · exact .inr ⟨e, List.mem_cons_self, .inr h⟩
    · exact .inr ⟨e', List.mem_cons_of_mem _ he, h⟩

theorem foldl_or_keeps (A : List Nat) (i : Nat) : ∀ (es : List Edge) (m : Nat), m.testBit i = true → (es.foldl (fun m e => m ||| 2 ^ e.on ||| anc A e.on) m).testBit i = true
  | [], _, h => h
  | _ :: es, _, h => foldl_or_keeps A i es _ (by simp [Nat.testBit_or, h])
theorem foldl_or_has (A : List Nat) : ∀ (es : List Edge) (m : Nat) (e : Edge), e ∈ es → (es.foldl (fun m e => m ||| 2 ^ e.on ||| anc A e.on) m).testBit e.on = true
  | e' :: es, m, e, h => by
    rcases List.mem_cons.1 h with h | h
    · subst h; exact foldl_or_keeps A e.on es _ (by simp [Nat.testBit_or])
    · exact foldl_or_has A es _ e h

theorem edgesOk_spec {A : List Nat} {j : Nat} {o : Oper} (h : edgesOk A j o = true) :
    (∀ e ∈ o.after, Region.binds .any e = true → e.on < j) ∧
    (∀ i, (anc A j).testBit i = true → ∃ e ∈ o.after, Region.binds .any e = true ∧ (e.on = i ∨ (anc A e.on).testBit i = true)) ∧
    (∀ e ∈ o.after, Region.binds .any e = true → (anc A j).testBit e.on = true) := by
  simp only [edgesOk, Bool.and_eq_true, beq_iff_eq] at h
  obtain ⟨h1, h2⟩ := h
  refine ⟨?_, ?_, fun e he hb => by rw [h2]; exact foldl_or_has A _ 0 e (List.mem_filter.2 ⟨by simpa using he, hb⟩)⟩
  · intro e he hb
    have := List.all_eq_true.1 h1 e (List.mem_filter.2 ⟨by simpa using he, hb⟩)
    simpa using this
  · intro i hi
    have h3 := hi
    rw [h2] at h3
    rcases foldl_or_bit A i _ _ h3 with h3 | ⟨e, he, h3⟩
    · simp at h3
    · obtain ⟨h4, h5⟩ := List.mem_filter.1 he
      exact ⟨e, by simpa using h4, h5, h3⟩

theorem pairOk_spec {ops : Array Oper} {A : List Nat} {j : Nat} {oj : Oper} : ∀ {l : List Oper} {k : Nat}, (∀ i, l[i]? = ops[k + i]?) → pairOk ops A j oj k l = true →
    ∀ i oi, k ≤ i → ops[i]? = some oi → i < j → oi.apart ops oj = true ∨ (anc A j).testBit i = true
  | [], k, hl, _, i, oi, hk, hi, _ => by
    have := hl (i - k); rw [show k + (i - k) = i by omega, hi] at this; simp at this
  | o :: l, k, hl, h, i, oi, hk, hi, hij => by
    simp only [pairOk, Bool.and_eq_true] at h
    by_cases e : i = k
    · subst e
      have h0 : some o = ops[i]? := by simpa using hl 0
      rw [hi] at h0
      obtain rfl : o = oi := Option.some.inj h0
      have h1 := h.1
      simp only [Bool.or_eq_true, Nat.ble_eq] at h1
      rcases h1 with (h1 | h1) | h1
      · omega
      · exact .inl h1
      · exact .inr h1
    · exact pairOk_spec (l := l) (k := k + 1) (fun q => by have := hl (q + 1); simpa [Nat.add_assoc, Nat.add_comm 1 q] using this) h.2 i oi (by omega) hi hij

theorem opsOk_spec {ops : Array Oper} {A : List Nat} {n : Nat} : ∀ {l : List Oper} {k : Nat}, (∀ i, l[i]? = ops[k + i]?) → opsOk ops A n k l = true →
    ∀ j o, k ≤ j → ops[j]? = some o → OpsOk ops A n j o
  | [], k, hl, _, i, oi, hk, hi => by
    have := hl (i - k); rw [show k + (i - k) = i by omega, hi] at this; simp at this
  | o :: l, k, hl, h, j, oj, hk, hj => by
    simp only [opsOk, Bool.and_eq_true] at h
    obtain ⟨⟨⟨⟨h1, h2⟩, h3⟩, h4⟩, h5⟩ := h
    by_cases e : j = k
    · subst e
      have h0 : some o = ops[j]? := by simpa using hl 0
      rw [hj] at h0
      obtain rfl : o = oj := Option.some.inj h0
      obtain ⟨e1, e2, e3⟩ := edgesOk_spec h1
      refine ⟨e1, e2, e3, fun i oi hi hij => pairOk_spec (l := ops.toList) (k := 0) (fun q => by simp) h2 i oi (by omega) hi hij, fun d hd => ?_, fun cs b hs => ?_⟩
      · rw [hd] at h3; simpa using h3
      · rw [hs] at h4; simp at h4
    · exact opsOk_spec (l := l) (k := k + 1) (fun q => by have := hl (q + 1); simpa [Nat.add_assoc, Nat.add_comm 1 q] using this) h5 j oj (by omega) hj

theorem regOk_spec {ops : Array Oper} {A : List Nat} {n : Nat} (h : regOk ops A n = true) {j : Nat} {o : Oper} (ho : ops[j]? = some o) : OpsOk ops A n j o :=
  opsOk_spec (l := ops.toList) (k := 0) (fun i => by simp) h j o (by omega) ho

end Go.Lane

namespace Go.Lane
open Go

theorem lastP_ext {p q : Nat → Bool} : ∀ {k : Nat}, (∀ i, i < k → p i = q i) → lastP p k = lastP q k
  | 0, _ => rfl
  | k + 1, h => by
    unfold lastP
    rw [h k (by omega), lastP_ext (k := k) fun i hi => h i (by omega)]
theorem lastP_cut {p : Nat → Bool} {j : Nat} : ∀ {k : Nat}, j ≤ k → (∀ i, j ≤ i → i < k → p i = false) → lastP p k = lastP p j
  | 0, hj, _ => by obtain rfl : j = 0 := by omega
                   rfl
  | k + 1, hj, h => by
    by_cases e : j = k + 1
    · rw [e]
    · conv => lhs; unfold lastP
      rw [h k (by omega) (by omega)]
      exact lastP_cut (k := k) (by omega) fun i h1 h2 => h i h1 (by omega)

section
variable {P : Program} {ops : Array Oper} {A : List Nat} {n : Nat} {base : Nat → Value}

abbrev Lst (listed : Array Bool) (i : Nat) : Bool := listed.getD i false

def ClosedL (ops : Array Oper) (L : Nat → Bool) : Prop := ∀ j o, ops[j]? = some o → L j = true → ∀ e ∈ o.after, Region.binds .any e = true → L e.on = true

theorem anc_listed (hok : regOk ops A n = true) {L : Nat → Bool} (hc : ClosedL ops L) : ∀ (m j : Nat) (o : Oper), j ≤ m → ops[j]? = some o →
    (∀ e ∈ o.after, Region.binds .any e = true → L e.on = true) → ∀ i, (anc A j).testBit i = true → L i = true
  | m, j, o, hm, ho, hp, i, hi => by
    obtain ⟨e, he, hb, h⟩ := (regOk_spec hok ho).up i hi
    have hlt := (regOk_spec hok ho).edge e he hb
    rcases h with h | h
    · exact h ▸ hp e he hb
    · have hj := (Array.getElem?_eq_some_iff.1 ho).1
      obtain ⟨oe, hoe⟩ : ∃ oe, ops[e.on]? = some oe := ⟨_, Array.getElem?_eq_getElem (by omega)⟩
      match m, hm with
      | 0, hm => omega
      | m + 1, hm => exact anc_listed hok hc m e.on oe (by omega) hoe (fun e' he' hb' => hc e.on oe hoe (hp e he hb) e' he' hb') i h

theorem apart_false_of_write_look {x y : Oper} {d : Nat} (hx : x.dst = some d) (hy : d ∈ y.looksAt ops) : x.apart ops y = false := by
  cases h : x.apart ops y with
  | false => rfl
  | true => exact absurd hy ((Oper.apart_spec h).1 d hx)
theorem apart_false_of_look_write {x y : Oper} {d : Nat} (hx : y.dst = some d) (hy : d ∈ x.looksAt ops) : x.apart ops y = false := by
  cases h : x.apart ops y with
  | false => rfl
  | true => exact absurd hy ((Oper.apart_spec h).2.2 d hx)
theorem apart_false_of_write_write {x y : Oper} {d : Nat} (hx : x.dst = some d) (hy : y.dst = some d) : x.apart ops y = false := by
  cases h : x.apart ops y with
  | false => rfl
  | true => exact absurd hy ((Oper.apart_spec h).2.1 d hx)

theorem dst_eq {i : Nat} {o : Oper} (ho : ops[i]? = some o) : dst ops i = o.dst := by simp [dst, ho]
theorem op_of_dst {i t : Nat} (h : (dst ops i == some t) = true) : ∃ o, ops[i]? = some o ∧ o.dst = some t := by
  simp only [beq_iff_eq] at h
  unfold dst at h
  cases ho : ops[i]? with
  | none => simp [ho] at h
  | some o => exact ⟨o, rfl, by simpa [ho] using h⟩

/-- what an operation that is ready sees is what the text's order would show -/
theorem slot_ready (hok : regOk ops A n = true) {vals : Vals} {L : Nat → Bool} (hc : ClosedL ops L) {j : Nat} {o : Oper} (ho : ops[j]? = some o) (hn : L j = false)
    (hp : ∀ e ∈ o.after, Region.binds .any e = true → L e.on = true) {t : Nat} (ht : t ∈ o.looksAt ops) : slotS ops base vals L t = slotE ops base vals j t := by
  have hj := (Array.getElem?_eq_some_iff.1 ho).1
  have hup := anc_listed hok hc j j o (Nat.le_refl _) ho hp
  have h1 : ∀ i, j ≤ i → i < ops.size → (L i && dst ops i == some t) = false := by
    intro i hi hs
    cases hL : L i with
    | false => rfl
    | true =>
      cases hd : (dst ops i == some t) with
      | false => rfl
      | true =>
        exfalso
        obtain ⟨oi, hoi, hd'⟩ := op_of_dst hd
        have hne : i ≠ j := fun e => by rw [e, hn] at hL; cases hL
        rcases (regOk_spec hok hoi).pair j o ho (by omega) with h | h
        · rw [apart_false_of_look_write hd' ht] at h; cases h
        · have := anc_listed hok hc i i oi (Nat.le_refl _) hoi (fun e he hb => hc i oi hoi hL e he hb) j h
          rw [hn] at this; cases this
  have h2 : ∀ i, i < j → (L i && dst ops i == some t) = (dst ops i == some t) := by
    intro i hi
    cases hd : (dst ops i == some t) with
    | false => simp
    | true =>
      obtain ⟨oi, hoi, hd'⟩ := op_of_dst hd
      rcases (regOk_spec hok ho).pair i oi hoi hi with h | h
      · rw [apart_false_of_write_look hd' ht] at h; cases h
      · rw [hup i h]; rfl
  unfold slotS slotE
  rw [lastP_cut (p := fun i => L i && dst ops i == some t) (Nat.le_of_lt hj) h1, lastP_ext h2]

structure SimSt (ops : Array Oper) (n : Nat) (base : Nat → Value) (P : Program) (w0 : World) (D X Wd : Nat) (vals : Vals) (h : Heap) (listed : Array Bool) (a : Act) (w : World) : Prop where
  size : listed.size = ops.size
  sub : ∀ i, Lst listed i = true → D.testBit i = true
  sup : ∀ i, i < ops.size → X.testBit i = true → Lst listed i = true
  closed : ClosedL ops (Lst listed)
  defers : a.defers = []
  tsize : a.tmps.size = n
  frame : ∀ t, a.tmps.getD t undef = slotS ops base vals (Lst listed) t
  pend : ∀ j, j < ops.size → D.testBit j = true → Lst listed j = false → (Wd.testBit j = true → Good P ops base vals h j) ∧ (Wd.testBit j = false → ∀ h', Good P ops base vals h' j)
  heap : w.heap = h
  same : Same w0 w

def unl (listed : Array Bool) : Nat := listed.countP (fun b => !b)

def Sim (P : Program) (ops : Array Oper) (A : List Nat) (n : Nat) (base : Nat → Value) (w0 : World) (Q : Exit → Act → World → Prop) (D X Wd : Nat) (vals : Vals) (h : Heap) : Prop :=
  regOk ops A n = true → ClosedL ops (fun i => D.testBit i) → ∀ fuel listed a w, SimSt ops n base P w0 D X Wd vals h listed a w → unl listed ≤ fuel → wpAny P .any ops Q fuel listed a w

theorem eval_ready (hok : regOk ops A n = true) {vals : Vals} {a : Act} {L : Nat → Bool} (hc : ClosedL ops L) (hf : ∀ t, a.tmps.getD t undef = slotS ops base vals L t) {j : Nat} {o : Oper} (ho : ops[j]? = some o) (hn : L j = false)
    (hp : ∀ e ∈ o.after, Region.binds .any e = true → L e.on = true) :
    execOp a.eval o = execOp (env ops base vals j) o ∧ Region.wanted o (yielded ops a.tmps) = wantedE ops (env ops base vals j) o := by
  constructor
  · refine execOp_congr o (regOk_spec hok ho).sel fun x hx => ?_
    cases x with
    | tmp t =>
      show a.tmps.getD t undef = slotE ops base vals j t
      rw [hf t]
      exact slot_ready hok hc ho hn hp (List.mem_append_left _ (List.mem_filterMap.2 ⟨.tmp t, by simpa using hx, rfl⟩))
    | const v => rfl
    | global g => rfl
    | func f => rfl
  · unfold Region.wanted wantedE
    cases hg : o.guard with
    | none => rfl
    | some gw =>
      obtain ⟨g, want⟩ := gw
      simp only
      congr 1
      unfold yielded
      cases hd : (ops[g]?).bind (·.dst) with
      | none => simp [dst, hd]
      | some t =>
        have h1 := slot_ready (base := base) (vals := vals) hok hc ho hn hp (t := t) (List.mem_append_right _ (by simp [hg, hd]))
        have h2 : env ops base vals j (.tmp t) = a.tmps.getD t undef := by rw [hf t]; exact h1.symm
        simp only [dst, hd, h2, Option.bind_some]
        cases ht : a.tmps[t]? with
        | none => simp [ht, undef]
        | some v => cases v <;> simp [ht]

theorem Lst_set {listed : Array Bool} {i k : Nat} (hi : i < listed.size) : Lst (listed.setIfInBounds i true) k = (Lst listed k || decide (k = i)) := by
  by_cases e : k = i
  · subst e; simp [Lst, hi]
  · simp [Lst, Array.getElem?_setIfInBounds_ne (Ne.symm e), e]

theorem unl_set {listed : Array Bool} {i : Nat} (hi : i < listed.size) (hn : Lst listed i = false) : unl (listed.setIfInBounds i true) + 1 = unl listed := by
  unfold unl
  have hv : listed[i] = false := by simpa [Lst, hi] using hn
  have hs : listed.setIfInBounds i true = listed.set i true hi := by simp [Array.setIfInBounds, hi]
  have hpos : 0 < listed.countP (fun b => !b) := Array.countP_pos_iff.2 ⟨listed[i], Array.getElem_mem hi, by simp [hv]⟩
  rw [hs, Array.countP_set hi]
  simp [hv]
  omega

/-- the frame behind an operation -/
theorem frame_put (hok : regOk ops A n = true) {vals : Vals} {a : Act} {L L' : Nat → Bool} (hc : ClosedL ops L) (hf : ∀ t, a.tmps.getD t undef = slotS ops base vals L t) (hts : a.tmps.size = n)
    {j : Nat} {o : Oper} (ho : ops[j]? = some o) (hn : L j = false) (hL : ∀ k, L' k = (L k || decide (k = j))) (t : Nat) :
    (a.put o.dst (vals j)).tmps.getD t undef = slotS ops base vals L' t := by
  have hj := (Array.getElem?_eq_some_iff.1 ho).1
  have same : ∀ t, o.dst ≠ some t → slotS ops base vals L' t = slotS ops base vals L t := by
    intro t ht
    unfold slotS
    rw [lastP_ext (q := fun i => L i && dst ops i == some t)]
    intro i hi
    rw [hL]
    by_cases e : i = j
    · subst e
      have : (dst ops i == some t) = false := by rw [dst_eq ho]; simp [ht]
      simp [this]
    · simp [e]
  cases hd : o.dst with
  | none => rw [same t (by simp [hd]), ← hf t]; simp [Act.put]
  | some d =>
    have hdn := (regOk_spec hok ho).dst d hd
    by_cases e : t = d
    · subst e
      have hl : lastP (fun i => L' i && dst ops i == some t) ops.size = some j := by
        refine lastP_eq_some hj ?_ ?_
        · rw [hL, dst_eq ho, hd]; simp
        · intro i hi hs
          rw [hL]
          cases hLi : L i with
          | false => have : i ≠ j := by omega
                     simp [this]
          | true =>
            cases hdi : (dst ops i == some t) with
            | false => simp
            | true =>
              exfalso
              obtain ⟨oi, hoi, hd'⟩ := op_of_dst hdi
              rcases (regOk_spec hok hoi).pair j o ho hi with h | h
              · rw [apart_false_of_write_write hd hd'] at h; cases h
              · have := anc_listed hok hc i i oi (Nat.le_refl _) hoi (fun e he hb => hc i oi hoi hLi e he hb) j h
                rw [hn] at this; cases this
      unfold slotS
      rw [hl]
      simp [Act.put, hts, hdn]
    · rw [same t (by rw [hd]; simpa using fun h => e h.symm), ← hf t]
      simp [Act.put, Array.getElem?_setIfInBounds_ne (fun h => e h.symm : d ≠ t)]
end
end Go.Lane

namespace Go.Lane
open Go
section
variable {P : Program} {ops : Array Oper} {A : List Nat} {n : Nat} {base : Nat → Value} {w0 : World} {Q : Exit → Act → World → Prop} {D X Wd : Nat} {vals : Vals} {h : Heap}

theorem slotE_vset_self (vals : Vals) (i : Nat) (v : Value) : slotE ops base (vset vals i v) i = slotE ops base vals i := by
  funext t
  unfold slotE
  cases e : lastP (fun k => dst ops k == some t) i with
  | none => rfl
  | some k => have := (lastP_some e).1; simp only; exact vset_ne (by omega)
theorem env_vset_self (vals : Vals) (i : Nat) (v : Value) : env ops base (vset vals i v) i = env ops base vals i := by
  unfold env; rw [slotE_vset_self]

theorem slotE_vset_other (hok : regOk ops A n = true) {i j : Nat} {v : Value} {o : Oper} (ho : ops[j]? = some o) (hna : (anc A j).testBit i = false) {t : Nat} (ht : t ∈ o.looksAt ops) :
    slotE ops base (vset vals i v) j t = slotE ops base vals j t := by
  unfold slotE
  cases e : lastP (fun k => dst ops k == some t) j with
  | none => rfl
  | some k =>
    simp only
    obtain ⟨h1, h2, _⟩ := lastP_some e
    refine vset_ne fun hk => ?_
    subst hk
    obtain ⟨ok, hok', hd⟩ := op_of_dst h2
    rcases (regOk_spec hok ho).pair k ok hok' h1 with h | h
    · rw [apart_false_of_write_look hd ht] at h; cases h
    · rw [hna] at h; cases h

theorem EffU_congr {e e' : Operand → Value} {o : Oper} {R : Value → Heap → Prop} (he : execOp e o = execOp e' o) (hh : EffU P e o h R) : EffU P e' o h R := by
  unfold EffU at *; rwa [he] at hh

theorem env_looks (hok : regOk ops A n = true) {e e' : Operand → Value} {j : Nat} {o : Oper} (ho : ops[j]? = some o) (hc : ∀ v, e (.const v) = e' (.const v)) (hg : ∀ v, e (.global v) = e' (.global v)) (hf : ∀ v, e (.func v) = e' (.func v))
    (ht : ∀ t, t ∈ o.looksAt ops → e (.tmp t) = e' (.tmp t)) : execOp e o = execOp e' o ∧ wantedE ops e o = wantedE ops e' o := by
  constructor
  · refine execOp_congr o (regOk_spec hok ho).sel fun x hx => ?_
    cases x with
    | tmp t => exact ht t (List.mem_append_left _ (List.mem_filterMap.2 ⟨.tmp t, by simpa using hx, rfl⟩))
    | const v => exact hc v
    | global g => exact hg g
    | func f => exact hf f
  · unfold wantedE
    cases hg : o.guard with
    | none => rfl
    | some gw =>
      obtain ⟨g, want⟩ := gw
      simp only
      cases hd : dst ops g with
      | none => rfl
      | some t => simp only; rw [ht t (List.mem_append_right _ (by unfold dst at hd; simp [hg, hd]))]

theorem good_vset (hok : regOk ops A n = true) {i j : Nat} {v : Value} (hne : j ≠ i) (hna : (anc A j).testBit i = false) (hg : Good P ops base vals h j) : Good P ops base (vset vals i v) h j := by
  obtain ⟨o, ho, hg⟩ := hg
  obtain ⟨e1, e2⟩ := env_looks (e := env ops base vals j) (e' := env ops base (vset vals i v) j) hok ho (fun _ => rfl) (fun _ => rfl) (fun _ => rfl)
    (fun t ht => (slotE_vset_other (base := base) (vals := vals) (v := v) hok ho hna ht).symm)
  refine ⟨o, ho, ?_⟩
  rw [vset_ne hne, ← e2]
  exact hg.imp (fun ⟨a, b⟩ => ⟨a, EffU_congr e1 b⟩) id

theorem slotS_vset {L : Nat → Bool} {i : Nat} {v : Value} (hn : L i = false) (t : Nat) : slotS ops base (vset vals i v) L t = slotS ops base vals L t := by
  unfold slotS
  cases e : lastP (fun k => L k && dst ops k == some t) ops.size with
  | none => rfl
  | some k =>
    simp only
    have := (lastP_some e).2.1
    refine vset_ne fun hk => ?_
    subst hk
    simp [hn] at this

theorem wpOp_eff {i : Nat} {o : Oper} {a : Act} {w : World} {R : Value → Heap → Prop} {K : Act → World → Prop} {e : Operand → Value} (ho : ops[i]? = some o) (he : execOp a.eval o = execOp e o)
    (hw : Region.wanted o (yielded ops a.tmps) = true) (hh : w.heap = h) (hf : EffU P e o h R) (hK : ∀ v w', Same w w' → R v w'.heap → K (a.put o.dst v) w') : wpOp P ops Q i K a w := by
  unfold wpOp
  simp only [ho, hw, if_true]
  refine .inl ?_
  have := hf w hh
  unfold Oper.wp
  rw [he]
  generalize (execOp e o).run P w = r at this ⊢
  cases r with
  | halt x w' => exact this.elim
  | ok x w' =>
    cases x <;> simp only at this <;> simp only [Oper.upon] <;> first | exact this.elim | skip
    · exact hK _ _ this.1 this.2
    · exact hK _ _ this.1 this.2
    · refine (this.2 w' rfl).mono fun e w'' ⟨v, he, hs, hr⟩ => ?_
      subst he
      exact hK _ _ (this.1.trans hs) hr

theorem wpOp_skip {i : Nat} {o : Oper} {a : Act} {w : World} {K : Act → World → Prop} (ho : ops[i]? = some o)
    (hw : Region.wanted o (yielded ops a.tmps) = false) (hK : K (a.put o.dst undef) w) : wpOp P ops Q i K a w := by
  unfold wpOp
  simp only [ho, hw]
  exact hK

theorem closed_set {listed : Array Bool} {i : Nat} {o : Oper} (hc : ClosedL ops (Lst listed)) (hi : i < listed.size) (ho : ops[i]? = some o) (hp : ∀ e ∈ o.after, Region.binds .any e = true → Lst listed e.on = true) :
    ClosedL ops (Lst (listed.setIfInBounds i true)) := by
  intro j oj hj hl e he hb
  rw [Lst_set hi] at hl ⊢
  simp only [Bool.or_eq_true, decide_eq_true_eq] at hl ⊢
  rcases hl with hl | hl
  · exact .inl (hc j oj hj hl e he hb)
  · subst hl
    rw [ho] at hj
    obtain rfl : o = oj := Option.some.inj hj
    exact .inl (hp e he hb)

theorem exec_pending (hok : regOk ops A n = true) {listed : Array Bool} {a : Act} {w : World} (st : SimSt ops n base P w0 D X Wd vals h listed a w) {i : Nat} (hi : i ∈ Region.ready .any ops listed)
    (hD : D.testBit i = true) {K : Act → World → Prop} (hK : ∀ a' w', SimSt ops n base P w0 D X Wd vals h (listed.setIfInBounds i true) a' w' → K a' w') : wpOp P ops Q i K a w := by
  obtain ⟨hun, o, ho, hp⟩ := mem_ready.1 hi
  have hlt := (Array.getElem?_eq_some_iff.1 ho).1
  have hil : i < listed.size := by rw [st.size]; exact hlt
  have hnl : Lst listed i = false := by simpa [Lst, hil] using hun
  obtain ⟨he, hw⟩ := eval_ready hok st.closed st.frame ho hnl hp
  have hg : Good P ops base vals h i := by
    obtain ⟨h1, h2⟩ := st.pend i hlt hD hnl
    cases hW : Wd.testBit i with
    | true => exact h1 hW
    | false => exact h2 hW h
  obtain ⟨o', ho', hg⟩ := hg
  obtain rfl : o' = o := Option.some.inj (ho'.symm.trans ho)
  have next : ∀ w', Same w w' → w'.heap = h → SimSt ops n base P w0 D X Wd vals h (listed.setIfInBounds i true) (a.put o'.dst (vals i)) w' := fun w' hs hh =>
    { size := by simp [st.size]
      sub := fun k hk => by
        rw [Lst_set hil] at hk
        simp only [Bool.or_eq_true, decide_eq_true_eq] at hk
        rcases hk with hk | hk
        · exact st.sub k hk
        · exact hk ▸ hD
      sup := fun k hk hx => by rw [Lst_set hil, st.sup k hk hx]; rfl
      closed := closed_set st.closed hil ho hp
      defers := by cases hd : o'.dst <;> simp [Act.put, st.defers]
      tsize := by cases hd : o'.dst <;> simp [Act.put, st.tsize]
      frame := frame_put hok st.closed st.frame st.tsize ho hnl fun k => Lst_set hil
      pend := fun j hj hDj hl => st.pend j hj hDj (by rw [Lst_set hil] at hl; simp only [Bool.or_eq_false_iff] at hl; exact hl.1)
      heap := hh
      same := st.same.trans hs }
  rcases hg with ⟨hw', hc⟩ | ⟨hw', hv⟩
  · refine wpOp_eff ho he (hw.trans hw') st.heap hc fun v w' hs hr => ?_
    rw [hr.1]
    exact hK _ _ (next w' hs hr.2)
  · refine wpOp_skip ho (hw.trans hw') ?_
    rw [← hv]
    exact hK _ _ (next w (Same.refl w) st.heap)

theorem ready_nil_all (hok : regOk ops A n = true) {listed : Array Bool} (hs : listed.size = ops.size) (hr : Region.ready .any ops listed = []) : ∀ (i : Nat), i < ops.size → Lst listed i = true := by
  intro i
  induction i using Nat.strongRecOn with
  | _ i ih =>
    intro hi
    cases hl : Lst listed i with
    | true => rfl
    | false =>
      exfalso
      have ho : ops[i]? = some ops[i] := Array.getElem?_eq_getElem hi
      have : i ∈ Region.ready .any ops listed := mem_ready.2 ⟨by simp only [Lst] at hl; simpa [hs, hi] using hl, _, ho, fun e he hb => by
        have h1 := (regOk_spec hok ho).edge e he hb
        exact ih e.on h1 (by omega)⟩
      rw [hr] at this
      cases this

theorem unl_zero {listed : Array Bool} (h : unl listed ≤ 0) (i : Nat) (hi : i < listed.size) : Lst listed i = true := by
  unfold unl at h
  have h0 : listed.countP (fun b => !b) = 0 := by omega
  have := Array.countP_eq_zero.1 h0 listed[i] (Array.getElem_mem hi)
  simpa [Lst, hi] using this

theorem ready_unlisted {listed : Array Bool} {i : Nat} (hs : listed.size = ops.size) (hi : i ∈ Region.ready .any ops listed) : i < ops.size ∧ Lst listed i = false := by
  obtain ⟨hun, o, ho, _⟩ := mem_ready.1 hi
  have hlt := (Array.getElem?_eq_some_iff.1 ho).1
  exact ⟨hlt, by simpa [Lst, hs, hlt] using hun⟩

/-- all operations are accounted for -/
theorem Sim.done (hD : ∀ i, i < ops.size → D.testBit i = true)
    (hQ : ∀ a w, a.defers = [] → a.tmps.size = n → (∀ t, a.tmps.getD t undef = slotS ops base vals (fun _ => true) t) → Same w0 w → w.heap = h → Q .normal a w) :
    Sim P ops A n base w0 Q D X Wd vals h := by
  intro hok _ fuel
  have fin : ∀ listed a w, SimSt ops n base P w0 D X Wd vals h listed a w → (∀ i, i < ops.size → Lst listed i = true) → Q .normal a w := by
    intro listed a w st hall
    refine hQ a w st.defers st.tsize (fun t => ?_) st.same st.heap
    rw [st.frame t]
    unfold slotS
    rw [lastP_ext (q := fun i => true && dst ops i == some t)]
    intro i hi
    rw [hall i hi]
  induction fuel with
  | zero =>
    intro listed a w st hu
    have hall := fun i (hi : i < ops.size) => unl_zero hu i (by rw [st.size]; exact hi)
    refine ⟨List.eq_nil_iff_forall_not_mem.2 fun i hi => ?_, fin listed a w st hall⟩
    obtain ⟨h1, h2⟩ := ready_unlisted st.size hi
    rw [hall i h1] at h2; cases h2
  | succ fuel ih =>
    intro listed a w st hu
    refine ⟨fun hr => fin listed a w st (ready_nil_all hok st.size hr), fun i hi => ?_⟩
    obtain ⟨h1, h2⟩ := ready_unlisted st.size hi
    refine exec_pending hok st hi (hD i h1) fun a' w' st' => ih _ a' w' st' ?_
    have := unl_set (i := i) (by rw [st.size]; exact h1) h2
    omega

def canReg (ops : Array Oper) (A : List Nat) (D i : Nat) : Bool := Nat.blt i ops.size && !(D.testBit i) && ((anc A i ||| D) == D)
theorem canReg_spec (hok : regOk ops A n = true) {i : Nat} (hc : canReg ops A D i = true) : ∃ o, ops[i]? = some o ∧ D.testBit i = false ∧ ∀ e ∈ o.after, Region.binds .any e = true → D.testBit e.on = true := by
  simp only [canReg, Bool.and_eq_true, beq_iff_eq, Bool.not_eq_true'] at hc
  obtain ⟨⟨h1, h2⟩, h3⟩ := hc
  have hi : i < ops.size := by simpa using h1
  refine ⟨_, Array.getElem?_eq_getElem hi, h2, fun e he hb => ?_⟩
  have := (regOk_spec hok (Array.getElem?_eq_getElem hi)).has e he hb
  rw [← h3, Nat.testBit_or, this]; rfl

theorem closedD_or (hok : regOk ops A n = true) {i : Nat} (hcl : ClosedL ops (fun k => D.testBit k)) (hc : canReg ops A D i = true) : ClosedL ops (fun k => (D ||| 2 ^ i).testBit k) := by
  obtain ⟨o, ho, _, hp⟩ := canReg_spec hok hc
  intro j oj hj hl e he hb
  simp only [Nat.testBit_or, Bool.or_eq_true, Nat.testBit_two_pow, decide_eq_true_eq] at hl ⊢
  rcases hl with hl | hl
  · exact .inl (hcl j oj hj hl e he hb)
  · subst hl
    obtain rfl : o = oj := Option.some.inj (ho.symm.trans hj)
    exact .inl (hp e he hb)

theorem anc_not (hok : regOk ops A n = true) {i j : Nat} (hcl : ClosedL ops (fun k => D.testBit k)) (hj : j < ops.size) (hDj : D.testBit j = true) (hDi : D.testBit i = false) : (anc A j).testBit i = false := by
  cases h : (anc A j).testBit i with
  | false => rfl
  | true =>
    have ho : ops[j]? = some ops[j] := Array.getElem?_eq_getElem hj
    have := anc_listed hok hcl j j ops[j] (Nat.le_refl _) ho (fun e he hb => hcl j _ ho hDj e he hb) i h
    simp [hDi] at this

theorem reg_aux (hok : regOk ops A n = true) (hcl : ClosedL ops (fun k => D.testBit k)) {i : Nat} {v : Value} {Wd' : Nat} (hc : canReg ops A D i = true)
    (hWd : ∀ k, k ≠ i → Wd'.testBit k = Wd.testBit k) (hg : (Wd'.testBit i = true → Good P ops base (vset vals i v) h i) ∧ (Wd'.testBit i = false → ∀ h', Good P ops base (vset vals i v) h' i))
    {listed : Array Bool} {a : Act} {w : World} (st : SimSt ops n base P w0 D X Wd vals h listed a w) : SimSt ops n base P w0 (D ||| 2 ^ i) X Wd' (vset vals i v) h listed a w := by
  obtain ⟨o, ho, hDi, hp⟩ := canReg_spec hok hc
  have hnl : Lst listed i = false := by
    cases hl : Lst listed i with
    | false => rfl
    | true => rw [st.sub i hl] at hDi; cases hDi
  exact
    { size := st.size
      sub := fun k hk => by rw [Nat.testBit_or, st.sub k hk]; rfl
      sup := st.sup
      closed := st.closed
      defers := st.defers
      tsize := st.tsize
      frame := fun t => by rw [slotS_vset hnl]; exact st.frame t
      pend := fun j hj hDj hl => by
        by_cases e : j = i
        · subst e; exact hg
        · have hDj' : D.testBit j = true := by
            simp only [Nat.testBit_or, Bool.or_eq_true, Nat.testBit_two_pow, decide_eq_true_eq] at hDj
            rcases hDj with h | h
            · exact h
            · exact absurd h.symm e
          obtain ⟨h1, h2⟩ := st.pend j hj hDj' hl
          have hna := anc_not (i := i) hok hcl hj hDj' hDi
          rw [hWd j e]
          exact ⟨fun hw => good_vset hok e hna (h1 hw), fun hw h' => good_vset hok e hna (h2 hw h')⟩
      heap := st.heap
      same := st.same }

/-- an operation that no heap bears on -/
theorem Sim.reg {i : Nat} {v : Value} (hc : canReg ops A D i = true) (hW : Wd.testBit i = false) (hg : ∀ h', Good P ops base (vset vals i v) h' i)
    (hs : Sim P ops A n base w0 Q (D ||| 2 ^ i) X Wd (vset vals i v) h) : Sim P ops A n base w0 Q D X Wd vals h := by
  intro hok hcl fuel listed a w st hu
  exact hs hok (closedD_or hok hcl hc) fuel listed a w (reg_aux hok hcl hc (fun _ _ => rfl) ⟨fun h => (by rw [hW] at h; cases h), fun _ => hg⟩ st) hu
/-- one that looks at the heap -/
theorem Sim.regW {i : Nat} {v : Value} (hc : canReg ops A D i = true) (hg : Good P ops base (vset vals i v) h i)
    (hs : Sim P ops A n base w0 Q (D ||| 2 ^ i) X (Wd ||| 2 ^ i) (vset vals i v) h) : Sim P ops A n base w0 Q D X Wd vals h := by
  intro hok hcl fuel listed a w st hu
  refine hs hok (closedD_or hok hcl hc) fuel listed a w (reg_aux hok hcl hc (fun k hk => ?_) ⟨fun _ => hg, fun h => ?_⟩ st) hu
  · simp [Nat.testBit_or, Ne.symm hk]
  · simp [Nat.testBit_or] at h

/-- which operations may come up next, when all calm ones are accounted for -/
def nexts (ops : Array Oper) (A : List Nat) (D : Nat) : List Nat := (List.range ops.size).filter fun i => canReg ops A D i

theorem Sim.eff (hex : ∃ i, i ∈ nexts ops A D) (hs : ∀ i, i ∈ nexts ops A D → ∃ o R, ops[i]? = some o ∧ wantedE ops (env ops base vals i) o = true ∧ EffU P (env ops base vals i) o h R ∧
      ∀ v h', R v h' → (∀ j, j < ops.size → (Wd &&& ((X ||| anc A i) ^^^ (Wd ||| X ||| anc A i))).testBit j = true → D.testBit j = true → Good P ops base vals h' j) ∧
        Sim P ops A n base w0 Q (D ||| 2 ^ i) (X ||| anc A i ||| 2 ^ i) Wd (vset vals i v) h') : Sim P ops A n base w0 Q D X Wd vals h := by
  intro hok hcl fuel
  induction fuel with
  | zero =>
    intro listed a w st hu
    exfalso
    obtain ⟨i, hi⟩ := hex
    obtain ⟨o, ho, hDi, _⟩ := canReg_spec hok (List.mem_filter.1 hi).2
    have := unl_zero hu i (by rw [st.size]; exact (Array.getElem?_eq_some_iff.1 ho).1)
    rw [st.sub i this] at hDi; cases hDi
  | succ fuel ih =>
    intro listed a w st hu
    refine ⟨fun hr => ?_, fun i hi => ?_⟩
    · exfalso
      obtain ⟨i, hi⟩ := hex
      obtain ⟨o, ho, hDi, _⟩ := canReg_spec hok (List.mem_filter.1 hi).2
      have := ready_nil_all hok st.size hr i (Array.getElem?_eq_some_iff.1 ho).1
      rw [st.sub i this] at hDi; cases hDi
    · obtain ⟨h1, h2⟩ := ready_unlisted st.size hi
      have hil : i < listed.size := by rw [st.size]; exact h1
      have hun := unl_set hil h2
      cases hDi : D.testBit i with
      | true => exact exec_pending hok st hi hDi fun a' w' st' => ih _ a' w' st' (by omega)
      | false =>
        obtain ⟨_, o, ho, hp⟩ := mem_ready.1 hi
        have hanc := anc_listed hok st.closed i i o (Nat.le_refl _) ho hp
        have hcan : canReg ops A D i = true := by
          have hb : Nat.blt i ops.size = true := by simpa using h1
          simp only [canReg, hb, hDi, Bool.not_false, Bool.true_and, beq_iff_eq]
          apply Nat.eq_of_testBit_eq
          intro k
          rw [Nat.testBit_or]
          cases hk : (anc A i).testBit k with
          | false => simp
          | true => rw [st.sub k (hanc k hk)]; rfl
        obtain ⟨o', R, ho', hw, hf, hR⟩ := hs i (List.mem_filter.2 ⟨List.mem_range.2 h1, hcan⟩)
        obtain rfl : o' = o := Option.some.inj (ho'.symm.trans ho)
        obtain ⟨he, hwe⟩ := eval_ready hok st.closed st.frame ho h2 hp
        refine wpOp_eff ho he (hwe.trans hw) st.heap hf fun v w' hsm hr => ?_
        obtain ⟨hpend, hsim⟩ := hR v w'.heap hr
        refine hsim hok (closedD_or hok hcl hcan) fuel _ _ w' ?_ (by omega)
        exact
          { size := by simp [st.size]
            sub := fun k hk => by
              rw [Lst_set hil] at hk
              simp only [Bool.or_eq_true, decide_eq_true_eq] at hk
              rw [Nat.testBit_or, Nat.testBit_two_pow]
              rcases hk with hk | hk
              · rw [st.sub k hk]; rfl
              · simp [hk]
            sup := fun k hk hx => by
              rw [Lst_set hil]
              simp only [Nat.testBit_or, Nat.testBit_two_pow, Bool.or_eq_true, decide_eq_true_eq] at hx ⊢
              rcases hx with (hx | hx) | hx
              · exact .inl (st.sup k hk hx)
              · exact .inl (hanc k hx)
              · exact .inr hx.symm
            closed := closed_set st.closed hil ho hp
            defers := by cases hd : o'.dst <;> simp [Act.put, st.defers]
            tsize := by cases hd : o'.dst <;> simp [Act.put, st.tsize]
            frame := fun t => by
              have hv : v = vset vals i v i := (vset_same vals i v).symm
              conv => lhs; rw [hv]
              exact frame_put hok st.closed (fun t => by rw [slotS_vset h2]; exact st.frame t) st.tsize ho h2 (fun k => Lst_set hil) t
            pend := fun j hj hDj hl => by
              rw [Lst_set hil] at hl
              simp only [Bool.or_eq_false_iff, decide_eq_false_iff_not] at hl
              have hDj' : D.testBit j = true := by
                simp only [Nat.testBit_or, Bool.or_eq_true, Nat.testBit_two_pow, decide_eq_true_eq] at hDj
                rcases hDj with h | h
                · exact h
                · exact absurd h.symm hl.2
              have hna := anc_not (i := i) hok hcl hj hDj' hDi
              obtain ⟨q1, q2⟩ := st.pend j hj hDj' hl.1
              refine ⟨fun hW => good_vset hok hl.2 hna (hpend j hj ?_ hDj'), fun hW h' => good_vset hok hl.2 hna (q2 hW h')⟩
              have hX : X.testBit j = false := by
                cases hx : X.testBit j with
                | false => rfl
                | true => rw [st.sup j hj hx] at hl; cases hl.1
              have hA : (anc A i).testBit j = false := by
                cases hx : (anc A i).testBit j with
                | false => rfl
                | true => rw [hanc j hx] at hl; cases hl.1
              simp [Nat.testBit_and, Nat.testBit_or, Nat.testBit_xor, hW, hX, hA]
            heap := rfl
            same := st.same.trans hsm }

end
end Go.Lane

namespace Go.Lane
open Go

/-- a computation that asks nothing of the world -/
def reck (P : Program) {α : Type} : Sem α → Option α
  | .pure a => some a
  | .program k => reck P (k P)
  | .mark _ k => reck P k
  | _ => none
theorem reck_run {P : Program} {α : Type} : ∀ {s : Sem α} {a : α}, reck P s = some a → ∀ w, s.run P w = .ok a w
  | .pure a, b, h, w => by simp only [reck, Option.some.injEq] at h; subst h; rfl
  | .program k, b, h, w => reck_run (s := k P) h w
  | .mark _ k, b, h, w => reck_run (s := k) h w

/-- one that reads: the cells that it asks for are told one by one; what was read comes back -/
def reads (P : Program) {α : Type} : Sem α → List Value → Option (α × List Addr)
  | .pure a, [] => some (a, [])
  | .program k, l => reads P (k P) l
  | .mark _ k, l => reads P k l
  | .load _ ad k, v :: l => match reads P (k v) l with
    | some (a, r) => some (a, ad :: r)
    | none => none
  | _, _ => none
def hcell (h : Heap) (a : Addr) : Option Value :=
  match h[a.block]? with
  | some (.cells c _ _) => if a.spot.isSome then none else c[a.off]?
  | _ => none
theorem hcell_eq {w : World} {h : Heap} (e : w.heap = h) (a : Addr) : w.cell? a = hcell h a := by subst e; rfl
def Cells (h : Heap) : List Addr → List Value → Prop
  | [], [] => True
  | a :: r, v :: l => hcell h a = some v ∧ Cells h r l
  | _, _ => False
theorem reads_run {P : Program} {α : Type} {w : World} {h : Heap} (e : w.heap = h) : ∀ {s : Sem α} {l : List Value} {a : α} {r : List Addr}, reads P s l = some (a, r) → Cells h r l → s.run P w = .ok a w
  | .pure a, l, b, r, hr, hc => by
    cases l with
    | nil => simp only [reads, Option.some.injEq, Prod.mk.injEq] at hr; obtain ⟨rfl, rfl⟩ := hr; rfl
    | cons v l => simp [reads] at hr
  | .program k, l, b, r, hr, hc => by
    cases l <;> exact reads_run e (s := k P) hr hc
  | .mark _ k, l, b, r, hr, hc => by
    cases l <;> exact reads_run e (s := k) hr hc
  | .load m ad k, l, b, r, hr, hc => by
    cases l with
    | nil => simp [reads] at hr
    | cons v l =>
      simp only [reads] at hr
      cases h2 : reads P (k v) l with
      | none => simp [h2] at hr
      | some x =>
        obtain ⟨a', r'⟩ := x
        simp only [h2, Option.some.injEq, Prod.mk.injEq] at hr
        obtain ⟨rfl, rfl⟩ := hr
        have hc' : hcell h ad = some v := hc.1
        simp only [Sem.run, hcell_eq e, hc']
        exact reads_run e (s := k v) h2 hc.2
  | .store .., l, b, r, hr, hc => by cases l <;> simp [reads] at hr
  | .new .., l, b, r, hr, hc => by cases l <;> simp [reads] at hr
  | .shape .., l, b, r, hr, hc => by cases l <;> simp [reads] at hr
  | .freeze .., l, b, r, hr, hc => by cases l <;> simp [reads] at hr
  | .frozen .., l, b, r, hr, hc => by cases l <;> simp [reads] at hr
  | .getObj .., l, b, r, hr, hc => by cases l <;> simp [reads] at hr
  | .setObj .., l, b, r, hr, hc => by cases l <;> simp [reads] at hr
  | .choose .., l, b, r, hr, hc => by cases l <;> simp [reads] at hr
  | .sys .., l, b, r, hr, hc => by cases l <;> simp [reads] at hr
  | .halt .., l, b, r, hr, hc => by cases l <;> simp [reads] at hr

section
variable {P : Program} {ops : Array Oper} {A : List Nat} {n : Nat} {base : Nat → Value} {D X Wd : Nat} {vals : Vals} {h : Heap} {K : Exit → Act → Heap → Prop}

def nextVal : Option Next → Option Value
  | some (.value v) => some v
  | some .skip => some undef
  | _ => none
def pureVal (P : Program) (ops : Array Oper) (base : Nat → Value) (vals : Vals) (i : Nat) : Option Value :=
  match ops[i]? with
  | some o => match wantedE ops (env ops base vals i) o with
    | false => some undef
    | true => nextVal (reck P (execOp (env ops base vals i) o))
  | none => none
theorem eff_of_nextVal {e : Operand → Value} {o : Oper} {v : Value} (hv : nextVal (reck P (execOp e o)) = some v) (h : Heap) : CalmU P e o h v := by
  intro w hw
  cases hc : reck P (execOp e o) with
  | none => simp [hc, nextVal] at hv
  | some x =>
    rw [reck_run hc w]
    rw [hc] at hv
    cases x <;> simp only [nextVal, Option.some.injEq] at hv <;> first | (cases hv; done) | skip
    · exact ⟨Same.refl w, hv, hw⟩
    · exact ⟨Same.refl w, hv, hw⟩
theorem good_of_pureVal {i : Nat} {v : Value} (hv : pureVal P ops base vals i = some v) (h' : Heap) : Good P ops base (vset vals i v) h' i := by
  unfold pureVal at hv
  cases ho : ops[i]? with
  | none => simp [ho] at hv
  | some o =>
    refine ⟨o, ho, ?_⟩
    rw [env_vset_self, vset_same]
    simp only [ho] at hv
    cases hw : wantedE ops (env ops base vals i) o with
    | false => simp only [hw, Option.some.injEq] at hv; exact .inr ⟨rfl, hv.symm⟩
    | true => simp only [hw] at hv; exact .inl ⟨rfl, eff_of_nextVal hv h'⟩

/-- an operation that is wanted, with what it does -/
structure Does (P : Program) (ops : Array Oper) (base : Nat → Value) (vals : Vals) (i : Nat) (h : Heap) (R : Value → Heap → Prop) : Prop where
  does : ∃ o, ops[i]? = some o ∧ wantedE ops (env ops base vals i) o = true ∧ EffU P (env ops base vals i) o h R
abbrev Calm (P : Program) (ops : Array Oper) (base : Nat → Value) (vals : Vals) (i : Nat) (h : Heap) (v : Value) : Prop := Does P ops base vals i h fun v' h' => v' = v ∧ h' = h
theorem Calm.good {i : Nat} {v : Value} (hc : Calm P ops base vals i h v) : Good P ops base (vset vals i v) h i := by
  obtain ⟨o, ho, hw, hf⟩ := hc.does
  refine ⟨o, ho, .inl ?_⟩
  rw [env_vset_self, vset_same]
  exact ⟨hw, hf⟩

def SimK (P : Program) (ops : Array Oper) (A : List Nat) (n : Nat) (base : Nat → Value) (K : Exit → Act → Heap → Prop) (D X Wd : Nat) (vals : Vals) (h : Heap) : Prop :=
  ∀ w0, Sim P ops A n base w0 (fun e a w => Same w0 w ∧ K e a w.heap) D X Wd vals h

def vsets : Vals → List Nat → List Value → Vals
  | vals, i :: is, v :: vs => vsets (vset vals i v) is vs
  | vals, _, _ => vals
/-- pure operations, in a row -/
def pureVals (P : Program) (ops : Array Oper) (A : List Nat) (base : Nat → Value) : List Nat → List Value → Nat → Vals → Nat → Option (List (Option Value) × Nat)
  | [], [], D, _, _ => some ([], D)
  | i :: is, v :: vs, D, vals, Wd => match canReg ops A D i && !(Wd.testBit i) with
    | true => match pureVals P ops A base is vs (D ||| 2 ^ i) (vset vals i v) Wd with
      | some (r, D') => some (pureVal P ops base vals i :: r, D')
      | none => none
    | false => none
  | _, _, _, _, _ => none
theorem SimK.pures {is : List Nat} {vs : List Value} {D' : Nat} (hp : pureVals P ops A base is vs D vals Wd = some (vs.map some, D'))
    (hs : SimK P ops A n base K D' X Wd (vsets vals is vs) h) : SimK P ops A n base K D X Wd vals h := by
  induction is generalizing vs D vals with
  | nil =>
    cases vs with
    | nil => simp only [pureVals, List.map_nil, Option.some.injEq, Prod.mk.injEq, true_and] at hp; subst hp; exact hs
    | cons v vs => simp [pureVals] at hp
  | cons i is ih =>
    cases vs with
    | nil => simp [pureVals] at hp
    | cons v vs =>
      simp only [pureVals] at hp
      cases hc : (canReg ops A D i && !(Wd.testBit i)) with
      | false => simp [hc] at hp
      | true =>
        simp only [hc] at hp
        cases hr : pureVals P ops A base is vs (D ||| 2 ^ i) (vset vals i v) Wd with
        | none => simp [hr] at hp
        | some x =>
          obtain ⟨r, D''⟩ := x
          simp only [hr, Option.some.injEq, Prod.mk.injEq, List.map_cons, List.cons.injEq] at hp
          obtain ⟨⟨h1, h2⟩, h3⟩ := hp
          subst h2; subst h3
          simp only [Bool.and_eq_true, Bool.not_eq_true'] at hc
          intro w0
          exact Sim.reg hc.1 hc.2 (fun h' => good_of_pureVal h1 h') (ih hr hs w0)
/-- one pure operation, its value in another spelling -/
theorem SimK.pure1 {i : Nat} {v v' : Value} {D' : Nat} (hc : (canReg ops A D i && !(Wd.testBit i)) = true) (hD : D ||| 2 ^ i = D') (hv : pureVal P ops base vals i = some v') (e : v' = v)
    (hs : SimK P ops A n base K D' X Wd (vset vals i v) h) : SimK P ops A n base K D X Wd vals h := by
  subst e; subst hD
  simp only [Bool.and_eq_true, Bool.not_eq_true'] at hc
  intro w0
  exact Sim.reg hc.1 hc.2 (fun h' => good_of_pureVal hv h') (hs w0)
/-- one that no heap bears on, by whatever law -/
theorem SimK.free {i : Nat} {v : Value} {D' : Nat} (hc : (canReg ops A D i && !(Wd.testBit i)) = true) (hD : D ||| 2 ^ i = D') (hv : ∀ h', Calm P ops base vals i h' v)
    (hs : SimK P ops A n base K D' X Wd (vset vals i v) h) : SimK P ops A n base K D X Wd vals h := by
  subst hD
  simp only [Bool.and_eq_true, Bool.not_eq_true'] at hc
  intro w0
  exact Sim.reg hc.1 hc.2 (fun h' => (hv h').good) (hs w0)
/-- one that looks at the heap, or a call that only looks -/
theorem SimK.look {i : Nat} {v : Value} {D' Wd' : Nat} (hc : canReg ops A D i = true) (hD : D ||| 2 ^ i = D') (hW : Wd ||| 2 ^ i = Wd') (hv : Calm P ops base vals i h v)
    (hs : SimK P ops A n base K D' X Wd' (vset vals i v) h) : SimK P ops A n base K D X Wd vals h := by
  subst hD; subst hW
  intro w0
  exact Sim.regW hc hv.good (hs w0)
def pendL (ops : Array Oper) (A : List Nat) (D X Wd i : Nat) : List Nat := (List.range ops.size).filter fun j => (Wd &&& ((X ||| anc A i) ^^^ (Wd ||| X ||| anc A i))).testBit j && D.testBit j
/-- the one effect that can come next -/
theorem SimK.eff {i : Nat} {R : Value → Heap → Prop} {D' X' : Nat} (hn : nexts ops A D = [i]) (hD : D ||| 2 ^ i = D') (hX : X ||| anc A i ||| 2 ^ i = X') (pend : List Nat) (hp : pendL ops A D X Wd i = pend) (hd : Does P ops base vals i h R)
    (hs : ∀ v h', R v h' → (∀ j ∈ pend, Good P ops base vals h' j) ∧ SimK P ops A n base K D' X' Wd (vset vals i v) h') : SimK P ops A n base K D X Wd vals h := by
  subst hD; subst hX; subst hp
  intro w0
  refine Sim.eff ⟨i, by rw [hn]; simp⟩ fun k hk => ?_
  rw [hn] at hk
  obtain rfl : k = i := by simpa using hk
  obtain ⟨o, ho, hw, hf⟩ := hd.does
  refine ⟨o, R, ho, hw, hf, fun v h' hr => ?_⟩
  obtain ⟨h1, h2⟩ := hs v h' hr
  exact ⟨fun j hj hb hDj => h1 j (List.mem_filter.2 ⟨List.mem_range.2 hj, by rw [hb, hDj]; rfl⟩), h2 w0⟩
/-- the same where nothing that looks at the heap is left open -/
theorem SimK.eff0 {i : Nat} {R : Value → Heap → Prop} {D' X' : Nat} (hn : nexts ops A D = [i]) (hD : D ||| 2 ^ i = D') (hX : X ||| anc A i ||| 2 ^ i = X') (hp : pendL ops A D X Wd i = []) (hd : Does P ops base vals i h R)
    (hs : ∀ v h', R v h' → SimK P ops A n base K D' X' Wd (vset vals i v) h') : SimK P ops A n base K D X Wd vals h :=
  SimK.eff hn hD hX [] hp hd fun v h' hr => ⟨fun j hj => by simp at hj, hs v h' hr⟩
/-- several effects, any of which can come next -/
theorem SimK.effs {is : List Nat} (hn : nexts ops A D = is) (hne : is ≠ [])
    (hs : ∀ i ∈ is, ∃ R, Does P ops base vals i h R ∧ ∀ v h', R v h' → (∀ j ∈ pendL ops A D X Wd i, Good P ops base vals h' j) ∧ SimK P ops A n base K (D ||| 2 ^ i) (X ||| anc A i ||| 2 ^ i) Wd (vset vals i v) h') : SimK P ops A n base K D X Wd vals h := by
  subst hn
  intro w0
  refine Sim.eff (List.exists_mem_of_ne_nil _ hne) fun i hi => ?_
  obtain ⟨R, hd, hr⟩ := hs i hi
  obtain ⟨o, ho, hw, hf⟩ := hd.does
  refine ⟨o, R, ho, hw, hf, fun v h' hr' => ?_⟩
  obtain ⟨h1, h2⟩ := hr v h' hr'
  exact ⟨fun j hj hb hDj => h1 j (List.mem_filter.2 ⟨List.mem_range.2 hj, by rw [hb, hDj]; rfl⟩), h2 w0⟩

theorem lk_zip {f g : Nat → Value} (hf : ∀ t, f t = g t) : ∀ (ts : List Nat) (t : Nat), f t = lk (ts.map fun t => (t, g t)) t (f t)
  | [], _ => rfl
  | k :: ts, t => by
    simp only [List.map_cons, lk]
    cases e : Nat.beq k t with
    | false => exact lk_zip hf ts t
    | true => simp only; rw [hf t, Nat.eq_of_beq_eq_true e]

/-- all is accounted for: which slots are told on -/
theorem SimK.done {L : List (Nat × Value)} (ts : List Nat) (hD : D = 2 ^ ops.size - 1) (hL : (ts.map fun t => (t, slotS ops base vals (fun _ => true) t)) = L) (hQ : ∀ a, Fr a n L → K .normal a h) : SimK P ops A n base K D X Wd vals h := by
  subst hL
  intro w0
  refine Sim.done (fun i hi => by rw [hD, Nat.testBit_two_pow_sub_one]; simpa using hi) fun a w h1 h2 h3 hs hh => ⟨hs, ?_⟩
  rw [hh]
  exact hQ a ⟨h1, h2, fun t => lk_zip h3 ts t⟩
end
end Go.Lane

namespace Go.Lane
open Go
section
variable {P : Program} {ops : Array Oper} {n : Nat} {base : Nat → Value} {vals : Vals} {h : Heap} {K : Exit → Act → Heap → Prop}

/-! ### regions in the text's order -/
def dstOk (ops : Array Oper) (n : Nat) : Bool := ops.toList.all fun o => match o.dst with | some d => Nat.blt d n | none => true
def SeqW (P : Program) (ops : Array Oper) (n : Nat) (base : Nat → Value) (w0 : World) (Q : Exit → Act → World → Prop) (k : Nat) (vals : Vals) (h : Heap) : Prop :=
  dstOk ops n = true → ∀ a w, a.defers = [] → a.tmps.size = n → (∀ t, a.tmps.getD t undef = slotE ops base vals k t) → Same w0 w → w.heap = h → wpOps P ops Q (List.range' k (ops.size - k)) a w
def SeqK (P : Program) (ops : Array Oper) (n : Nat) (base : Nat → Value) (K : Exit → Act → Heap → Prop) (k : Nat) (vals : Vals) (h : Heap) : Prop :=
  ∀ w0, SeqW P ops n base w0 (fun e a w => Same w0 w ∧ K e a w.heap) k vals h

theorem slotE_succ {k : Nat} {o : Oper} (ho : ops[k]? = some o) (v : Value) (t : Nat) : slotE ops base (vset vals k v) (k + 1) t = if o.dst = some t then v else slotE ops base vals k t := by
  unfold slotE
  conv => lhs; unfold lastP
  rw [dst_eq ho]
  by_cases e : o.dst = some t
  · simp [e, vset_same]
  · have : (o.dst == some t) = false := by simp [e]
    simp only [this, e, if_false]
    cases hl : lastP (fun i => dst ops i == some t) k with
    | none => rfl
    | some i => have := (lastP_some hl).1; exact vset_ne (by omega)

theorem eval_seq {a : Act} {k : Nat} (hf : ∀ t, a.tmps.getD t undef = slotE ops base vals k t) : a.eval = env ops base vals k := by
  funext x
  cases x with
  | tmp t => exact hf t
  | const v => rfl
  | global g => rfl
  | func f => rfl
theorem wanted_seq {a : Act} {k : Nat} {o : Oper} (hf : ∀ t, a.tmps.getD t undef = slotE ops base vals k t) : Region.wanted o (yielded ops a.tmps) = wantedE ops (env ops base vals k) o := by
  unfold Region.wanted wantedE
  cases hg : o.guard with
  | none => rfl
  | some gw =>
    obtain ⟨g, want⟩ := gw
    simp only
    congr 1
    unfold yielded
    cases hd : (ops[g]?).bind (·.dst) with
    | none => simp [dst, hd]
    | some t =>
      have h2 : env ops base vals k (.tmp t) = a.tmps.getD t undef := (hf t).symm
      simp only [dst, hd, h2, Option.bind_some]
      cases ht : a.tmps[t]? with
      | none => simp [ht, undef]
      | some v => cases v <;> simp [ht]

theorem seq_next {a : Act} {k : Nat} {o : Oper} (hok : dstOk ops n = true) (ho : ops[k]? = some o) (hts : a.tmps.size = n) (hf : ∀ t, a.tmps.getD t undef = slotE ops base vals k t) (v : Value) (t : Nat) :
    (a.put o.dst v).tmps.getD t undef = slotE ops base (vset vals k v) (k + 1) t := by
  rw [slotE_succ ho]
  cases hd : o.dst with
  | none => simp [Act.put, ← hf t]
  | some d =>
    have hdn : d < n := by
      have := List.all_eq_true.1 hok o (by simpa using Array.mem_of_getElem? ho)
      simpa [hd] using this
    by_cases e : d = t
    · subst e; simp [Act.put, hts, hdn]
    · have : ¬ (some d = some t) := by simpa using e
      rw [if_neg this, ← hf t]
      simp [Act.put, Array.getElem?_setIfInBounds_ne e]

theorem seqW_step {w0 : World} {Q : Exit → Act → World → Prop} {k : Nat} {o : Oper} (ho : ops[k]? = some o) (hw : wantedE ops (env ops base vals k) o = true) {R : Value → Heap → Prop} (hf : EffU P (env ops base vals k) o h R)
    (hs : ∀ v h', R v h' → SeqW P ops n base w0 Q (k + 1) (vset vals k v) h') : SeqW P ops n base w0 Q k vals h := by
  intro hok a w hd hts hfr hsm hh
  have hlt := (Array.getElem?_eq_some_iff.1 ho).1
  rw [show ops.size - k = (ops.size - (k + 1)) + 1 by omega, List.range'_succ, wpOps_cons]
  refine wpOp_eff ho (by rw [eval_seq hfr]) (by rw [wanted_seq hfr]; exact hw) hh hf fun v w' hsm' hr => ?_
  exact hs v _ hr hok _ w' (by cases o.dst <;> simp [Act.put, hd]) (by cases o.dst <;> simp [Act.put, hts]) (seq_next hok ho hts hfr v) (hsm.trans hsm') rfl
theorem seqW_skip {w0 : World} {Q : Exit → Act → World → Prop} {k : Nat} {o : Oper} (ho : ops[k]? = some o) (hw : wantedE ops (env ops base vals k) o = false)
    (hs : SeqW P ops n base w0 Q (k + 1) (vset vals k undef) h) : SeqW P ops n base w0 Q k vals h := by
  intro hok a w hd hts hfr hsm hh
  have hlt := (Array.getElem?_eq_some_iff.1 ho).1
  rw [show ops.size - k = (ops.size - (k + 1)) + 1 by omega, List.range'_succ, wpOps_cons]
  refine wpOp_skip ho (by rw [wanted_seq hfr]; exact hw) ?_
  exact hs hok _ w (by cases o.dst <;> simp [Act.put, hd]) (by cases o.dst <;> simp [Act.put, hts]) (seq_next hok ho hts hfr undef) hsm hh

theorem SeqK.pure1 {k k' : Nat} {v v' : Value} (hv : pureVal P ops base vals k = some v') (e : v' = v) (hk : k + 1 = k') (hs : SeqK P ops n base K k' (vset vals k v) h) : SeqK P ops n base K k vals h := by
  subst e; subst hk
  intro w0
  unfold pureVal at hv
  cases ho : ops[k]? with
  | none => simp [ho] at hv
  | some o =>
    simp only [ho] at hv
    cases hw : wantedE ops (env ops base vals k) o with
    | false =>
      simp only [hw, Option.some.injEq] at hv
      subst hv
      exact seqW_skip ho hw (hs w0)
    | true =>
      simp only [hw] at hv
      refine seqW_step ho hw (eff_of_nextVal hv h) fun v h' ⟨h1, h2⟩ => ?_
      subst h1; subst h2
      exact hs w0
def seqVals (P : Program) (ops : Array Oper) (base : Nat → Value) : Nat → List Value → Vals → List (Option Value)
  | _, [], _ => []
  | k, v :: vs, vals => pureVal P ops base vals k :: seqVals P ops base (k + 1) vs (vset vals k v)
def vseq : Vals → Nat → List Value → Vals
  | vals, _, [] => vals
  | vals, k, v :: vs => vseq (vset vals k v) (k + 1) vs
theorem SeqK.pures {k k' : Nat} (vs : List Value) (hp : seqVals P ops base k vs vals = vs.map some) (hk : k + vs.length = k') (hs : SeqK P ops n base K k' (vseq vals k vs) h) : SeqK P ops n base K k vals h := by
  induction vs generalizing k vals with
  | nil => simp only [List.length_nil, Nat.add_zero] at hk; subst hk; exact hs
  | cons v vs ih =>
    simp only [seqVals, List.map_cons, List.cons.injEq] at hp
    exact SeqK.pure1 hp.1 rfl rfl (ih hp.2 (by simp only [List.length_cons] at hk; omega) hs)
theorem SeqK.eff {k k' : Nat} {R : Value → Heap → Prop} (hd : Does P ops base vals k h R) (hk : k + 1 = k') (hs : ∀ v h', R v h' → SeqK P ops n base K k' (vset vals k v) h') : SeqK P ops n base K k vals h := by
  subst hk
  intro w0
  obtain ⟨o, ho, hw, hf⟩ := hd.does
  exact seqW_step ho hw hf fun v h' hr => hs v h' hr w0
theorem SeqK.calm {k k' : Nat} {v : Value} (hd : Calm P ops base vals k h v) (hk : k + 1 = k') (hs : SeqK P ops n base K k' (vset vals k v) h) : SeqK P ops n base K k vals h :=
  SeqK.eff hd hk fun v' h' ⟨h1, h2⟩ => by subst h1; subst h2; exact hs
theorem SeqK.done {k : Nat} {L : List (Nat × Value)} (ts : List Nat) (hk : k = ops.size) (hL : (ts.map fun t => (t, slotE ops base vals k t)) = L) (hQ : ∀ a, Fr a n L → K .normal a h) : SeqK P ops n base K k vals h := by
  subst hL; subst hk
  intro w0 _ a w h1 h2 h3 hs hh
  rw [Nat.sub_self]
  refine ⟨hs, ?_⟩
  rw [hh]
  exact hQ a ⟨h1, h2, fun t => lk_zip h3 ts t⟩

/-! ### code -/
theorem getD_replicate_false' (m j : Nat) : (Array.replicate m false).getD j false = false := by
  rcases Nat.lt_or_ge j m with h | h
  · simp [h]
  · simp [h]
def C (P : Program) (c : Code) (K : Exit → Act → Heap → Prop) (a : Act) (h : Heap) : Prop :=
  ∀ w : World, w.heap = h → c.wp P (fun e a' w' => Same w w' ∧ K e a' w'.heap) a w

def sub : Code → List Nat → Code
  | c, [] => c
  | .seq x _, 0 :: p => sub x p
  | .seq _ y, _ :: p => sub y p
  | .cond _ x _, 0 :: p => sub x p
  | .cond _ _ y, _ :: p => sub y p
  | .block _ x, _ :: p => sub x p
  | .loop x, _ :: p => sub x p
  | .scope x, _ :: p => sub x p
  | c, _ => c
def opsAt (c : Code) (p : List Nat) : Array Oper := match sub c p with | .region _ ops _ => ops | _ => #[]

def thenK (N : Act → Heap → Prop) (K : Exit → Act → Heap → Prop) : Exit → Act → Heap → Prop
  | .normal, a, h => N a h
  | e, a, h => K e a h
def blockK (id : Nat) (K : Exit → Act → Heap → Prop) : Exit → Act → Heap → Prop
  | .exit i, a, h => match Nat.beq i id with | true => K .normal a h | false => K (.exit i) a h
  | e, a, h => K e a h

theorem C.mono {c : Code} {a : Act} {K K' : Exit → Act → Heap → Prop} (hc : C P c K a h) (hk : ∀ e a h, K e a h → K' e a h) : C P c K' a h :=
  fun w hw => wp_mono (hc w hw) fun _ _ _ ⟨s, k⟩ => ⟨s, hk _ _ _ k⟩
section
variable {B : Code} {p : List Nat} {a : Act}
theorem C.seq (p0 p1 : List Nat) (hc : sub B p = .seq (sub B p0) (sub B p1)) (hh : C P (sub B p0) (thenK (fun a h => C P (sub B p1) K a h) K) a h) : C P (sub B p) K a h := by
  rw [hc]
  intro w hw
  refine wp_seq (wp_mono (hh w hw) fun e a' w' ⟨s, k⟩ => ?_)
  cases e with
  | normal =>
    exact wp_mono (k w' rfl) fun e a w ⟨s', k'⟩ => ⟨s.trans s', k'⟩
  | exit i => exact ⟨s, k⟩
  | goto l => exact ⟨s, k⟩
  | ret => exact ⟨s, k⟩
  | panic c => exact ⟨s, k⟩
  | outgrown => exact ⟨s, k⟩
theorem C.skip (hc : sub B p = .skip) (hh : K .normal a h) : C P (sub B p) K a h := by
  rw [hc]; intro w hw; exact wp_skip ⟨Same.refl w, hw ▸ hh⟩
theorem C.ret (hc : sub B p = .ret) (hh : K .ret a h) : C P (sub B p) K a h := by
  rw [hc]; intro w hw; exact wp_ret ⟨Same.refl w, hw ▸ hh⟩
theorem C.exit (id : Nat) (hc : sub B p = .exit id) (hh : K (.exit id) a h) : C P (sub B p) K a h := by
  rw [hc]; intro w hw; exact wp_exit ⟨Same.refl w, hw ▸ hh⟩
theorem C.block (id : Nat) (p0 : List Nat) (hc : sub B p = .block id (sub B p0)) (hh : C P (sub B p0) (blockK id K) a h) : C P (sub B p) K a h := by
  rw [hc]
  intro w hw
  refine wp_block (wp_mono (hh w hw) fun e a' w' ⟨s, k⟩ => ?_)
  cases e with
  | exit i =>
    simp only [blockK] at k
    simp only [Exit.inBlock]
    cases e : Nat.beq i id with
    | true => simp only [e] at k; rw [if_pos (Nat.eq_of_beq_eq_true e)]; exact ⟨s, k⟩
    | false => simp only [e] at k; rw [if_neg (Nat.ne_of_beq_eq_false e)]; exact ⟨s, k⟩
  | normal => exact ⟨s, k⟩
  | goto l => exact ⟨s, k⟩
  | ret => exact ⟨s, k⟩
  | panic c => exact ⟨s, k⟩
  | outgrown => exact ⟨s, k⟩
theorem Fr.eval {L : List (Nat × Value)} (hf : Fr a n L) {t : Nat} {v : Value} (hv : ∀ d, lk L t d = v) : a.tmps.getD t undef = v := by rw [hf.get t]; exact hv _
theorem C.condT {L : List (Nat × Value)} (t : Nat) (p0 p1 : List Nat) (hc : sub B p = .cond (.tmp t) (sub B p0) (sub B p1)) (hf : Fr a n L) (hv : ∀ d, lk L t d = .bool true) (hh : C P (sub B p0) K a h) : C P (sub B p) K a h := by
  rw [hc]; intro w hw; exact wp_cond_true (show a.eval (.tmp t) = _ from hf.eval hv) (hh w hw)
theorem C.condF {L : List (Nat × Value)} (t : Nat) (p0 p1 : List Nat) (hc : sub B p = .cond (.tmp t) (sub B p0) (sub B p1)) (hf : Fr a n L) (hv : ∀ d, lk L t d = .bool false) (hh : C P (sub B p1) K a h) : C P (sub B p) K a h := by
  rw [hc]; intro w hw; exact wp_cond_false (show a.eval (.tmp t) = _ from hf.eval hv) (hh w hw)
theorem C.condS {L : List (Nat × Value)} (t : Nat) (b : Bool) (p0 p1 : List Nat) (hc : sub B p = .cond (.tmp t) (sub B p0) (sub B p1)) (hf : Fr a n L) (hv : ∀ d, lk L t d = .bool b)
    (ht : b = true → C P (sub B p0) K a h) (he : b = false → C P (sub B p1) K a h) : C P (sub B p) K a h := by
  cases b with
  | true => exact C.condT t p0 p1 hc hf hv (ht rfl)
  | false => exact C.condF t p0 p1 hc hf hv (he rfl)
open Classical in
theorem C.loop (I : Nat → Act → Heap → Prop) (m0 : Nat) (p0 : List Nat) (hc : sub B p = .loop (sub B p0)) (h0 : I m0 a h)
    (round : ∀ m a h, I m a h → C P (sub B p0) (thenK (fun a h => ∃ m', m' < m ∧ I m' a h) K) a h) : C P (sub B p) K a h := by
  rw [hc]
  intro w hw
  have ex : ∀ (a : Act) (w : World), (∃ m, I m a w.heap) → ∃ m, I m a w.heap ∧ ∀ k, I k a w.heap → m ≤ k := by
    intro a w ⟨m, hm⟩
    induction m using Nat.strongRecOn with
    | _ m ih =>
      by_cases hk : ∃ k, k < m ∧ I k a w.heap
      · obtain ⟨k, hlt, hI⟩ := hk; exact ih k hlt hI
      · exact ⟨m, hm, fun k hI => Nat.le_of_not_lt fun hl => hk ⟨k, hl, hI⟩⟩
  refine wp_loop (fun a' w' => Same w w' ∧ ∃ m, I m a' w'.heap) (fun a' w' => if hx : ∃ m, I m a' w'.heap then (ex a' w' hx).choose else 0) ⟨Same.refl w, m0, hw ▸ h0⟩ ?_
  intro a' w' ⟨hs, hx⟩
  have hm := (ex a' w' hx).choose_spec
  have hmu : (if hx : ∃ m, I m a' w'.heap then (ex a' w' hx).choose else 0) = (ex a' w' hx).choose := dif_pos hx
  rw [hmu]
  refine wp_mono (round _ a' w'.heap hm.1 w' rfl) fun e a2 w2 ⟨s, k⟩ => ?_
  cases e with
  | normal =>
    obtain ⟨m', hlt, hI⟩ := k
    have hx2 : ∃ m, I m a2 w2.heap := ⟨m', hI⟩
    refine ⟨⟨hs.trans s, hx2⟩, ?_⟩
    rw [dif_pos hx2]
    exact Nat.lt_of_le_of_lt ((ex a2 w2 hx2).choose_spec.2 m' hI) hlt
  | exit i => exact ⟨hs.trans s, k⟩
  | goto l => exact ⟨hs.trans s, k⟩
  | ret => exact ⟨hs.trans s, k⟩
  | panic c => exact ⟨hs.trans s, k⟩
  | outgrown => exact ⟨hs.trans s, k⟩
theorem C.plain {L : List (Nat × Value)} (id : Nat) (hc : sub B p = .region id (opsAt B p) false) (hf : Fr a n L) (hok : dstOk (opsAt B p) n = true)
    (hh : SeqK P (opsAt B p) n (fun t => lk L t (a.tmps.getD t undef)) K 0 (fun _ => undef) h) : C P (sub B p) K a h := by
  rw [hc]
  intro w hw
  refine wp_region ?_
  have := hh w hok a w hf.defers hf.size (fun t => by rw [hf.get t]; rfl) (Same.refl w) hw
  simpa [List.range_eq_range'] using this
theorem C.draw {A : List Nat} {L : List (Nat × Value)} (id : Nat) (hc : sub B p = .region id (opsAt B p) true) (hm : P.follows .mixedOrders = true) (hf : Fr a n L) (hok : regOk (opsAt B p) A n = true)
    (hh : SimK P (opsAt B p) A n (fun t => lk L t (a.tmps.getD t undef)) K 0 0 0 (fun _ => undef) h) : C P (sub B p) K a h := by
  rw [hc]
  intro w hw
  refine wp_region_any hm ?_
  refine hh w hok (fun j o _ hj => by simp at hj) _ _ a _ ?_ (by unfold unl; exact Nat.le_trans Array.countP_le_size (by simp))
  exact
    { size := by simp
      sub := fun i hi => by simp only [Lst, getD_replicate_false'] at hi; cases hi
      sup := fun i _ hi => by simp at hi
      closed := fun j o _ hj => by simp only [Lst, getD_replicate_false'] at hj; cases hj
      defers := hf.defers
      tsize := hf.size
      frame := fun t => by
        rw [hf.get t]
        unfold slotS
        rw [lastP_eq_none]
        intro j _
        simp only [Lst, getD_replicate_false', Bool.false_and]
      pend := fun j _ hj => by simp at hj
      heap := hw
      same := ⟨rfl, rfl, rfl⟩ }
end
end
end Go.Lane

namespace Go.Lane
open Go

/-! ### heaps -/
/-- all that was there is there, but for one block -/
structure Grew (o : Option Nat) (h h' : Heap) : Prop where
  size : h.size ≤ h'.size
  get : ∀ k, k < h.size → some k ≠ o → h'[k]? = h[k]?
abbrev Ext (h h' : Heap) : Prop := Grew none h h'
theorem Grew.refl (o : Option Nat) (h : Heap) : Grew o h h := ⟨Nat.le_refl _, fun _ _ _ => rfl⟩
theorem Grew.trans {o : Option Nat} {a b c : Heap} (h : Grew o a b) (k : Grew o b c) : Grew o a c :=
  ⟨Nat.le_trans h.size k.size, fun i hi ho => (k.get i (Nat.lt_of_lt_of_le hi h.size) ho).trans (h.get i hi ho)⟩
theorem Ext.refl (h : Heap) : Ext h h := Grew.refl none h
theorem Ext.but {h h' : Heap} (e : Ext h h') (o : Option Nat) : Grew o h h' := ⟨e.size, fun k hk _ => e.get k hk (by simp)⟩
theorem Ext.push (h : Heap) (o : Obj) : Ext h (h.push o) := ⟨by simp, fun k hk _ => by rw [Array.getElem?_push, if_neg (by omega)]⟩
/-- of what was there at the beginning nothing is touched by a change of one's own block -/
theorem Ext.grew {h0 h h' : Heap} {o : Option Nat} (e : Ext h0 h) (g : Grew o h h') (ho : ∀ k, o = some k → h0.size ≤ k) : Ext h0 h' :=
  ⟨Nat.le_trans e.size g.size, fun k hk _ => (g.get k (Nat.lt_of_lt_of_le hk e.size) (fun he => by have := ho k he.symm; omega)).trans (e.get k hk (by simp))⟩
theorem Ext.ext {a b c : Heap} (h : Ext a b) (k : Ext b c) : Ext a c := Grew.trans h k

theorem blk_lt {h : Heap} {b : Nat} {o : Obj} (e : h[b]? = some o) : b < h.size := (Array.getElem?_eq_some_iff.1 e).1
theorem Grew.blk {o : Option Nat} {h h' : Heap} {b : Nat} {x : Obj} (g : Grew o h h') (e : h[b]? = some x) (hne : some b ≠ o) : h'[b]? = some x := by rw [g.get b (blk_lt e) hne]; exact e
theorem Ext.blk {h h' : Heap} {b : Nat} {x : Obj} (g : Ext h h') (e : h[b]? = some x) : h'[b]? = some x := Grew.blk g e (by simp)
theorem push_new (h : Heap) (o : Obj) : (h.push o)[h.size]? = some o := by simp

theorem hcell_lt {h : Heap} {p : Addr} {v : Value} (e : hcell h p = some v) : p.block < h.size := by
  unfold hcell at e
  cases hb : h[p.block]? with
  | none => simp [hb] at e
  | some o => exact blk_lt hb
theorem hcell_congr {h h' : Heap} {p : Addr} (e : h'[p.block]? = h[p.block]?) : hcell h' p = hcell h p := by unfold hcell; rw [e]
theorem Grew.cell {o : Option Nat} {h h' : Heap} {p : Addr} {v : Value} (g : Grew o h h') (e : hcell h p = some v) (hne : some p.block ≠ o) : hcell h' p = some v := by
  rw [hcell_congr (g.get _ (hcell_lt e) hne)]; exact e
theorem Ext.cell {h h' : Heap} {p : Addr} {v : Value} (g : Ext h h') (e : hcell h p = some v) : hcell h' p = some v := Grew.cell g e (by simp)
theorem hcell_blk {h : Heap} {b off : Nat} {cs : Array Value} {E : TypeId} {fr : Nat × Nat} (e : h[b]? = some (.cells cs E fr)) : hcell h ⟨b, off, none⟩ = cs[off]? := by
  simp [hcell, e]
theorem add_lit (b off j : Nat) : (⟨b, off, none⟩ : Addr).add j = ⟨b, off + j, none⟩ := by unfold Addr.add; split <;> simp_all
theorem add_add (a : Addr) (i j : Nat) : (a.add i).add j = a.add (i + j) := by
  unfold Addr.add
  by_cases h1 : i = 0 <;> by_cases h2 : j = 0 <;> simp [h1, h2, Nat.add_assoc]
theorem add_block (a : Addr) (i : Nat) : (a.add i).block = a.block := by unfold Addr.add; split <;> rfl

/-! ### what a slice reads as: n elements of sz cells -/
def Row (h : Heap) (v : Value) (n sz : Nat) (xs : List Value) : Prop :=
  xs.length = n * sz ∧ ((v = .slice none 0 0 ∧ n = 0) ∨ ∃ a cap, v = .slice (some a) n cap ∧ n ≤ cap ∧ ∀ j u, xs[j]? = some u → hcell h (a.add j) = some u)
theorem Row.ext {h h' : Heap} {v : Value} {n sz : Nat} {xs : List Value} (r : Row h v n sz xs) (g : Ext h h') : Row h' v n sz xs :=
  ⟨r.1, r.2.imp id fun ⟨a, cap, e, hc, hx⟩ => ⟨a, cap, e, hc, fun j u hu => g.cell (hx j u hu)⟩⟩
theorem Row.nil (h : Heap) (sz : Nat) : Row h (.slice none 0 0) 0 sz [] := ⟨by simp, .inl ⟨rfl, rfl⟩⟩
theorem Row.at {h : Heap} {v : Value} {n sz : Nat} {xs : List Value} (r : Row h v n sz xs) (hn : 0 < n) : ∃ a cap, v = .slice (some a) n cap ∧ n ≤ cap ∧ ∀ j u, xs[j]? = some u → hcell h (a.add j) = some u :=
  r.2.resolve_left fun ⟨_, e⟩ => by omega

/-- one's own: nobody else's slice ends up in this block; what stands behind it may be written over -/
def Own (h : Heap) (v : Value) (E : TypeId) (n sz : Nat) (xs : List Value) : Prop :=
  xs.length = n * sz ∧ ((v = .slice none 0 0 ∧ n = 0) ∨ ∃ g off cap l, v = .slice (some ⟨g, off, none⟩) n cap ∧ h[g]? = some (.cells l E (0, 0)) ∧ n ≤ cap ∧ cap ≤ maxLen ∧ off + cap * sz ≤ l.size ∧ (l.toList.drop off).take (n * sz) = xs)
def blkOf : Value → Option Nat
  | .slice (some a) _ _ => some a.block
  | _ => none
theorem Own.nil (h : Heap) (E : TypeId) (sz : Nat) : Own h (.slice none 0 0) E 0 sz [] := ⟨by simp, .inl ⟨rfl, rfl⟩⟩
theorem Own.row {h : Heap} {v : Value} {E : TypeId} {n sz : Nat} {xs : List Value} (o : Own h v E n sz xs) : Row h v n sz xs := by
  refine ⟨o.1, o.2.imp id ?_⟩
  rintro ⟨g, off, cap, l, e, hg, hc, _, hl, hx⟩
  refine ⟨_, cap, e, hc, fun j u hu => ?_⟩
  rw [add_lit, hcell_blk hg]
  rw [← hx, List.getElem?_take] at hu
  split at hu
  · rw [List.getElem?_drop] at hu
    simpa using hu
  · cases hu
theorem Own.lt {h : Heap} {v : Value} {E : TypeId} {n sz : Nat} {xs : List Value} (o : Own h v E n sz xs) {k : Nat} (hk : blkOf v = some k) : k < h.size := by
  rcases o.2 with ⟨e, _⟩ | ⟨g, off, cap, l, e, hg, _⟩
  · subst e; simp [blkOf] at hk
  · subst e; simp only [blkOf, Option.some.injEq] at hk; subst hk; exact blk_lt hg
theorem Own.kept {o : Option Nat} {h h' : Heap} {v : Value} {E : TypeId} {n sz : Nat} {xs : List Value} (w : Own h v E n sz xs) (g : Grew o h h') (hne : blkOf v = none ∨ blkOf v ≠ o) : Own h' v E n sz xs := by
  refine ⟨w.1, w.2.imp id ?_⟩
  rintro ⟨b, off, cap, l, e, hg, r⟩
  refine ⟨b, off, cap, l, e, g.blk hg ?_, r⟩
  subst e
  simpa [blkOf] using hne
theorem Own.ext {h h' : Heap} {v : Value} {E : TypeId} {n sz : Nat} {xs : List Value} (w : Own h v E n sz xs) (g : Ext h h') : Own h' v E n sz xs :=
  w.kept g (by cases blkOf v <;> simp)

section
variable {P : Program} {ops : Array Oper} {base : Nat → Value} {vals : Vals} {h : Heap} {i : Nat} {K : Exit → Act → Heap → Prop}

/-! ### a function's beginning and end -/
def retK (P : Program) (fn : Func) (R : Value → Heap → Prop) : Exit → Act → Heap → Prop
  | .normal, a, h | .ret, a, h => a.defers = [] ∧ ∃ v, (∀ w : World, w.heap = h → (results fn a.tmps).run P w = .ok v w) ∧ R v h
  | _, _, _ => False
def argL : Nat → List Value → List (Nat × Value)
  | _, [] => []
  | k, v :: vs => (k, v) :: argL (k + 1) vs
theorem argL_lk (vs : List Value) (k t : Nat) (d : Value) (hk : k ≤ t) : lk (argL k vs) t d = (vs[t - k]?).getD d := by
  induction vs generalizing k with
  | nil => simp [argL, lk]
  | cons v vs ih =>
    simp only [argL, lk]
    cases e : Nat.beq k t with
    | true => have := Nat.eq_of_beq_eq_true e; subst this; simp
    | false =>
      have hne := Nat.ne_of_beq_eq_false e
      simp only
      rw [ih (k + 1) (by omega)]
      obtain ⟨m, hm⟩ : ∃ m, t - k = m + 1 := ⟨t - k - 1, by omega⟩
      rw [hm, show t - (k + 1) = m by omega]
      simp
theorem sat_of {fn : Func} {B : Code} {f : FuncId} {args : List Value} {n : Nat} {L : List (Nat × Value)} {R : Value → Heap → Prop} (hf : P.funcs[f]? = some fn) (hb : fn.body = some B) (hn : args.length + (fn.ntmps - args.length) = n)
    (hL : argL 0 args = L) (hc : ∀ a, Fr a n L → C P (sub B []) (retK P fn R) a h) : Sat P f args.toArray h R := by
  intro w hw
  refine calls_of_wp hf hb ?_
  subst hL
  have hB : sub B [] = B := by cases B <;> rfl
  rw [hB] at hc
  refine wp_mono (hc { tmps := args.toArray ++ Array.replicate (fn.ntmps - args.toArray.size) undef, defers := [] } ⟨rfl, by simp [← hn], fun t => ?_⟩ w hw) ?_
  · rw [argL_lk _ 0 t _ (Nat.zero_le t), Nat.sub_zero]
    by_cases ht : t < args.length
    · simp [Array.getElem?_append, ht]
    · simp [List.getElem?_eq_none (Nat.le_of_not_lt ht)]
  · rintro e a w' ⟨hs, hk⟩
    cases e with
    | normal => obtain ⟨hd, v, hr, hR⟩ := hk; exact ⟨hd, v, hr w' rfl, v, rfl, hs, hR⟩
    | ret => obtain ⟨hd, v, hr, hR⟩ := hk; exact ⟨hd, v, hr w' rfl, v, rfl, hs, hR⟩
    | exit i => exact hk
    | goto l => exact hk
    | panic c => exact hk.elim
    | outgrown => exact hk.elim

/-- what a variable of type T at p reads as -/
def Loads (P : Program) (h : Heap) (T : TypeId) (p : Addr) (v : Value) : Prop := ∀ w : World, w.heap = h → (loadVar T p).run P w = .ok v w
def resOk (P : Program) (b : Nat → Value) (h : Heap) : ResultVar → Value → Prop
  | .tmp t, v => b t = v
  | .cell t T, v => ∃ p, b t = .pointer (some p) ∧ Loads P h T p v
def ressOk (P : Program) (b : Nat → Value) (h : Heap) : List ResultVar → List Value → Prop
  | [], [] => True
  | r :: rs, v :: vs => resOk P b h r v ∧ ressOk P b h rs vs
  | _, _ => False
def resVal : List Value → Value
  | [v] => v
  | vs => .tuple vs.toArray
def resOne (tmps : Array Value) : ResultVar → Sem Value
  | .tmp t => pure (tmps.getD t undef)
  | .cell a t => do loadVar t (← asAddr (tmps.getD a undef))
theorem resOne_run {tmps : Array Value} {w : World} (hw : w.heap = h) {r : ResultVar} {v : Value} (hr : resOk P (fun t => tmps.getD t undef) h r v) : (resOne tmps r).run P w = .ok v w := by
  cases r with
  | tmp t => simp only [resOk] at hr; subst hr; rfl
  | cell t T =>
    obtain ⟨p, hp, hl⟩ := hr
    have hp' : tmps.getD t undef = .pointer (some p) := hp
    simp only [resOne, hp', asAddr, Sem.run_bind, Sem.run_pure, Result.andThen_ok, hl w hw]
theorem mapM_res {tmps : Array Value} {w : World} (hw : w.heap = h) : ∀ (rs : List ResultVar) (vs : List Value), ressOk P (fun t => tmps.getD t undef) h rs vs →
    (rs.mapM (resOne tmps)).run P w = .ok vs w
  | [], [], _ => by simp
  | r :: rs, v :: vs, hr => by
    rw [List.mapM_cons]
    simp only [Sem.run_bind, resOne_run hw hr.1, Result.andThen_ok, mapM_res hw rs vs hr.2, Sem.run_pure]
  | [], _ :: _, hr => hr.elim
  | _ :: _, [], hr => hr.elim
theorem results_ok {fn : Func} {tmps : Array Value} {rs : List ResultVar} {vs : List Value} (hr : fn.results = rs.toArray) (ho : ressOk P (fun t => tmps.getD t undef) h rs vs) (w : World) (hw : w.heap = h) :
    (results fn tmps).run P w = .ok (resVal vs) w := by
  have e : results fn tmps = (do let vs ← fn.results.mapM (resOne tmps); pure (if h : vs.size = 1 then vs[0] else .tuple vs)) := by
    unfold results
    congr 2
  rw [e, hr, List.mapM_toArray]
  simp only [Sem.run_bind, Sem.run_map, mapM_res hw rs vs ho, Result.andThen_ok, Sem.run_pure]
  congr 1
  match vs with
  | [] => rfl
  | [v] => rfl
  | v :: u :: vs => simp [resVal]
theorem ret_ok {fn : Func} {n : Nat} {L : List (Nat × Value)} {a : Act} {R : Value → Heap → Prop} (rs : List ResultVar) (vs : List Value) (v : Value) (hr : fn.results = rs.toArray) (hf : Fr a n L)
    (ho : ressOk P (fun t => lk L t (a.tmps.getD t undef)) h rs vs) (hv : resVal vs = v) (hR : R v h) : retK P fn R .ret a h := by
  subst hv
  refine ⟨hf.defers, _, fun w hw => results_ok hr ?_ w hw, hR⟩
  have : (fun t => lk L t (a.tmps.getD t undef)) = fun t => a.tmps.getD t undef := funext fun t => (hf.get t).symm
  rwa [this] at ho
end
end Go.Lane

namespace Go.Lane
open Go
section
variable {P : Program} {ops : Array Oper} {base : Nat → Value} {vals : Vals} {h : Heap} {i : Nat} {K : Exit → Act → Heap → Prop}

theorem w64 {x : Int} (h1 : -9223372036854775808 ≤ x) (h2 : x ≤ 9223372036854775807) : IntKind.i64.wrap x = x := by
  simp only [IntKind.wrap, IntKind.bits, IntKind.signed]
  simp
  omega

/-- operation i, if it is wanted -/
def opE (ops : Array Oper) (base : Nat → Value) (vals : Vals) (i : Nat) : Option Oper :=
  match ops[i]? with
  | some o => match wantedE ops (env ops base vals i) o with
    | true => some o
    | false => none
  | none => none
theorem does_of {R : Value → Heap → Prop} {o : Oper} (ho : opE ops base vals i = some o) (hf : EffU P (env ops base vals i) o h R) : Does P ops base vals i h R := by
  unfold opE at ho
  cases h1 : ops[i]? with
  | none => simp [h1] at ho
  | some o' =>
    simp only [h1] at ho
    cases h2 : wantedE ops (env ops base vals i) o' with
    | false => simp [h2] at ho
    | true =>
      simp only [h2, Option.some.injEq] at ho
      subst ho
      exact ⟨_, h1, h2, hf⟩
theorem does_split {R : Value → Heap → Prop} {α : Type} {f : Oper → Option α} {x : α} (hx : (opE ops base vals i).bind f = some x) (hf : ∀ o, f o = some x → EffU P (env ops base vals i) o h R) : Does P ops base vals i h R := by
  cases h1 : opE ops base vals i with
  | none => simp [h1] at hx
  | some o => exact does_of h1 (hf o (by simpa [h1] using hx))

/-! a call -/
def callF (P : Program) (e : Operand → Value) (o : Oper) : Option (FuncId × Array Value) :=
  match reck P (execOp e o) with
  | some (.enter f args) => some (f, args)
  | _ => none
def callOp (P : Program) (ops : Array Oper) (base : Nat → Value) (vals : Vals) (i : Nat) : Option (FuncId × Array Value) := (opE ops base vals i).bind (callF P (env ops base vals i))
theorem Does.call {R : Value → Heap → Prop} {f : FuncId} {args : Array Value} (hx : callOp P ops base vals i = some (f, args)) (hs : Sat P f args h R) : Does P ops base vals i h R := by
  refine does_split hx fun o ho w hw => ?_
  unfold callF at ho
  cases hc : reck P (execOp (env ops base vals i) o) with
  | none => simp [hc] at ho
  | some x =>
    rw [hc] at ho
    cases x <;> simp only [Option.some.injEq, Prod.mk.injEq] at ho <;> first | (cases ho; done) | skip
    obtain ⟨rfl, rfl⟩ := ho
    rw [reck_run hc w]
    exact ⟨Same.refl w, hw ▸ hs⟩

/-! a load -/
def loadF (e : Operand → Value) (o : Oper) : Option (TypeId × Addr) :=
  match o.op with
  | .load t x => match e x with
    | .pointer (some p) => some (t, p)
    | _ => none
  | _ => none
def loadOp (ops : Array Oper) (base : Nat → Value) (vals : Vals) (i : Nat) : Option (TypeId × Addr) := (opE ops base vals i).bind (loadF (env ops base vals i))
theorem Calm.load {T : TypeId} {p : Addr} {v : Value} (hx : loadOp ops base vals i = some (T, p)) (hl : Loads P h T p v) : Calm P ops base vals i h v := by
  refine does_split hx fun o ho w hw => ?_
  unfold loadF at ho
  cases hop : o.op with
  | load t x =>
    simp only [hop] at ho
    cases hv : env ops base vals i x with
    | pointer a =>
      cases a with
      | none => simp [hv] at ho
      | some a =>
        simp only [hv, Option.some.injEq, Prod.mk.injEq] at ho
        obtain ⟨rfl, rfl⟩ := ho
        have hr : (execOp (env ops base vals i) o).run P w = .ok (.value v) w := by
          unfold execOp
          simp only [hop, Instr.loadAt, hv, Instr.sureAddr, Sem.run_bind, Sem.run_pure, Result.andThen_ok, hl w hw]
        rw [hr]
        exact ⟨Same.refl w, rfl, hw⟩
    | _ => simp [hv] at ho
  | _ => simp [hop] at ho

def aggTy (P : Program) (T : TypeId) : Option (Bool × Nat) :=
  match P.underlying T, P.info? T with
  | some d, some i => some ((match d with | .struct _ | .array _ _ => true | _ => false), i.size)
  | _, _ => none
theorem Loads.one {T : TypeId} {p : Addr} {v : Value} {k : Nat} (ht : aggTy P T = some (false, k)) (hc : hcell h p = some v) : Loads P h T p v := by
  intro w hw
  unfold aggTy at ht
  cases hd : P.underlying T with
  | none => simp [hd] at ht
  | some d =>
    cases hi : P.info? T with
    | none => simp [hd, hi] at ht
    | some x =>
      simp only [hd, hi, Option.some.injEq, Prod.mk.injEq] at ht
      have hc' : w.cell? p = some v := by rw [hcell_eq hw]; exact hc
      have ha : (isAgg T).run P w = .ok false w := by
        unfold isAgg
        simp only [Sem.run_bind, run_underlying hd, Result.andThen_ok]
        cases d <;> first | rfl | (simp at ht)
      simp only [loadVar, Sem.run_bind, ha, Result.andThen_ok]
      simp [load, Sem.run, hc']
theorem Loads.agg {T : TypeId} {p : Addr} {vs : List Value} (ht : aggTy P T = some (true, vs.length)) (hc : ∀ j u, vs[j]? = some u → hcell h (p.add j) = some u) : Loads P h T p (.agg vs.toArray) := by
  intro w hw
  unfold aggTy at ht
  cases hd : P.underlying T with
  | none => simp [hd] at ht
  | some d =>
    cases hi : P.info? T with
    | none => simp [hd, hi] at ht
    | some x =>
      simp only [hd, hi, Option.some.injEq, Prod.mk.injEq] at ht
      have ha : (isAgg T).run P w = .ok true w := by
        unfold isAgg
        simp only [Sem.run_bind, run_underlying hd, Result.andThen_ok]
        cases d <;> first | rfl | (simp at ht)
      have hs : (sizeOf T).run P w = .ok vs.length w := by
        simp [sizeOf, typeInfo, hi, ht.2]
      have hl := run_loadCells_list (P := P) w p vs (fun j u hu => by rw [hcell_eq hw]; exact hc j u hu)
      simp [loadVar, ha, hs, hl]

/-! a store -/
def storeF (P : Program) (e : Operand → Value) (o : Oper) : Option (Addr × List Value) :=
  match o.op with
  | .store t x y => match e x, P.info? t with
    | .pointer (some p), some i => match Nat.beq (e y).cells.size i.size with
      | true => some (p, (e y).cells.toList)
      | false => none
    | _, _ => none
  | _ => none
def storeOp (P : Program) (ops : Array Oper) (base : Nat → Value) (vals : Vals) (i : Nat) : Option (Addr × List Value) := (opE ops base vals i).bind (storeF P (env ops base vals i))
def splice (l : List Value) (off : Nat) (vs : List Value) : List Value := l.take off ++ vs ++ l.drop (off + vs.length)
def hput (h : Heap) (b : Nat) (o : Obj) : Heap := h.setIfInBounds b o
theorem hput_same {h : Heap} {b : Nat} {o x : Obj} (e : h[b]? = some x) : (hput h b o)[b]? = some o := by
  simp [hput, blk_lt e]
theorem hput_grew (h : Heap) (b : Nat) (o : Obj) : Grew (some b) h (hput h b o) :=
  ⟨by simp [hput], fun k _ hne => by simp only [hput]; rw [Array.getElem?_setIfInBounds_ne]; simpa using Ne.symm (by simpa using hne)⟩
theorem setRow_hput {w : World} {b : Nat} {cs cs' : Array Value} {E : TypeId} {fr : Nat × Nat} (e : w.heap[b]? = some (.cells cs E fr)) : (w.setRow b cs').heap = hput w.heap b (.cells cs' E fr) := by
  apply Array.ext_getElem?
  intro k
  by_cases hk : k = b
  · subst hk
    rw [setRow_heap w k cs cs' E fr e, hput_same e]
  · rw [setRow_other w b k cs' hk]
    simp only [hput]
    rw [Array.getElem?_setIfInBounds_ne (Ne.symm hk)]
theorem Does.store {b off : Nat} {vs l : List Value} {E : TypeId} (hx : storeOp P ops base vals i = some (⟨b, off, none⟩, vs)) (hb : h[b]? = some (.cells l.toArray E (0, 0)))
    (hfit : off + vs.length ≤ l.length) (h1 : ∀ v ∈ vs, v.oneCell' = true) :
    Does P ops base vals i h fun v h' => v = undef ∧ h' = hput h b (.cells (splice l off vs).toArray E (0, 0)) := by
  refine does_split hx fun o ho w hw => ?_
  unfold storeF at ho
  cases hop : o.op with
  | store t x y =>
    simp only [hop] at ho
    cases hv : env ops base vals i x with
    | pointer a =>
      cases a with
      | none => simp [hv] at ho
      | some a =>
        cases hi : P.info? t with
        | none => simp [hv, hi] at ho
        | some inf =>
          simp only [hv, hi] at ho
          cases hs : Nat.beq (env ops base vals i y).cells.size inf.size with
          | false => simp [hs] at ho
          | true =>
            simp only [hs, Option.some.injEq, Prod.mk.injEq] at ho
            obtain ⟨rfl, rfl⟩ := ho
            have hsz := Nat.eq_of_beq_eq_true hs
            subst hw
            have hst := run_storeCells_at P b off E (env ops base vals i y).cells.toList 0 l.toArray w hb (by simpa using hfit) h1
            simp only [Nat.add_zero] at hst
            have hr : (execOp (env ops base vals i) o).run P w = .ok .skip (w.setRow b (splice l off (env ops base vals i y).cells.toList).toArray) := by
              unfold execOp
              simp only [hop, Instr.storeAt, hv, Instr.sureAddr, storeVar, sizeOf, typeInfo, program, Sem.run_bind, Sem.run_pure, Result.andThen_ok, Sem.run, hi, hsz]
              simp [hst, splice]
            rw [hr]
            exact ⟨⟨rfl, rfl, rfl⟩, rfl, setRow_hput hb⟩
    | _ => simp [hv] at ho
  | _ => simp [hop] at ho

/-! new blocks: one, of known contents -/
def newR (P : Program) {α : Type} (nb : Nat) : Sem α → Option (α × Obj)
  | .new o k => match reck P (k nb) with
    | some a => some (a, o)
    | none => none
  | .program k => newR P nb (k P)
  | .mark _ k => newR P nb k
  | _ => none
theorem newR_run {α : Type} {w : World} {nb : Nat} (hn : nb = w.heap.size) : ∀ {s : Sem α} {a : α} {o : Obj}, newR P nb s = some (a, o) → s.run P w = .ok a { w with heap := w.heap.push o }
  | .new o k, a, o', hh => by
    simp only [newR] at hh
    cases hc : reck P (k nb) with
    | none => simp [hc] at hh
    | some x =>
      simp only [hc, Option.some.injEq, Prod.mk.injEq] at hh
      obtain ⟨rfl, rfl⟩ := hh
      simp only [Sem.run, ← hn]
      exact reck_run hc _
  | .program k, a, o', hh => newR_run hn (s := k P) hh
  | .mark _ k, a, o', hh => newR_run hn (s := k) hh
  | .pure _, _, _, hh => by simp [newR] at hh
  | .load .., _, _, hh => by simp [newR] at hh
  | .store .., _, _, hh => by simp [newR] at hh
  | .shape .., _, _, hh => by simp [newR] at hh
  | .freeze .., _, _, hh => by simp [newR] at hh
  | .frozen .., _, _, hh => by simp [newR] at hh
  | .getObj .., _, _, hh => by simp [newR] at hh
  | .setObj .., _, _, hh => by simp [newR] at hh
  | .choose .., _, _, hh => by simp [newR] at hh
  | .sys .., _, _, hh => by simp [newR] at hh
  | .halt .., _, _, hh => by simp [newR] at hh
def newF (P : Program) (nb : Nat) (e : Operand → Value) (o : Oper) : Option (Value × Obj) :=
  match newR P nb (execOp e o) with
  | some (.value v, o) => some (v, o)
  | _ => none
def newOp (P : Program) (ops : Array Oper) (base : Nat → Value) (vals : Vals) (i nb : Nat) : Option (Value × Obj) := (opE ops base vals i).bind (newF P nb (env ops base vals i))
theorem Does.new {v : Value} {o : Obj} (hx : newOp P ops base vals i h.size = some (v, o)) : Does P ops base vals i h fun v' h' => v' = v ∧ h' = h.push o := by
  refine does_split hx fun op ho w hw => ?_
  subst hw
  unfold newF at ho
  cases hc : newR P w.heap.size (execOp (env ops base vals i) op) with
  | none => simp [hc] at ho
  | some x =>
    obtain ⟨x, o'⟩ := x
    rw [hc] at ho
    cases x <;> simp only [Option.some.injEq, Prod.mk.injEq] at ho <;> first | (cases ho; done) | skip
    obtain ⟨rfl, rfl⟩ := ho
    rw [newR_run rfl hc]
    exact ⟨⟨rfl, rfl, rfl⟩, rfl, rfl⟩

/-! an element's address -/
def ixF (P : Program) (e : Operand → Value) (o : Oper) : Option (Addr × Nat × Nat × Int) :=
  match o.op with
  | .indexAddr t x ix => match e ix with
    | .int _ n => match P.underlying t with
      | some (.slice el) => match e x, P.info? el with
        | .slice (some a) len _, some i => some (a, len, i.size, n)
        | _, _ => none
      | some (.array len el) => match e x, P.info? el with
        | .pointer (some a), some i => some (a, len, i.size, n)
        | _, _ => none
      | _ => none
    | _ => none
  | _ => none
def ixOp (P : Program) (ops : Array Oper) (base : Nat → Value) (vals : Vals) (i : Nat) : Option (Addr × Nat × Nat × Int) := (opE ops base vals i).bind (ixF P (env ops base vals i))
theorem Calm.index {a : Addr} {len sz : Nat} {k : Int} (j : Nat) (hx : ixOp P ops base vals i = some (a, len, sz, k)) (hk : k = (j : Int)) (hj : j < len) (h : Heap) : Calm P ops base vals i h (.pointer (some (a.add (j * sz)))) := by
  subst hk
  refine does_split hx fun o ho w hw => ?_
  have hlt : (0 : Int) ≤ (j : Int) ∧ (j : Int) < (len : Int) := ⟨by omega, by omega⟩
  have hr : (execOp (env ops base vals i) o).run P w = .ok (.value (.pointer (some (a.add (j * sz))))) w := by
    unfold ixF at ho
    cases hop : o.op with
    | indexAddr t x ix =>
      simp only [hop] at ho
      cases hi : env ops base vals i ix with
      | int kk n =>
        simp only [hi] at ho
        cases hu : P.underlying t with
        | none => simp [hu] at ho
        | some d =>
          cases d <;> simp only [hu] at ho <;> first | (cases ho; done) | skip
          · rename_i el
            cases hv : env ops base vals i x with
            | slice b l c =>
              cases b with
              | none => simp [hv] at ho
              | some b =>
                cases hinf : P.info? el with
                | none => simp [hv, hinf] at ho
                | some inf =>
                  simp only [hv, hinf, Option.some.injEq, Prod.mk.injEq] at ho
                  obtain ⟨rfl, rfl, rfl, rfl⟩ := ho
                  unfold execOp
                  simp [hop, Instr.indexAt, hi, hv, asIntOf, run_underlying hu, sizeOf, typeInfo, hinf, hlt]
                  omega
            | _ => simp [hv] at ho
          · rename_i n' el
            cases hv : env ops base vals i x with
            | pointer b =>
              cases b with
              | none => simp [hv] at ho
              | some b =>
                cases hinf : P.info? el with
                | none => simp [hv, hinf] at ho
                | some inf =>
                  simp only [hv, hinf, Option.some.injEq, Prod.mk.injEq] at ho
                  obtain ⟨rfl, rfl, rfl, rfl⟩ := ho
                  unfold execOp
                  simp [hop, Instr.indexAt, hi, hv, asIntOf, run_underlying hu, sizeOf, typeInfo, hinf, hlt, Instr.sureAddr]
                  omega
            | _ => simp [hv] at ho
      | _ => simp [hi] at ho
    | _ => simp [hop] at ho
  rw [hr]
  exact ⟨Same.refl w, rfl, hw⟩

/-! a piece of a slice -/
def optInt (e : Operand → Value) : Option Operand → Option (Option Int)
  | none => some none
  | some x => match e x with
    | .int _ n => some (some n)
    | _ => none
def slF (P : Program) (e : Operand → Value) (o : Oper) : Option (Option Addr × Nat × Nat × Nat × Option Int × Option Int × Option Int) :=
  match o.op with
  | .slice t x lo hi mx => match P.underlying t with
    | some (.slice el) => match e x, P.info? el, optInt e lo, optInt e hi, optInt e mx with
      | .slice a len cap, some i, some l, some h, some m => some (a, len, cap, i.size, l, h, m)
      | _, _, _, _, _ => none
    | _ => none
  | _ => none
def slOp (P : Program) (ops : Array Oper) (base : Nat → Value) (vals : Vals) (i : Nat) := (opE ops base vals i).bind (slF P (env ops base vals i))
theorem optInt_run {e : Operand → Value} {x : Option Operand} {r : Option Int} (hx : optInt e x = some r) : (x = none ∧ r = none) ∨ ∃ k n, x.map e = some (.int k n) ∧ r = some n := by
  cases x with
  | none => simp only [optInt, Option.some.injEq] at hx; exact .inl ⟨rfl, hx.symm⟩
  | some y =>
    simp only [optInt] at hx
    cases hv : e y with
    | int k n => simp only [hv, Option.some.injEq] at hx; exact .inr ⟨k, n, by simp [hv], hx.symm⟩
    | _ => simp [hv] at hx
theorem bound_run {k : IntKind} {n m : Nat} (hn : n ≤ m) (c : BoundsCode) (w : World) : (Instr.sliceBound (.int k (n : Int)) m c).run P w = .ok n w := by
  have : (0 : Int) ≤ (n : Int) ∧ (n : Int) ≤ (m : Int) := ⟨by omega, by omega⟩
  simp [Instr.sliceBound, asIntOf, this]
theorem bounds_run {len cap l r m : Nat} {lo hi mx : Option Value} (hm : mx = none ∧ m = cap ∨ (∃ k, mx = some (.int k (m : Int))) ∧ m ≤ cap ∧ hi.isSome = true) (hr : hi = none ∧ r = len ∨ ∃ k, hi = some (.int k (r : Int)))
    (hl : lo = none ∧ l = 0 ∨ ∃ k, lo = some (.int k (l : Int))) (hlr : l ≤ r) (hrm : r ≤ m) (w : World) : (Instr.sliceBounds true len cap lo hi mx).run P w = .ok (l, r, m) w := by
  rcases hm with ⟨rfl, rfl⟩ | ⟨⟨k3, rfl⟩, hm2, hm3⟩ <;> rcases hr with ⟨rfl, rfl⟩ | ⟨k2, rfl⟩ <;> rcases hl with ⟨rfl, rfl⟩ | ⟨k1, rfl⟩ <;>
    first | (simp at hm3; done) | simp [Instr.sliceBounds, bound_run, hlr, hrm, hm2] | simp [Instr.sliceBounds, bound_run, hlr, hrm]
theorem optInt_at {e : Operand → Value} {x : Option Operand} {n : Int} (hx : optInt e x = some (some n)) : ∃ k, x.map e = some (.int k n) := by
  rcases optInt_run hx with ⟨_, h⟩ | ⟨k, n', h1, h2⟩
  · cases h
  · simp only [Option.some.injEq] at h2; subst h2; exact ⟨k, h1⟩
theorem optInt_no {e : Operand → Value} {x : Option Operand} (hx : optInt e x = some none) : x.map e = none := by
  rcases optInt_run hx with ⟨h, _⟩ | ⟨k, n', h1, h2⟩
  · subst h; rfl
  · cases h2
theorem Calm.slice {a : Option Addr} {len cap sz : Nat} {lo hi mx : Option Int} (l r m : Nat) (hx : slOp P ops base vals i = some (a, len, cap, sz, lo, hi, mx))
    (hm : mx = none ∧ m = cap ∨ mx = some (m : Int) ∧ m ≤ cap ∧ hi.isSome = true) (hr : hi = none ∧ r = len ∨ hi = some (r : Int)) (hl : lo = none ∧ l = 0 ∨ lo = some (l : Int)) (hlr : l ≤ r) (hrm : r ≤ m) (h : Heap) :
    Calm P ops base vals i h (.slice (if m = l then a else a.map (·.add (l * sz))) (r - l) (m - l)) := by
  refine does_split hx fun o ho w hw => ?_
  have hrun : (execOp (env ops base vals i) o).run P w = .ok (.value (.slice (if m = l then a else a.map (·.add (l * sz))) (r - l) (m - l))) w := by
    unfold slF at ho
    cases hop : o.op with
    | slice t x lo' hi' mx' =>
      simp only [hop] at ho
      cases hu : P.underlying t with
      | none => simp [hu] at ho
      | some d =>
        cases d <;> simp only [hu] at ho <;> first | (cases ho; done) | skip
        rename_i el
        cases hv : env ops base vals i x with
        | slice b le ca =>
          cases hinf : P.info? el with
          | none => simp [hv, hinf] at ho
          | some inf =>
            simp only [hv, hinf] at ho
            cases h1 : optInt (env ops base vals i) lo' with
            | none => simp [h1] at ho
            | some lo1 =>
              cases h2 : optInt (env ops base vals i) hi' with
              | none => simp [h1, h2] at ho
              | some hi1 =>
                cases h3 : optInt (env ops base vals i) mx' with
                | none => simp [h1, h2, h3] at ho
                | some mx1 =>
                  simp only [h1, h2, h3, Option.some.injEq, Prod.mk.injEq] at ho
                  obtain ⟨rfl, rfl, rfl, rfl, rfl, rfl, rfl⟩ := ho
                  have hb : (Instr.sliceBounds true le ca (lo'.map (env ops base vals i)) (hi'.map (env ops base vals i)) (mx'.map (env ops base vals i))).run P w = .ok (l, r, m) w := by
                    refine bounds_run ?_ ?_ ?_ hlr hrm w
                    · rcases hm with ⟨e1, e2⟩ | ⟨e1, e2, e3⟩
                      · subst e1; exact .inl ⟨optInt_no h3, e2⟩
                      · subst e1
                        refine .inr ⟨optInt_at h3, e2, ?_⟩
                        cases hi1 with
                        | none => simp at e3
                        | some q => obtain ⟨k, hk⟩ := optInt_at h2; rw [hk]; rfl
                    · rcases hr with ⟨e1, e2⟩ | e1
                      · subst e1; exact .inl ⟨optInt_no h2, e2⟩
                      · subst e1; exact .inr (optInt_at h2)
                    · rcases hl with ⟨e1, e2⟩ | e1
                      · subst e1; exact .inl ⟨optInt_no h1, e2⟩
                      · subst e1; exact .inr (optInt_at h1)
                  unfold execOp
                  simp [hop, Instr.sliceAt, Instr.slice, hv, run_underlying hu, sizeOf, typeInfo, hinf, hb]
        | _ => simp [hv] at ho
    | _ => simp [hop] at ho
  rw [hrun]
  exact ⟨Same.refl w, rfl, hw⟩
end
end Go.Lane
namespace Go.Lane
open Go
section
variable {P : Program} {h : Heap}
theorem goodOf {ops : Array Oper} {base : Nat → Value} {vals : Vals} {i : Nat} {v : Value} (hc : Calm P ops base vals i h v) (hv : vals i = v := by rfl) : Good P ops base vals h i := by
  obtain ⟨o, ho, hw, hf⟩ := hc.does
  exact ⟨o, ho, .inl ⟨hw, by rw [hv]; exact hf⟩⟩
theorem Loads.blk {T : TypeId} {b off : Nat} {vs : List Value} {cs : Array Value} {E : TypeId} {fr : Nat × Nat} (ht : aggTy P T = some (true, vs.length)) (hb : h[b]? = some (.cells cs E fr)) (hv : (cs.toList.drop off).take vs.length = vs) : Loads P h T ⟨b, off, none⟩ (.agg vs.toArray) := by
  refine Loads.agg ht fun j u hu => ?_
  rw [add_lit, hcell_blk hb]
  rw [← hv, List.getElem?_take] at hu
  split at hu
  · rw [List.getElem?_drop] at hu; simpa using hu
  · cases hu
end
end Go.Lane

namespace Go.Lane
open Go
section
variable {P : Program} {ops : Array Oper} {base : Nat → Value} {vals : Vals} {h : Heap} {i : Nat}

theorem w64' {x y : Int} (h1 : -9223372036854775808 ≤ x) (h2 : x ≤ 9223372036854775807) (e : x = y) : IntKind.i64.wrap x = y := e ▸ w64 h1 h2

/-! a shift by a number that is told elsewhere -/
def shF (e : Operand → Value) (o : Oper) : Option (Bool × IntKind × Int × Int) :=
  match o.op with
  | .binOp .shr _ x y _ => match e x, e y with
    | .int k a, .int _ b => some (true, k, a, b)
    | _, _ => none
  | .binOp .shl _ x y _ => match e x, e y with
    | .int k a, .int _ b => some (false, k, a, b)
    | _, _ => none
  | _ => none
def shOp (ops : Array Oper) (base : Nat → Value) (vals : Vals) (i : Nat) := (opE ops base vals i).bind (shF (env ops base vals i))
theorem Calm.shr {k : IntKind} {x y : Int} (n : Nat) (hx : shOp ops base vals i = some (true, k, x, y)) (hy : y = (n : Int)) (hn : n ≤ k.bits) (h : Heap) : Calm P ops base vals i h (.int k (x.fdiv (2 ^ n))) := by
  subst hy
  refine does_split hx fun o ho w hw => ?_
  have hr : (execOp (env ops base vals i) o).run P w = .ok (.value (.int k (x.fdiv (2 ^ n)))) w := by
    unfold shF at ho
    cases hop : o.op with
    | binOp op T a b T' =>
      cases op <;> simp only [hop] at ho <;> first | (cases ho; done) | skip
      · cases ha : env ops base vals i a <;> cases hb : env ops base vals i b <;> simp [ha, hb] at ho
      · cases ha : env ops base vals i a <;> cases hb : env ops base vals i b <;> simp only [ha, hb] at ho <;> first | (cases ho; done) | skip
        simp only [Option.some.injEq, Prod.mk.injEq, true_and] at ho
        obtain ⟨rfl, rfl, rfl⟩ := ho
        have hneg : ¬ ((n : Int) < 0) := by omega
        unfold execOp
        simp [hop, eqGuard, binOp, ha, hb, Op.shift, hneg, Nat.min_eq_left hn]
    | _ => simp [hop] at ho
  rw [hr]
  exact ⟨Same.refl w, rfl, hw⟩

/-! append to one's own -/
def elF (P : Program) (t : TypeId) : Option (TypeId × Nat × Nat × Bool) :=
  match P.underlying t with
  | some (.slice e) => match P.info? e with
    | some i => some (e, i.size, i.bytes, match i.zero with | some z => Nat.beq z.cells.size i.size && Nat.blt 0 i.size | none => false)
    | none => none
  | _ => none
theorem elF_spec {t E : TypeId} {sz by_ : Nat} (he : elF P t = some (E, sz, by_, true)) : P.underlying t = some (.slice E) ∧ ∃ i z, P.info? E = some i ∧ i.zero = some z ∧ i.size = sz ∧ i.bytes = by_ ∧ z.cells.size = sz ∧ 0 < sz := by
  unfold elF at he
  cases hu : P.underlying t with
  | none => simp [hu] at he
  | some d =>
    cases d <;> simp only [hu] at he <;> first | (cases he; done) | skip
    rename_i e
    cases hi : P.info? e with
    | none => simp [hi] at he
    | some x =>
      simp only [hi, Option.some.injEq, Prod.mk.injEq] at he
      obtain ⟨rfl, h1, h2, h3⟩ := he
      cases hz : x.zero with
      | none => simp [hz] at h3
      | some z =>
        simp only [hz, Bool.and_eq_true] at h3
        have h4 := Nat.eq_of_beq_eq_true h3.1
        have h5 : 0 < x.size := by simpa using h3.2
        exact ⟨rfl, x, z, hi, hz, h1, h2, by omega, by omega⟩
def apF (e : Operand → Value) (o : Oper) : Option (TypeId × TypeId × Value × Value) :=
  match o.op with
  | .call c => match c.callee, c.args.toList, c.argTypes.toList with
    | .builtin .append, [s, x], [t, t'] => some (t, t', e s, e x)
    | _, _, _ => none
  | _ => none
def apOp (ops : Array Oper) (base : Nat → Value) (vals : Vals) (i : Nat) := (opE ops base vals i).bind (apF (env ops base vals i))
theorem apF_run {e : Operand → Value} {o : Oper} {t t' : TypeId} {v x : Value} (hx : apF e o = some (t, t', v, x)) (w : World) {r : Value} {w' : World} (hr : (Builtin.append_ #[t, t'] o.type #[v, x]).run P w = .ok r w') :
    (execOp e o).run P w = .ok (.value r) w' := by
  unfold apF at hx
  cases hop : o.op with
  | call c =>
    obtain ⟨cal, args, tys⟩ := c
    obtain ⟨args⟩ := args
    obtain ⟨tys⟩ := tys
    simp only [hop] at hx
    split at hx
    · skip
      simp only [Option.some.injEq, Prod.mk.injEq] at hx
      obtain ⟨rfl, rfl, rfl, rfl⟩ := hx
      unfold execOp
      simp only [hop, resolve, invoke, builtin, Sem.run_bind, Sem.run_pure, Result.andThen_ok, List.map_toArray, List.map_cons, List.map_nil, hr]
    · cases hx
  | _ => simp [hop] at hx

theorem Does.append {t E : TypeId} {sz by_ n m : Nat} {v x : Value} {xs ys : List Value} (hx : apOp ops base vals i = some (t, t, v, x)) (he : elF P t = some (E, sz, by_, true))
    (ho : Own h v E n sz xs) (hr : Row h x m sz ys) (h1 : ∀ u ∈ ys, u.oneCell' = true) (hlen : n + m ≤ maxLen) (hbytes : (n + m) * by_ ≤ 140737488355328) :
    Does P ops base vals i h fun v' h' => Own h' v' E (n + m) sz (xs ++ ys) ∧ Grew (blkOf v) h h' ∧ (blkOf v' = blkOf v ∨ blkOf v' = some h.size) ∧ (v' = .slice none 0 0 ∨ ∃ a c, v' = .slice (some a) (n + m) c) := by
  obtain ⟨hu, inf, z, hi, hz, hsize, hby, hzs, hpos⟩ := elF_spec he
  subst hsize; subst hby
  have hlen' : (xs ++ ys).length = (n + m) * inf.size := by rw [List.length_append, ho.1, hr.1, Nat.add_mul]
  have h63 : n + m ≤ 9223372036854775807 := by simp only [maxLen] at hlen; omega
  refine does_split hx fun o hop w hw => ?_
  subst hw
  -- a new row
  have grown : ∀ (old : Nat), old < n + m → ∀ b, (w.drew.alloc (.cells (xs.toArray ++ ys.toArray ++ Builtin.zeroCells z.cells (grownCap w (n + m) old E - (n + m))) E)).heap = b →
      Own b (.slice (some ⟨w.heap.size, 0, none⟩) (n + m) (grownCap w (n + m) old E)) E (n + m) inf.size (xs ++ ys) ∧ Ext w.heap b := by
    intro old hold b hb
    subst hb
    have hge := grownCap_ge w (n + m) old E
    have hcm := grownCap_le_maxLen w (n + m) old E hlen
    refine ⟨⟨hlen', .inr ⟨w.heap.size, 0, _, _, rfl, heap_alloc_new w.drew _, hge, hcm, ?_, ?_⟩⟩, Ext.push _ _⟩
    · simp only [Array.size_append, List.size_toArray, size_zeroCells, hzs, ho.1, hr.1, ← Nat.add_mul]
      apply Nat.le_of_eq
      rw [Nat.zero_add]
      congr 1
      omega
    · simp only [Array.toList_append, List.append_assoc, List.drop_zero]
      rw [← List.append_assoc, ← hlen']
      exact List.take_left
  suffices key : ∃ v' w', (Builtin.append_ #[t, t] o.type #[v, x]).run P w = .ok v' w' ∧ Same w w' ∧ Own w'.heap v' E (n + m) inf.size (xs ++ ys) ∧ Grew (blkOf v) w.heap w'.heap ∧ (blkOf v' = blkOf v ∨ blkOf v' = some w.heap.size) ∧
      (v' = .slice none 0 0 ∨ ∃ a c, v' = .slice (some a) (n + m) c) by
    obtain ⟨v', w', hrun, hs, r⟩ := key
    rw [apF_run hop w hrun]
    exact ⟨hs, r⟩
  rcases ho.2 with ⟨hv, hn⟩ | ⟨g, off, cap, l, hv, hg, hnc, hcm, hfit, htake⟩
  · subst hv; subst hn
    have hxs : xs = [] := List.eq_nil_of_length_eq_zero (by simpa using ho.1)
    subst hxs
    by_cases hm : m = 0
    · subst hm
      have hys : ys = [] := List.eq_nil_of_length_eq_zero (by simpa using hr.1)
      subst hys
      refine ⟨.slice none 0 0, w, ?_, Same.refl w, Own.nil _ _ _, Grew.refl _ _, .inl rfl, .inl rfl⟩
      rcases hr.2 with ⟨hxv, _⟩ | ⟨a, c, hxv, _, _⟩ <;> subst hxv <;>
        simp [Builtin.append_, run_underlying hu, sizeOf, typeInfo, hi, Builtin.lenOf, Builtin.firstCells, loadCells, loadCellsFrom]
    · obtain ⟨a, c, hxv, _, hcells⟩ := hr.at (by omega)
      subst hxv
      have hrun := run_append_nil (P := P) w t o.type E inf z hu hi hz a m c ys hr.1 (fun j u hu => hcells j u hu) (by omega) (by omega) (by have hb := hbytes; simp only [Nat.zero_add] at hb; omega)
      have hgr := grown 0 (by omega) _ rfl
      simp only [Nat.zero_add, List.nil_append, Array.empty_append] at hgr ⊢
      exact ⟨_, _, hrun, ⟨rfl, rfl, rfl⟩, hgr.1, hgr.2.but _, .inr rfl, .inr ⟨_, _, rfl⟩⟩
  · subst hv
    by_cases hroom : n + m ≤ cap
    · have hfirst : (Builtin.firstCells inf.size m x).run P w = .ok ys.toArray w := by
        rcases hr.2 with ⟨hxv, hm⟩ | ⟨a, c, hxv, _, hcells⟩
        · subst hxv; subst hm
          have hys : ys = [] := List.eq_nil_of_length_eq_zero (by simpa using hr.1)
          subst hys; rfl
        · subst hxv; exact run_firstCells_some (P := P) w inf.size m a m c ys hr.1 (fun j u hu => hcells j u hu)
      have hlenx : (Builtin.lenOf x).run P w = .ok m w := by
        rcases hr.2 with ⟨hxv, hm⟩ | ⟨a, c, hxv, _, _⟩ <;> subst hxv <;> simp [Builtin.lenOf, *]
      have hmul : n * inf.size + m * inf.size ≤ cap * inf.size := by rw [← Nat.add_mul]; exact Nat.mul_le_mul_right _ hroom
      have hfit2 : (off + n * inf.size) + 0 + ys.length ≤ l.size := by rw [hr.1]; omega
      have hst := run_storeCells_at P g (off + n * inf.size) E ys 0 l w hg hfit2 h1
      simp only [Nat.add_zero] at hst
      have hrun : (Builtin.append_ #[t, t] o.type #[.slice (some ⟨g, off, none⟩) n cap, x]).run P w =
          .ok (.slice (some ⟨g, off, none⟩) (n + m) cap) (w.setRow g (l.toList.take (off + n * inf.size) ++ ys ++ l.toList.drop (off + n * inf.size + ys.length)).toArray) := by
        simp [Builtin.append_, run_underlying hu, sizeOf, typeInfo, hi, hlenx, hroom, hfirst, add_lit, hst]
      have hh := setRow_hput (cs' := (l.toList.take (off + n * inf.size) ++ ys ++ l.toList.drop (off + n * inf.size + ys.length)).toArray) hg
      refine ⟨_, _, hrun, ⟨rfl, rfl, rfl⟩, ?_, ?_, .inl rfl, .inr ⟨_, _, rfl⟩⟩
      · rw [hh]
        refine ⟨hlen', .inr ⟨g, off, cap, _, rfl, hput_same hg, hroom, hcm, ?_, ?_⟩⟩
        · simp only [List.size_toArray, List.length_append, List.length_take, List.length_drop, Array.length_toList]
          rw [hr.1] at hfit2 ⊢
          omega
        · simp only [List.append_assoc]
          have hl1 : (l.toList.take (off + n * inf.size)).length = off + n * inf.size := by
            rw [List.length_take, Array.length_toList]; rw [hr.1] at hfit2; omega
          rw [List.drop_append_of_le_length (by omega)]
          have hxs : (l.toList.take (off + n * inf.size)).drop off = xs := by
            rw [List.drop_take, Nat.add_sub_cancel_left]; exact htake
          rw [hxs, ← List.append_assoc, ← hlen']
          exact List.take_left
      · rw [hh]; exact hput_grew _ _ _
    · have hm : 0 < m := by omega
      obtain ⟨a, c, hxv, _, hcells⟩ := hr.at hm
      subst hxv
      have hrow := ho.row
      have holds : ∀ j u, xs[j]? = some u → w.cell? ((⟨g, off, none⟩ : Addr).add j) = some u := by
        intro j u hu'
        obtain ⟨a', c', e', _, hc'⟩ := hrow.2.resolve_left (by simp)
        simp only [Value.slice.injEq, Option.some.injEq] at e'
        rw [e'.1]
        exact hc' j u hu'
      have hrun := run_append_grow (P := P) w t o.type E inf z hu hi hz ⟨g, off, none⟩ n cap xs ho.1 holds a m c ys hr.1 (fun j u hu => hcells j u hu) (by omega) (by omega) (growslice_fits (by omega) hbytes)
      have hgr := grown cap (by omega) _ rfl
      exact ⟨_, _, hrun, ⟨rfl, rfl, rfl⟩, hgr.1, hgr.2.but _, .inr rfl, .inr ⟨_, _, rfl⟩⟩
end
end Go.Lane
namespace Go.Lane
open Go
section
variable {P : Program} {ops : Array Oper} {base : Nat → Value} {vals : Vals} {i : Nat}
theorem Calm.indexA {a : Addr} {len sz : Nat} {k : Int} (j q : Nat) (hx : ixOp P ops base vals i = some (a, len, sz, k)) (hk : k = (j : Int)) (hj : j < len) (hq : j * sz = q) (h : Heap) : Calm P ops base vals i h (.pointer (some (a.add q))) :=
  hq ▸ Calm.index j hx hk hj h
theorem Calm.indexB {b off len sz : Nat} {k : Int} (j q : Nat) (hx : ixOp P ops base vals i = some (⟨b, off, none⟩, len, sz, k)) (hk : k = (j : Int)) (hj : j < len) (hq : off + j * sz = q) (h : Heap) : Calm P ops base vals i h (.pointer (some ⟨b, q, none⟩)) := by
  have := Calm.index (P := P) j hx hk hj h
  rwa [add_lit, hq] at this
end
end Go.Lane

namespace Go.Lane
open Go
section
variable {P : Program} {K : Exit → Act → Heap → Prop} {B : Code} {p : List Nat} {a : Act} {h : Heap}
def Crounds (P : Program) (B : Code) (p0 : List Nat) (K : Exit → Act → Heap → Prop) : Nat → Act → Heap → Prop
  | 0, _, _ => False
  | n + 1, a, h => C P (sub B p0) (thenK (Crounds P B p0 K n) K) a h
theorem Cround.step {p0 : List Nat} {n : Nat} (hh : C P (sub B p0) (thenK (Crounds P B p0 K n) K) a h) : Crounds P B p0 K (n + 1) a h := hh
theorem C.unroll (n : Nat) (p0 : List Nat) (hc : sub B p = .loop (sub B p0)) (hh : Crounds P B p0 K n a h) : C P (sub B p) K a h := by
  rw [hc]
  intro w hw
  refine wp_loop_rounds n ?_
  have key : ∀ n a w', Same w w' → Crounds P B p0 K n a w'.heap → Code.rounds P (sub B p0) (fun e a' w'' => Same w w'' ∧ K e a' w''.heap) n a w' := by
    intro n
    induction n with
    | zero => intro a w' _ hh; exact hh.elim
    | succ n ih =>
      intro a w' hs hh
      refine wp_mono (hh w' rfl) fun e a2 w2 ⟨s, k⟩ => ?_
      cases e with
      | normal => exact ih a2 w2 (hs.trans s) k
      | exit i => exact ⟨hs.trans s, k⟩
      | goto l => exact ⟨hs.trans s, k⟩
      | ret => exact ⟨hs.trans s, k⟩
      | panic c => exact ⟨hs.trans s, k⟩
      | outgrown => exact ⟨hs.trans s, k⟩
  exact key n a w (Same.refl w) (hw ▸ hh)
theorem tmodN (x n : Nat) : Int.tmod (x : Int) (n : Int) = ((x % n : Nat) : Int) := by
  rw [Int.natCast_emod]; exact Int.tmod_eq_emod_of_nonneg (Int.natCast_nonneg _)
theorem tdivN (x n : Nat) : Int.tdiv (x : Int) (n : Int) = ((x / n : Nat) : Int) := by
  rw [Int.natCast_ediv]; exact Int.tdiv_eq_ediv_of_nonneg (Int.natCast_nonneg _)
end
end Go.Lane
namespace Go.Lane
open Go
theorem ret_okN {P : Program} {h : Heap} {fn : Func} {n : Nat} {L : List (Nat × Value)} {a : Act} {R : Value → Heap → Prop} (rs : List ResultVar) (vs : List Value) (v : Value) (hr : fn.results = rs.toArray) (hf : Fr a n L)
    (ho : ressOk P (fun t => lk L t (a.tmps.getD t undef)) h rs vs) (hv : resVal vs = v) (hR : R v h) : retK P fn R .normal a h := ret_ok rs vs v hr hf ho hv hR
end Go.Lane
namespace Go.Lane
open Go
theorem hput_at {h h' : Heap} {b off : Nat} {l vs l' : List Value} {E : TypeId} {x : Obj} (hh : h' = hput h b (.cells (splice l off vs).toArray E (0, 0))) (e : splice l off vs = l') (m : h[b]? = some x) : h'[b]? = some (.cells l'.toArray E) := by
  subst hh; rw [e]; exact hput_same m
theorem hput_gr {h h' : Heap} {b : Nat} {o : Obj} (hh : h' = hput h b o) : Grew (some b) h h' := by subst hh; exact hput_grew _ _ _
theorem push_at {h h' : Heap} {o : Obj} (hh : h' = h.push o) : h'[h.size]? = some o := by subst hh; exact push_new _ _
theorem push_ext {h h' : Heap} {o : Obj} (hh : h' = h.push o) : Ext h h' := by subst hh; exact Ext.push _ _
end Go.Lane
namespace Go.Lane
open Go
theorem ge_next {B n : Nat} {o o' : Option Nat} (h : ∀ k, o = some k → B ≤ k) (hb : o' = o ∨ o' = some n) (hn : B ≤ n) : ∀ k, o' = some k → B ≤ k := by
  intro k hk
  rcases hb with e | e
  · exact h k (e ▸ hk)
  · rw [e] at hk; cases hk; exact hn
theorem Own.empty {h : Heap} {g : Nat} {E : TypeId} (sz : Nat) (m : h[g]? = some (.cells #[] E)) : Own h (.slice (some ⟨g, 0, none⟩) 0 0) E 0 sz [] :=
  ⟨by simp, .inr ⟨g, 0, 0, #[], rfl, m, Nat.le_refl _, by simp [maxLen], by simp, by simp⟩⟩
theorem Row.blk {h : Heap} {b n sz : Nat} {l : List Value} {E : TypeId} {fr : Nat × Nat} (m : h[b]? = some (.cells l.toArray E fr)) (hn : l.length = n * sz) : Row h (.slice (some ⟨b, 0, none⟩) n n) n sz l :=
  ⟨hn, .inr ⟨_, _, rfl, Nat.le_refl _, fun j u hu => by rw [add_lit, hcell_blk m]; simpa using hu⟩⟩
theorem not_decide_true {p : Prop} [Decidable p] (h : (!decide p) = true) : ¬ p := by simpa using h
theorem not_decide_false {p : Prop} [Decidable p] (h : (!decide p) = false) : p := by simpa using h
theorem blk_ge {B : Nat} (x : Nat) (h : B ≤ x) : ∀ k, (some ⟨x, 0, none⟩ : Option Addr).map (·.block) = some k → B ≤ k := by
  intro k hk; simp at hk; omega
end Go.Lane
namespace Go.Lane
open Go
theorem Own.app {α : Type} {h : Heap} {ad : Option Addr} {n m c sz : Nat} {E : TypeId} {f : α → Value} {L Y L2 : List α} (o : Own h (.slice ad (n + m) c) E (n + m) sz (L.map f ++ Y.map f)) (hL : L ++ Y = L2) (hn : n + m = L2.length) :
    Own h (.slice ad L2.length c) E L2.length sz (L2.map f) := by
  subst hL; rw [List.map_append, ← hn]; exact o
end Go.Lane
namespace Go.Lane
open Go
theorem Loads.all {P : Program} {h : Heap} {T : TypeId} {b : Nat} {vs : List Value} {E : TypeId} {fr : Nat × Nat} (ht : aggTy P T = some (true, vs.length)) (hb : h[b]? = some (.cells vs.toArray E fr)) : Loads P h T ⟨b, 0, none⟩ (.agg vs.toArray) :=
  Loads.blk ht hb (by simp)
end Go.Lane

namespace Go.Lane
open Go
@[reducible] def pV (b : Nat) : Value := .pointer (some ⟨b, 0, none⟩)
@[reducible] def nV (k : Nat) : Value := .int .i64 ((k : Nat) : Int)
section
variable {P : Program} {B : Code} {p : List Nat} {K : Exit → Act → Heap → Prop} {a : Act} {h : Heap} {ops : Array Oper} {base : Nat → Value} {vals : Vals} {n : Nat}
theorem cS (hh : C P (sub B (p ++ [0])) (thenK (fun a h => C P (sub B (p ++ [1])) K a h) K) a h) (hc : sub B p = .seq (sub B (p ++ [0])) (sub B (p ++ [1])) := by kernel_rfl) : C P (sub B p) K a h := C.seq _ _ hc hh
theorem tK {N : Act → Heap → Prop} (hh : N a h) : thenK N K .normal a h := hh
theorem cP {L : List (Nat × Value)} (id : Nat) (hf : Fr a n L) (hh : SeqK P (opsAt B p) n (fun t => lk L t (a.tmps.getD t undef)) K 0 (fun _ => undef) h) (hc : sub B p = .region id (opsAt B p) false := by kernel_rfl) (hok : dstOk (opsAt B p) n = true := by kernel_rfl) : C P (sub B p) K a h := C.plain id hc hf hok hh
theorem cD {L : List (Nat × Value)} (A : List Nat) (id : Nat) (hm : P.follows .mixedOrders = true) (hf : Fr a n L) (hh : SimK P (opsAt B p) A n (fun t => lk L t (a.tmps.getD t undef)) K 0 0 0 (fun _ => undef) h) (hc : sub B p = .region id (opsAt B p) true := by kernel_rfl) (hok : regOk (opsAt B p) A n = true := by kernel_rfl) : C P (sub B p) K a h := C.draw id hc hm hf hok hh
theorem sP {k : Nat} (k' : Nat) (vs : List Value) (hs : SeqK P ops n base K k' (vseq vals k vs) h) (hp : seqVals P ops base k vs vals = vs.map some := by kernel_rfl) (hk : k + vs.length = k' := by rfl) : SeqK P ops n base K k vals h := SeqK.pures vs hp hk hs
theorem sD {k : Nat} (L : List (Nat × Value)) (hQ : ∀ a, Fr a n L → K .normal a h) (hk : k = ops.size := by kernel_rfl) (hL : ((L.map Prod.fst).map fun t => (t, slotE ops base vals k t)) = L := by kernel_rfl) : SeqK P ops n base K k vals h := SeqK.done _ hk hL hQ
theorem mD {A : List Nat} {D X Wd : Nat} (L : List (Nat × Value)) (hQ : ∀ a, Fr a n L → K .normal a h) (hD : D = 2 ^ ops.size - 1 := by kernel_rfl) (hL : ((L.map Prod.fst).map fun t => (t, slotS ops base vals (fun _ => true) t)) = L := by kernel_rfl) : SimK P ops A n base K D X Wd vals h := SimK.done _ hD hL hQ
theorem mP {A : List Nat} {D X Wd : Nat} (D' : Nat) (is : List Nat) (vs : List Value) (hs : SimK P ops A n base K D' X Wd (vsets vals is vs) h) (hp : pureVals P ops A base is vs D vals Wd = some (vs.map some, D') := by kernel_rfl) : SimK P ops A n base K D X Wd vals h := SimK.pures hp hs
theorem s1 {k : Nat} (k' : Nat) (v v' : Value) (e : v' = v) (hs : SeqK P ops n base K k' (vset vals k v) h) (hv : pureVal P ops base vals k = some v' := by kernel_rfl) (hk : k + 1 = k' := by rfl) : SeqK P ops n base K k vals h := SeqK.pure1 hv e hk hs
theorem sC {k : Nat} (k' : Nat) (v : Value) (hd : Calm P ops base vals k h v) (hs : SeqK P ops n base K k' (vset vals k v) h) (hk : k + 1 = k' := by rfl) : SeqK P ops n base K k vals h := SeqK.calm hd hk hs
theorem m1 {A : List Nat} {D X Wd : Nat} (D' i : Nat) (v v' : Value) (e : v' = v) (hs : SimK P ops A n base K D' X Wd (vset vals i v) h) (hc : (canReg ops A D i && !(Wd.testBit i)) = true := by kernel_rfl) (hD : D ||| 2 ^ i = D' := by kernel_rfl) (hv : pureVal P ops base vals i = some v' := by kernel_rfl) : SimK P ops A n base K D X Wd vals h := SimK.pure1 hc hD hv e hs
theorem mF {A : List Nat} {D X Wd : Nat} (D' i : Nat) (v : Value) (hv : ∀ h', Calm P ops base vals i h' v) (hs : SimK P ops A n base K D' X Wd (vset vals i v) h) (hc : (canReg ops A D i && !(Wd.testBit i)) = true := by kernel_rfl) (hD : D ||| 2 ^ i = D' := by kernel_rfl) : SimK P ops A n base K D X Wd vals h := SimK.free hc hD hv hs
theorem mL {A : List Nat} {D X Wd : Nat} (D' Wd' i : Nat) (v : Value) (hv : Calm P ops base vals i h v) (hs : SimK P ops A n base K D' X Wd' (vset vals i v) h) (hc : canReg ops A D i = true := by kernel_rfl) (hD : D ||| 2 ^ i = D' := by kernel_rfl) (hW : Wd ||| 2 ^ i = Wd' := by kernel_rfl) : SimK P ops A n base K D X Wd vals h := SimK.look hc hD hW hv hs
theorem cT {L : List (Nat × Value)} (t : Nat) (hf : Fr a n L) (hh : C P (sub B (p ++ [0])) K a h) (hc : sub B p = .cond (.tmp t) (sub B (p ++ [0])) (sub B (p ++ [1])) := by kernel_rfl) (hv : ∀ d, lk L t d = .bool true := by intro _; rfl) : C P (sub B p) K a h := C.condT t _ _ hc hf hv hh
theorem cF {L : List (Nat × Value)} (t : Nat) (hf : Fr a n L) (hh : C P (sub B (p ++ [1])) K a h) (hc : sub B p = .cond (.tmp t) (sub B (p ++ [0])) (sub B (p ++ [1])) := by kernel_rfl) (hv : ∀ d, lk L t d = .bool false := by intro _; rfl) : C P (sub B p) K a h := C.condF t _ _ hc hf hv hh
theorem cC {L : List (Nat × Value)} (t : Nat) (b : Bool) (hf : Fr a n L) (ht : b = true → C P (sub B (p ++ [0])) K a h) (he : b = false → C P (sub B (p ++ [1])) K a h) (hc : sub B p = .cond (.tmp t) (sub B (p ++ [0])) (sub B (p ++ [1])) := by kernel_rfl) (hv : ∀ d, lk L t d = .bool b := by intro _; rfl) : C P (sub B p) K a h := C.condS t b _ _ hc hf hv ht he
theorem cN (hh : K .normal a h) (hc : sub B p = .skip := by kernel_rfl) : C P (sub B p) K a h := C.skip hc hh
theorem cX (id : Nat) (hh : K (.exit id) a h) (hc : sub B p = .exit id := by kernel_rfl) : C P (sub B p) K a h := C.exit id hc hh
theorem cR (hh : K .ret a h) (hc : sub B p = .ret := by kernel_rfl) : C P (sub B p) K a h := C.ret hc hh
theorem cB (id : Nat) (hh : C P (sub B (p ++ [0])) (blockK id K) a h) (hc : sub B p = .block id (sub B (p ++ [0])) := by kernel_rfl) : C P (sub B p) K a h := C.block id _ hc hh
theorem Fr.to {L L' : List (Nat × Value)} (hf : Fr a n L) (hL : ∀ g : Nat → Value, ((L'.map Prod.fst).map fun t => (t, lk L t (g t))) = L' := by intro g; kernel_rfl) : Fr a n L' := by
  rw [← hL fun t => a.tmps.getD t undef]
  exact ⟨hf.defers, hf.size, fun t => lk_zip hf.get _ t⟩
end
end Go.Lane

