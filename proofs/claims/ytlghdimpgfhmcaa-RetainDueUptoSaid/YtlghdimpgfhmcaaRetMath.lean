/- Records and places as the memory holds them. No condition but those that each theorem names. -/
import Derived.Test.YtlghdimpgfhmcaaTreeMath
import Derived.Lib.Bytealg
namespace Go.Sha
open Go Go.Lane
/-! ### lists of parts of one size -/
section
variable {α : Type} {f : α → List Value} {k : Nat}
theorem fm_length (hf : ∀ x, (f x).length = k) : ∀ L : List α, (L.flatMap f).length = L.length * k
  | [] => by simp
  | x :: L => by rw [List.flatMap_cons, List.length_append, hf, fm_length hf L, List.length_cons, Nat.add_mul, Nat.one_mul]; omega
theorem fm_drop (hf : ∀ x, (f x).length = k) : ∀ (L : List α) (i : Nat), (L.flatMap f).drop (i * k) = (L.drop i).flatMap f
  | [], i => by simp
  | x :: L, 0 => by simp
  | x :: L, i + 1 => by
    rw [List.flatMap_cons, Nat.add_mul, Nat.one_mul, Nat.add_comm, ← List.drop_drop, List.drop_left' (hf x), fm_drop hf L i, List.drop_succ_cons]
theorem fm_take (hf : ∀ x, (f x).length = k) : ∀ (L : List α) (i : Nat), (L.flatMap f).take (i * k) = (L.take i).flatMap f
  | [], i => by simp
  | x :: L, 0 => by simp
  | x :: L, i + 1 => by
    rw [List.flatMap_cons, List.take_append, hf, List.take_of_length_le (by rw [hf, Nat.add_mul]; omega), Nat.add_mul, Nat.one_mul, Nat.add_sub_cancel, fm_take hf L i, List.take_succ_cons, List.flatMap_cons]
theorem fm_get (hf : ∀ x, (f x).length = k) {L : List α} {d : α} {i j : Nat} {u : Value} (hi : i < L.length) (hu : (f (L.getD i d))[j]? = some u) : (L.flatMap f)[i * k + j]? = some u := by
  have hj : j < k := by
    apply Nat.lt_of_not_le; intro hh
    rw [List.getElem?_eq_none (by rw [hf]; exact hh)] at hu; cases hu
  rw [← List.getElem?_drop, fm_drop hf, List.drop_eq_getElem_cons hi, List.flatMap_cons, List.getElem?_append_left (by rw [hf]; exact hj)]
  simpa [List.getD, hi] using hu
theorem fm_set (hf : ∀ x, (f x).length = k) {L : List α} {i : Nat} {x : α} (hi : i < L.length) : splice (L.flatMap f) (i * k) (f x) = (L.set i x).flatMap f := by
  unfold splice
  rw [fm_take hf, hf, show i * k + k = (i + 1) * k by rw [Nat.add_mul, Nat.one_mul], fm_drop hf, List.set_eq_take_append_cons_drop, if_pos hi, List.flatMap_append, List.flatMap_cons, List.append_assoc]
theorem fm_ones (hf : ∀ x, ∀ u ∈ f x, u.oneCell' = true) (L : List α) : ∀ u ∈ L.flatMap f, u.oneCell' = true := fun u hu => by
  obtain ⟨x, _, h⟩ := List.mem_flatMap.1 hu; exact hf x u h
theorem Row.fm {P : Program} {h : Heap} {a : Addr} {n m cap : Nat} {L : List α} {d : α} (hf : ∀ x, (f x).length = k) (r : Row h (.slice (some a) n cap) m k (L.flatMap f)) {T : TypeId} {i q : Nat} (ht : aggTy P T = some (true, k)) (hi : i < L.length) (hq : q = i * k) :
    Loads P h T (a.add q) (.agg (f (L.getD i d)).toArray) := by
  subst hq
  refine Loads.agg (by rw [hf]; exact ht) fun j u hu => ?_
  rw [add_add]
  exact r.cells _ _ (fm_get hf hi hu)
end
/-! ### a place -/
structure Pl where
  dv : Int
  pt : Int
  ln : Int
  bd : Bool
@[reducible] def pcs (p : Pl) : List Value := [.int .i64 p.dv, .int .i64 p.pt, .int .i64 p.ln, .bool p.bd]
def pl0 : Pl := ⟨0, 0, 0, false⟩
@[reducible] def prow (L : List Pl) : List Value := L.flatMap pcs
theorem pcs_len (p : Pl) : (pcs p).length = 4 := rfl
theorem pcs_one (p : Pl) : ∀ u ∈ pcs p, u.oneCell' = true := fun u hu => by
  simp only [pcs, List.mem_cons, List.not_mem_nil, or_false] at hu; rcases hu with rfl | rfl | rfl | rfl <;> rfl
theorem prow_len (L : List Pl) : (prow L).length = L.length * 4 := fm_length pcs_len L
theorem prow_one (L : List Pl) : ∀ u ∈ prow L, u.oneCell' = true := fm_ones pcs_one L
/-! ### a record -/
structure RB where
  id : ByteArray
  len : Int
  root : Nat → UInt8
  idx : Int
def rb0 : RB := ⟨ByteArray.empty, 0, fun _ => 0, 0⟩
def rbs (s : ByteArray) : RB := ⟨s, 0, fun _ => 0, 0⟩
@[reducible] def rc (x : RB) (e : Int) (ho go : Bool) (c : Value) : List Value := [.string x.id, .int .i64 x.len, bv (x.root 0), bv (x.root 1), bv (x.root 2), bv (x.root 3), bv (x.root 4), bv (x.root 5), bv (x.root 6), bv (x.root 7), bv (x.root 8), bv (x.root 9), bv (x.root 10), bv (x.root 11), bv (x.root 12), bv (x.root 13), bv (x.root 14), bv (x.root 15), bv (x.root 16), bv (x.root 17), bv (x.root 18), bv (x.root 19), bv (x.root 20), bv (x.root 21), bv (x.root 22), bv (x.root 23), bv (x.root 24), bv (x.root 25), bv (x.root 26), bv (x.root 27), bv (x.root 28), bv (x.root 29), bv (x.root 30), bv (x.root 31), .int .i64 x.idx, .int .i64 e, .bool ho, .bool go, c]
@[reducible] def hl (x : RB) : List UInt8 := [x.root 0, x.root 1, x.root 2, x.root 3, x.root 4, x.root 5, x.root 6, x.root 7, x.root 8, x.root 9, x.root 10, x.root 11, x.root 12, x.root 13, x.root 14, x.root 15, x.root 16, x.root 17, x.root 18, x.root 19, x.root 20, x.root 21, x.root 22, x.root 23, x.root 24, x.root 25, x.root 26, x.root 27, x.root 28, x.root 29, x.root 30, x.root 31]
structure Rec where
  b : RB
  e : Int
  ho : Bool
  go : Bool
  ad : Option Addr
  n : Nat
  cap : Nat
@[reducible] def rcs (r : Rec) : List Value := rc r.b r.e r.ho r.go (.slice r.ad r.n r.cap)
def rec0 : Rec := ⟨rb0, 0, false, false, none, 0, 0⟩
@[reducible] def rrow (L : List Rec) : List Value := L.flatMap rcs
theorem rcs_len (r : Rec) : (rcs r).length = 39 := rfl
theorem rcs_one (r : Rec) : ∀ u ∈ rcs r, u.oneCell' = true := List.all_eq_true.1 (by rfl)
theorem rrow_len (L : List Rec) : (rrow L).length = L.length * 39 := fm_length rcs_len L
theorem rrow_one (L : List Rec) : ∀ u ∈ rrow L, u.oneCell' = true := fm_ones rcs_one L
/-! ### '==' of a struct of plain fields with itself -/
def plainOk (P : Program) (xs : Array Value) (fs : List Field) : Bool := fs.all fun f => match P.underlying f.type, xs[f.offset]? with
  | some .bool, some (.bool _) => true
  | some (.int _), some (.int _ _) => true
  | _, _ => false
theorem run_eq_self {P : Program} {t : TypeId} {fs : Array Field} (d : Nat) (ht : P.underlying t = some (.struct fs)) (hs : P.stoodInHeld t = false) (xs : Array Value) (hok : plainOk P xs fs.toList = true) (w : World) :
    (Op.equalIn (d + 2) t (.agg xs) (.agg xs)).run P w = .ok true w := by
  have hloop : ∀ l : List Field, plainOk P xs l = true → (forIn l ((none : Option Bool), ()) fun f __s => (do
            if f.name ≠ "_" then do
              let a ← part f.type xs f.offset
              let b ← part f.type xs f.offset
              let c ← Op.equalIn (d + 1) f.type a b
              if (!c) = true then pure (ForInStep.done (some false, ())) else pure (ForInStep.yield (none, ()))
            else pure (ForInStep.yield (none, ())) : Sem (ForInStep (Option Bool × Unit)))).run P w = .ok (none, ()) w := by
    intro l
    induction l with
    | nil => intro _; rfl
    | cons f l ih =>
      intro h
      simp only [plainOk, List.all_cons, Bool.and_eq_true] at h
      obtain ⟨h1, h2⟩ := h
      rw [List.forIn_cons]
      have key : ∀ v dd, P.underlying f.type = some dd → xs[f.offset]? = some v → ((∃ b, v = .bool b ∧ dd = .bool) ∨ ∃ k k' n, v = .int k n ∧ dd = .int k') → (part f.type xs f.offset).run P w = .ok v w ∧ (Op.equalIn (d + 1) f.type v v).run P w = .ok true w := by
        intro v dd hu hv hk
        rcases hk with ⟨b, rfl, rfl⟩ | ⟨k, k', n, rfl, rfl⟩
        · exact ⟨part_one hu rfl hv w, by simp [Op.equalIn, run_underlying hu]⟩
        · exact ⟨part_one hu rfl hv w, by simp [Op.equalIn, run_underlying hu]⟩
      have hk : ∃ v, (part f.type xs f.offset).run P w = .ok v w ∧ (Op.equalIn (d + 1) f.type v v).run P w = .ok true w := by
        cases hu : P.underlying f.type with
        | none => simp [hu] at h1
        | some dd =>
          cases hv : xs[f.offset]? with
          | none => cases dd <;> simp [hu, hv] at h1
          | some v =>
            refine ⟨v, key v dd hu hv ?_⟩
            cases dd <;> simp only [hu, hv] at h1 <;> first | (cases h1; done) | skip
            · cases v <;> first | (cases h1; done) | exact .inl ⟨_, rfl, rfl⟩
            · cases v <;> first | (cases h1; done) | exact .inr ⟨_, _, _, rfl, rfl⟩
      obtain ⟨v, e1, e2⟩ := hk
      by_cases hn : f.name ≠ "_"
      · simp only [hn, if_true, Sem.run_bind, e1, e2, Result.andThen_ok, Bool.not_true, Bool.false_eq_true, if_false, Sem.run_pure, ne_eq, not_false_eq_true]
        exact ih h2
      · simp only [hn, if_false, Sem.run_bind, Sem.run_pure, Result.andThen_ok]
        exact ih h2
  unfold Op.equalIn
  simp only [Sem.run_bind, run_underlying ht, Result.andThen_ok, program, Sem.run, hs, Bool.false_eq_true, if_false, ← Array.forIn_toList]
  have := hloop fs.toList hok
  first | rw [this] | (erw [this])
  simp
end Go.Sha
namespace Go.Lane
open Go Go.Sha
/-- '==', '!=' of a struct of plain fields -/
def eqsF (P : Program) (e : Operand → Value) (o : Oper) : Option (Bool × Array Value × Array Value) :=
  match o.op with
  | .binOp op t x y _ => match e x, e y with
    | .agg a, .agg b => match P.underlying t, P.eqGuardType P.depth t, P.stoodInHeld t with
      | some (.struct fs), false, false => match plainOk P a fs.toList with
        | true => match op with
          | .eql => some (true, a, b)
          | .neq => some (false, a, b)
          | _ => none
        | false => none
      | _, _, _ => none
    | _, _ => none
  | _ => none
def eqsOp (P : Program) (ops : Array Oper) (base : Nat → Value) (vals : Vals) (i : Nat) := (opE ops base vals i).bind (eqsF P (env ops base vals i))
theorem Calm.eqS {P : Program} {ops : Array Oper} {base : Nat → Value} {vals : Vals} {i : Nat} {q : Bool} {xs : Array Value} (hx : eqsOp P ops base vals i = some (q, xs, xs)) (h : Heap) :
    Calm P ops base vals i h (.bool q) := by
  refine does_split hx fun o ho w hw => ?_
  have hrun : (execOp (env ops base vals i) o).run P w = .ok (.value (.bool q)) w := by
    unfold eqsF at ho
    cases hop : o.op with
    | binOp op t x y T' =>
      simp only [hop] at ho
      cases ha : env ops base vals i x <;> simp only [ha] at ho <;> first | (cases ho; done) | skip
      cases hb : env ops base vals i y <;> simp only [hb] at ho <;> first | (cases ho; done) | skip
      cases hu : P.underlying t with
      | none => simp [hu] at ho
      | some dd =>
        cases hg : P.eqGuardType P.depth t with
        | true => cases dd <;> simp [hu, hg] at ho
        | false =>
          cases hs : P.stoodInHeld t with
          | true => cases dd <;> simp [hu, hg, hs] at ho
          | false =>
            cases dd <;> simp only [hu, hg, hs] at ho <;> first | (cases ho; done) | skip
            rename_i fs
            split at ho <;> first | (cases ho; done) | skip
            rename_i hok
            cases op <;> simp only [Option.some.injEq, Prod.mk.injEq] at ho <;> first | (cases ho; done) | skip
            · obtain ⟨rfl, h1, h2⟩ := ho
              subst h1; subst h2
              have hq := run_eq_self (P := P) 9998 hu hs _ hok w
              unfold execOp
              simp [hop, eqGuard, binOp, ha, hb, hg, Op.equal, Op.maxDepth, hq, program, Sem.run]
            · obtain ⟨rfl, h1, h2⟩ := ho
              subst h1; subst h2
              have hq := run_eq_self (P := P) 9998 hu hs _ hok w
              unfold execOp
              simp [hop, eqGuard, binOp, ha, hb, hg, Op.equal, Op.maxDepth, hq, program, Sem.run]
    | _ => simp [hop] at ho
  rw [hrun]
  exact ⟨Same.refl w, rfl, hw⟩
end Go.Lane
namespace Go.Sha
open Go Go.Lane
/-- a row of places, new -/
def PNew (h h' : Heap) (T : TypeId) (v : Value) (L : List Pl) : Prop :=
  ∃ ad cap, v = .slice ad L.length cap ∧ Own h' v T L.length 4 (prow L) ∧ (∀ k, ad.map (fun (x : Addr) => x.block) = some k → h.size ≤ k) ∧ Ext h h'
end Go.Sha
namespace Go.Lane
open Go Go.Sha
theorem Row.someA {h : Heap} {va : Option Addr} {n vc sz : Nat} {xs : List Value} (r : Row h (.slice va n vc) n sz xs) (hn : 0 < n) : ∃ a, va = some a ∧ n ≤ vc := by
  obtain ⟨a, cap, e, hc, _⟩ := r.at hn; cases e; exact ⟨_, rfl, hc⟩
theorem Own.blkSep {h : Heap} {ad : Option Addr} {n cap E sz : Nat} {xs : List Value} (o : Own h (.slice ad n cap) E n sz xs) : Sep 0 h.size [ad.map (fun (x : Addr) => x.block)] :=
  (Sep.nil 0 0).cons (Nat.zero_le _) (Nat.le_refl _) fun k e => ⟨Nat.zero_le _, o.lt (by rw [blkOf_slice]; exact e)⟩
theorem _root_.Go.Sha.Gr.toOpt {b : Nat} {o : Option Nat} {h h' : Heap} (g : Gr (fun k => k = b ∨ some k = o) h h') (hb : h.size ≤ b) : Grew o h h' := ⟨g.1, fun k hk hne => g.2 k hk (fun e => by rcases e with e | e; omega; exact hne e)⟩
end Go.Lane
