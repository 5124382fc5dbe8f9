/- Leaves of rows of bytes; a remainder. No condition but those that each theorem names. -/
import Derived.Test.YteinikjbaaembaaDoorVerOne
import Derived.Test.YteinikjbaaembaaDoorArgs
namespace Go.Lane
open Go
section
variable {P : Program} {ops : Array Oper} {base : Nat → Value} {vals : Vals} {i : Nat}
/-! a remainder by a number that is told elsewhere -/
def rmF (e : Operand → Value) (o : Oper) : Option (IntKind × Int × Int) :=
  match o.op with
  | .binOp .rem _ x y _ => match e x, e y with
    | .int k a, .int k' b => if k = k' then some (k, a, b) else none
    | _, _ => none
  | _ => none
def rmOp (ops : Array Oper) (base : Nat → Value) (vals : Vals) (i : Nat) := (opE ops base vals i).bind (rmF (env ops base vals i))
theorem Calm.rem {k : IntKind} {x y : Int} (hx : rmOp ops base vals i = some (k, x, y)) (hy : y ≠ 0) (h : Heap) : Calm P ops base vals i h (.int k (x.tmod y)) := by
  refine does_split hx fun o ho w hw => ?_
  have hr : (execOp (env ops base vals i) o).run P w = .ok (.value (.int k (x.tmod y))) w := by
    unfold rmF at ho
    cases hop : o.op with
    | binOp op T a b T' =>
      cases op <;> simp only [hop] at ho <;> first | (cases ho; done) | skip
      cases ha : env ops base vals i a <;> cases hb : env ops base vals i b <;> simp only [ha, hb] at ho <;> first | (cases ho; done) | skip
      split at ho
      · rename_i hk
        subst hk
        simp only [Option.some.injEq, Prod.mk.injEq] at ho
        obtain ⟨rfl, rfl, rfl⟩ := ho
        unfold execOp
        simp [hop, eqGuard, binOp, ha, hb, Op.intDiv, hy]
      · cases ho
    | _ => simp [hop] at ho
  rw [hr]
  exact ⟨Same.refl w, rfl, hw⟩
theorem Calm.remN {x y : Nat} {a b : Int} (hx : rmOp ops base vals i = some (.i64, a, b)) (ha : a = (x : Int)) (hb : b = (y : Int)) (hy : 0 < y) (h : Heap) : Calm P ops base vals i h (.int .i64 ((x % y : Nat) : Int)) := by
  subst ha; subst hb
  have := Calm.rem (P := P) hx (by omega) h
  rwa [tmodN] at this
end
end Go.Lane
namespace Go.Sha
open Go Go.Lane
theorem Rws.ext {h h' : Heap} {va : Option Addr} {vc : Nat} {sl : List Sl} (r : Rws h va vc sl) (e : Ext h h') : Rws h' va vc sl :=
  ⟨r.1.ext e, fun t ht => ⟨(r.2 t ht).1.ext e, (r.2 t ht).2.imp id fun hl k hk => Nat.lt_of_lt_of_le (hl k hk) e.size⟩⟩
def lvr (sl : List Sl) (k : Nat) : List Hs := (sl.take k).map fun t => leafH t.2.2
theorem lvr_next {sl : List Sl} {i : Nat} {t : Sl} (ht : sl[i]? = some t) : lvr sl i ++ [leafH t.2.2] = lvr sl (i + 1) := by
  simp [lvr, List.take_add_one, ht]
theorem lvr_len {sl : List Sl} {k : Nat} (hk : k ≤ sl.length) : (lvr sl k).length = k := by simp [lvr]; omega
theorem lvr_32 (sl : List Sl) (k : Nat) : All32 (lvr sl k) := fun x hx => by
  simp only [lvr, List.mem_map] at hx
  obtain ⟨t, _, rfl⟩ := hx
  exact leaf_len _
end Go.Sha
