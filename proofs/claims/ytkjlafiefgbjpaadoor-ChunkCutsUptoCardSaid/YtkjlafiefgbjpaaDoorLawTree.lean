/- The laws of trees in plain Lean. No condition but those that each theorem names. -/
import Derived.Test.YtkjlafiefgbjpaaDoorTreeMath
namespace Go.Sha
open Go Go.Lane
/-- the leaves of a row of bytes -/
def lvs (l : List UInt8) (k : Nat) : List Hs := (List.range k).map fun i => leafH [l.getD i 0, UInt8.ofNat i]
theorem lvs_next (l : List UInt8) (k : Nat) : lvs l k ++ [leafH [l.getD k 0, UInt8.ofNat k]] = lvs l (k + 1) := by
  simp [lvs, List.range_succ]
theorem lvs_len (l : List UInt8) (k : Nat) : (lvs l k).length = k := by simp [lvs]
theorem lvs_32 (l : List UInt8) (k : Nat) : All32 (lvs l k) := fun x hx => by
  obtain ⟨i, _, rfl⟩ := List.mem_map.1 hx; rfl
theorem leaf_len (b : List UInt8) : (leafH b).length = 32 := rfl
theorem half2 : half 2 = 1 := by decide
theorem half3 : half 3 = 2 := by decide
theorem root2 (a b : Hs) : root [a, b] = nodeH a b := by
  rw [root_split (by simp), show [a, b].length = 2 from rfl, half2]; rfl
theorem root3 (a b c : Hs) : root [a, b, c] = nodeH (nodeH a b) c := by
  rw [root_split (by simp), show [a, b, c].length = 3 from rfl, half3]
  show nodeH (root [a, b]) (root [c]) = _
  rw [root2]; rfl
theorem incl3 (a b c : Hs) : inclZ [a, b, c] 2 = ([nodeH a b], 0) := by
  have h := inclZ_yes (L := [a, b, c]) (m := 2) (by simp)
  rw [incl_hi (by simp) (by rw [show [a, b, c].length = 3 from rfl, half3]; decide), show [a, b, c].length = 3 from rfl, half3] at h
  rw [show (2 : Int) = ((2 : Nat) : Int) from rfl, h]
  show (incl [c] 0 ++ [root [a, b]], (0 : Int)) = _
  rw [incl_one (by simp), root2]; rfl
theorem cons3 (a b c : Hs) : consZ [a, b, c] 1 = ([b, c], 0) := by
  have h := consZ_yes (L := [a, b, c]) (m := 1) (by decide) (by simp)
  rw [cons_lo (by decide) (by simp) (by rw [show [a, b, c].length = 3 from rfl, half3]; decide), show [a, b, c].length = 3 from rfl, half3] at h
  rw [show (1 : Int) = ((1 : Nat) : Int) from rfl, h]
  show (cons 1 [a, b] true ++ [root [c]], (0 : Int)) = _
  rw [cons_lo (by decide) (by simp) (by rw [show [a, b].length = 2 from rfl, half2]; decide), show [a, b].length = 2 from rfl, half2]
  show (cons 1 [a] true ++ [root [b]] ++ [root [c]], (0 : Int)) = _
  rw [cons_all (l := [a]) (m := 1) (w := true) (by decide) rfl]; rfl
theorem cons4 (a b c : Hs) : consZ [a, b, c] 4 = ([], 50) := consZ_no (by simp)
theorem hget {x : Hs} (hx : x.length = 32) {j : Nat} (hj : j < 32) : (x.map bv).toArray[j]? = some (bv (x.getD j 0)) := by
  have h2 : j < x.length := by omega
  simp [List.getD, h2]
theorem none0 : ((root []).getD 0 0) = 227 := by rw [root_nil]; show (fin H0 [] 0).getD 0 0 = _; rw [sha_nil]; rfl
theorem none31 : ((root []).getD 31 0) = 85 := by rw [root_nil]; show (fin H0 [] 0).getD 31 0 = _; rw [sha_nil]; rfl
theorem take_ne {A B : List Hs} {i : Nat} (h : ¬ A.getD i [] = B.getD i []) : A ≠ B := fun e => h (by rw [e])
theorem take_eq {A B : List Hs} {i n : Nat} (hA : A.length = n) (hB : B.length = n) (hi : i < n) (h : A.take i = B.take i) (e : A.getD i [] = B.getD i []) : A.take (i + 1) = B.take (i + 1) := by
  rw [List.take_succ_eq_append_getElem (by omega), List.take_succ_eq_append_getElem (l := B) (by omega), h]
  simp only [List.getD, List.getElem?_eq_getElem (show i < A.length by omega), List.getElem?_eq_getElem (show i < B.length by omega), Option.getD_some] at e
  rw [e]
end Go.Sha
namespace Go.Lane
open Go
section
variable {P : Program} {ops : Array Oper} {base : Nat → Value} {vals : Vals} {h : Heap} {i : Nat}
/-- []byte("..."): a row of bytes is marked -/
def cvF (P : Program) (e : Operand → Value) (o : Oper) : Option Value :=
  match o.op with
  | .convert s d x => match Nat.beq s d, P.underlying s with
    | true, some (.slice el) => match P.underlying el with
      | some (.int .u8) => some (e x)
      | _ => none
    | _, _ => none
  | _ => none
def cvOp (P : Program) (ops : Array Oper) (base : Nat → Value) (vals : Vals) (i : Nat) := (opE ops base vals i).bind (cvF P (env ops base vals i))
theorem Does.mark {b off n cap : Nat} {cs : Array Value} {E : TypeId} (hx : cvOp P ops base vals i = some (.slice (some ⟨b, off, none⟩) n cap)) (m : h[b]? = some (.cells cs E)) :
    Does P ops base vals i h fun v h' => v = .slice (some ⟨b, off, none⟩) n cap ∧ h' = hput h b (.cells cs E (cs.size, cs.size + 1)) := by
  refine does_split hx fun o ho w hw => ?_
  unfold cvF at ho
  cases hop : o.op with
  | convert s d x =>
    simp only [hop] at ho
    cases hsd : Nat.beq s d with
    | false => simp [hsd] at ho
    | true =>
      have hsd' := Nat.eq_of_beq_eq_true hsd
      cases hs : P.underlying s with
      | none => simp [hsd, hs] at ho
      | some ds =>
        cases ds <;> simp only [hsd, hs] at ho <;> first | (cases ho; done) | skip
        rename_i el
        cases he : P.underlying el with
        | none => simp [he] at ho
        | some de =>
          cases de <;> simp only [he] at ho <;> first | (cases ho; done) | skip
          rename_i k
          cases k <;> simp only [Option.some.injEq] at ho <;> first | (cases ho; done) | skip
          subst hsd'
          subst hw
          have hsh : w.shape? b = some (E, cs.size) := by simp [World.shape?, m]
          have hfz : (w.freeze { block := b, off := cs.size } 1).heap = hput w.heap b (.cells cs E (cs.size, cs.size + 1)) := by
            apply Array.ext_getElem?
            intro q
            simp only [World.freeze, hput]
            rw [if_neg (by decide)]
            by_cases hq : b = q
            · subst hq
              show (Array.modify _ _ _)[b]? = _
              rw [Array.getElem?_modify, if_pos rfl, m]
              simp [blk_lt m]
            · simp [Array.getElem?_modify, hq, Array.getElem?_setIfInBounds_ne hq]
          have hrun : (execOp (env ops base vals i) o).run P w = .ok (.value (.slice (some ⟨b, off, none⟩) n cap)) (w.freeze { block := b, off := cs.size } 1) := by
            unfold execOp
            simp [hop, ho, convert, run_underlying hs, run_underlying he, markStringish, hsh]
          rw [hrun]
          exact ⟨⟨rfl, rfl, rfl⟩, rfl, hfz⟩
  | _ => simp [hop] at ho
end
end Go.Lane
namespace Go.Sha
open Go Go.Lane
theorem min3 (x y : Nat) : (if (40 : Int) < (if ((y : Nat) : Int) < ((x : Nat) : Int) then ((y : Nat) : Int) else ((x : Nat) : Int)) then (40 : Int) else (if ((y : Nat) : Int) < ((x : Nat) : Int) then ((y : Nat) : Int) else ((x : Nat) : Int))) = ((min (min x y) 40 : Nat) : Int) := by
  split <;> split at * <;> omega
theorem btake {h : Heap} {va : Option Addr} {vc n k : Nat} {l : List UInt8} (r : Row h (.slice va n vc) n 1 (l.map bv)) (hk : k ≤ n) : Row h (.slice va k vc) k 1 ((l.take k).map bv) := by
  have hl : l.length = n := by have := r.1; rw [List.length_map] at this; omega
  refine ⟨by rw [List.length_map, List.length_take]; omega, ?_⟩
  rcases r.2 with ⟨e, h0⟩ | ⟨a, cap, e, hc, hx⟩
  · cases e; left; exact ⟨by rw [show k = 0 by omega], by omega⟩
  · cases e
    refine .inr ⟨a, vc, rfl, by omega, fun j u hu => hx j u ?_⟩
    rw [List.map_take, List.getElem?_take] at hu
    split at hu
    · exact hu
    · cases hu
theorem small_eq {A B : List Hs} {n : Nat} (hA : A.length = n) (hB : B.length = n) (hn : n < 2) (h : root A = root B) : A = B := by
  match A, B, hA, hB with
  | [], [], _, _ => rfl
  | [x], [y], _, _ => rw [root_one, root_one] at h; rw [h]
  | [], _ :: _, h1, h2 => simp at h1 h2; omega
  | _ :: _, [], h1, h2 => simp at h1 h2; omega
  | _ :: _ :: _, _, h1, h2 => simp at h1; omega
  | [_], _ :: _ :: _, h1, h2 => simp at h1 h2; omega
theorem drop_ne {A B : List Hs} {k : Nat} (h : A ≠ B) (e : A.take k = B.take k) : A.drop k ≠ B.drop k := fun e2 => h (by rw [← List.take_append_drop k A, ← List.take_append_drop k B, e, e2])
end Go.Sha
namespace Go.Sha
open Go Go.Lane
theorem row_cap {h : Heap} {va : Option Addr} {vc n sz : Nat} {xs : List Value} (r : Row h (.slice va n vc) n sz xs) : n ≤ vc := by
  rcases r.2 with ⟨e, h0⟩ | ⟨a, cap, e, hc, _⟩
  · cases e; omega
  · cases e; exact hc
end Go.Sha
namespace Go.Sha
theorem sha_node (a b : Hs) : sha ([1] ++ a ++ b) = nodeH a b := rfl
end Go.Sha
