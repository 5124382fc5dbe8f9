/- Hashes compared; the values of no bytes and of abc; small laws on a State. No condition. -/
import Derived.Test.YtlghdimpgfhmcaaShaMath
namespace Go.Lane
open Go Go.Sha
theorem part_one {P : Program} {e : TypeId} {cs : Array Value} {i : Nat} {v : Value} {d : TypeDesc} (he : P.underlying e = some d) (hd : (match d with | .struct _ | .array _ _ => true | _ => false) = false) (hv : cs[i]? = some v) (w : World) : (part e cs i).run P w = .ok v w := by
  have ha : (isAgg e).run P w = .ok false w := by
    unfold isAgg
    simp only [Sem.run_bind, run_underlying he, Result.andThen_ok]
    cases d <;> first | rfl | (simp at hd)
  simp [part, ha, hv]
theorem bv_beq (a b : UInt8) : (((a.toNat : Int)) == (b.toNat : Int)) = decide (a = b) := by
  rw [Bool.eq_iff_iff]
  simp only [beq_iff_eq, decide_eq_true_eq]
  constructor
  · intro h; exact UInt8.toNat_inj.1 (by omega)
  · intro h; rw [h]
theorem run_eq_loop {P : Program} {e : TypeId} {n : Nat} (d : Nat) (he : P.underlying e = some (.int .u8)) (l r : List UInt8) (hl : l.length = n) (hr : r.length = n) (w : World) : ∀ (m k : Nat), k + m = n →
    (forIn (List.range' k m) ((none : Option Bool), ()) fun i __s => (do
            let __do_lift ← part e (List.map bv l).toArray (i * 1)
            let __do_lift_1 ← part e (List.map bv r).toArray (i * 1)
            let __do_lift ← Op.equalIn (d + 1) e __do_lift __do_lift_1
            if (!__do_lift) = true then pure (ForInStep.done (some false, ())) else pure (ForInStep.yield (none, ())) : Sem (ForInStep (Option Bool × Unit)))).run P w =
      .ok (if l.drop k = r.drop k then (none, ()) else (some false, ())) w
  | 0, k, hk => by
    rw [List.drop_eq_nil_of_le (by omega), List.drop_eq_nil_of_le (by omega)]
    simp
  | m + 1, k, hk => by
    have hkl : k < l.length := by omega
    have hkr : k < r.length := by omega
    have h1 := part_one (P := P) (cs := (List.map bv l).toArray) (i := k * 1) (v := bv l[k]) he rfl (by simp [hkl]) w
    have h2 := part_one (P := P) (cs := (List.map bv r).toArray) (i := k * 1) (v := bv r[k]) he rfl (by simp [hkr]) w
    have h3 : (Op.equalIn (d + 1) e (bv l[k]) (bv r[k])).run P w = .ok (decide (l[k] = r[k])) w := by
      rw [← bv_beq]
      simp [Op.equalIn, run_underlying he, bv]
    rw [List.range'_succ, List.forIn_cons]
    simp only [Sem.run_bind, h1, h2, h3, Result.andThen_ok]
    rw [List.drop_eq_getElem_cons hkl, List.drop_eq_getElem_cons hkr]
    by_cases e1 : l[k] = r[k]
    · simp only [e1, decide_true, Bool.not_true, Bool.false_eq_true, if_false, Sem.run_pure, Result.andThen_ok, List.cons.injEq, true_and]
      exact run_eq_loop d he l r hl hr w m (k + 1) (by omega)
    · have hne : ¬ (l[k] :: l.drop (k + 1) = r[k] :: r.drop (k + 1)) := fun h => e1 (List.cons.inj h).1
      rw [if_neg hne]
      simp only [e1, decide_false, Bool.not_false, if_true, Sem.run_pure, Result.andThen_ok]
theorem run_eq_bytes {P : Program} {t e : TypeId} {n : Nat} {i : TypeInfo} (d : Nat) (ht : P.underlying t = some (.array n e)) (he : P.underlying e = some (.int .u8)) (hi : P.info? e = some i) (hs : i.size = 1) (l r : List UInt8) (hl : l.length = n) (hr : r.length = n) (w : World) :
    (Op.equalIn (d + 2) t (.agg (l.map bv).toArray) (.agg (r.map bv).toArray)).run P w = .ok (decide (l = r)) w := by
  have hloop := run_eq_loop (P := P) d he l r hl hr w n 0 (by omega)
  have hsz : [:n].size = n := by simp [Std.Legacy.Range.size]
  unfold Op.equalIn
  simp only [Sem.run_bind, run_underlying ht, Result.andThen_ok, sizeOf, typeInfo, program, Sem.run, hi, hs, Sem.run_pure, Std.Legacy.Range.forIn_eq_forIn_range', hsz]
  rw [hloop]
  simp only [List.drop_zero, Result.andThen_ok]
  by_cases e1 : l = r <;> simp [e1]

/-- '==', '!=' of two hashes -/
def eqF (P : Program) (e : Operand → Value) (o : Oper) : Option (Bool × Array Value × Array Value × Nat) :=
  match o.op with
  | .binOp op t x y _ => match e x, e y with
    | .agg a, .agg b => match P.underlying t, P.eqGuardType P.depth t with
      | some (.array n el), false => match P.underlying el, P.info? el with
        | some (.int .u8), some i => match Nat.beq i.size 1 with
          | true => match op with
            | .eql => some (true, a, b, n)
            | .neq => some (false, a, b, n)
            | _ => none
          | false => none
        | _, _ => none
      | _, _ => none
    | _, _ => none
  | _ => none
def eqOp (P : Program) (ops : Array Oper) (base : Nat → Value) (vals : Vals) (i : Nat) := (opE ops base vals i).bind (eqF P (env ops base vals i))
theorem Calm.eqH {P : Program} {ops : Array Oper} {base : Nat → Value} {vals : Vals} {i : Nat} {q : Bool} {n : Nat} {l r : List UInt8} (hx : eqOp P ops base vals i = some (q, (l.map bv).toArray, (r.map bv).toArray, n)) (hl : l.length = n) (hr : r.length = n) (h : Heap) :
    Calm P ops base vals i h (.bool (decide (l = r) == q)) := by
  refine does_split hx fun o ho w hw => ?_
  have hrun : (execOp (env ops base vals i) o).run P w = .ok (.value (.bool (decide (l = r) == q))) w := by
    unfold eqF at ho
    cases hop : o.op with
    | binOp op t x y T' =>
      simp only [hop] at ho
      cases ha : env ops base vals i x <;> simp only [ha] at ho <;> first | (cases ho; done) | skip
      cases hb : env ops base vals i y <;> simp only [hb] at ho <;> first | (cases ho; done) | skip
      cases hu : P.underlying t with
      | none => simp [hu] at ho
      | some dd =>
        cases hg : P.eqGuardType P.depth t with
        | true => cases dd <;> simp [hu, hg] at ho
        | false =>
          cases dd <;> simp only [hu, hg] at ho <;> first | (cases ho; done) | skip
          rename_i n' el
          cases hel : P.underlying el with
          | none => simp [hel] at ho
          | some de =>
            cases de <;> simp only [hel] at ho <;> first | (cases ho; done) | skip
            rename_i k
            cases hi : P.info? el with
            | none => cases k <;> simp [hi] at ho
            | some inf =>
              cases k <;> simp only [hi] at ho <;> first | (cases ho; done) | skip
              cases hs : Nat.beq inf.size 1 with
              | false => simp [hs] at ho
              | true =>
                have hs' := Nat.eq_of_beq_eq_true hs
                simp only [hs] at ho
                cases op <;> simp only [Option.some.injEq, Prod.mk.injEq] at ho <;> first | (cases ho; done) | skip
                · obtain ⟨rfl, h1, h2, rfl⟩ := ho
                  subst h1; subst h2
                  have hq := run_eq_bytes (P := P) 9998 hu hel hi hs' l r hl hr w
                  unfold execOp
                  simp [hop, eqGuard, binOp, ha, hb, hg, Op.equal, Op.maxDepth, hq, program, Sem.run]
                · obtain ⟨rfl, h1, h2, rfl⟩ := ho
                  subst h1; subst h2
                  have hq := run_eq_bytes (P := P) 9998 hu hel hi hs' l r hl hr w
                  unfold execOp
                  simp [hop, eqGuard, binOp, ha, hb, hg, Op.equal, Op.maxDepth, hq, program, Sem.run]
    | _ => simp [hop] at ho
  rw [hrun]
  exact ⟨Same.refl w, rfl, hw⟩
end Go.Lane
namespace Go.Sha
open Go Go.Lane
theorem sha_nil : fin H0 [] 0 = [0xe3, 0xb0, 0xc4, 0x42, 0x98, 0xfc, 0x1c, 0x14, 0x9a, 0xfb, 0xf4, 0xc8, 0x99, 0x6f, 0xb9, 0x24, 0x27, 0xae, 0x41, 0xe4, 0x64, 0x9b, 0x93, 0x4c, 0xa4, 0x95, 0x99, 0x1b, 0x78, 0x52, 0xb8, 0x55] := by decide +kernel
theorem sha_abc : fin H0 [0x61, 0x62, 0x63] 3 = [0xba, 0x78, 0x16, 0xbf, 0x8f, 0x01, 0xcf, 0xea, 0x41, 0x41, 0x40, 0xde, 0x5d, 0xae, 0x22, 0x23, 0xb0, 0x03, 0x61, 0xa3, 0x96, 0x17, 0x7a, 0x9c, 0xb4, 0x10, 0xff, 0x61, 0xf2, 0x00, 0x15, 0xad] := by decide +kernel
theorem run_nil (st : S8) : run st [] = st := rfl
theorem run_a : run H0 [0x61] = H0 := run_end (by simp)
theorem rem_a : rem [0x61] = [0x61] := by decide +kernel
theorem run_abc : run H0 [0x61, 0x62, 0x63] = H0 := run_end (by simp)
theorem rem_abc : rem [0x61, 0x62, 0x63] = [0x61, 0x62, 0x63] := by decide +kernel
theorem StA.gr {F : Nat → Prop} {h h' : Heap} {b : Nat} {o : Option Nat} {st : S8} {r : List UInt8} {n : Nat} (s : StA h b o st r n) (g : Gr F h h') (hb : ¬ F b) (ho : ∀ k, o = some k → ¬ F k) : StA h' b o st r n := by
  obtain ⟨ad, cap, e, hne, hm, hown⟩ := s
  refine ⟨ad, cap, e, hne, g.blk hm hb, hown.1, hown.2.imp id ?_⟩
  rintro ⟨q, off, cap', l, e1, hg, r⟩
  refine ⟨q, off, cap', l, e1, g.blk hg (ho q ?_), r⟩
  simp only [Value.slice.injEq] at e1
  rw [e, e1.1]; rfl
theorem Ext.gr {h h' : Heap} (g : Ext h h') (F : Nat → Prop) : Gr F h h' := ⟨g.size, fun k hk _ => g.get k hk (by simp)⟩
theorem StA.ext {h h' : Heap} {b : Nat} {o : Option Nat} {st : S8} {r : List UInt8} {n : Nat} (s : StA h b o st r n) (g : Ext h h') : StA h' b o st r n :=
  s.gr (Ext.gr g (fun _ => False)) (fun h => h) (fun _ _ h => h)
theorem Grew.gr {o : Option Nat} {h h' : Heap} (g : Grew o h h') : Gr (fun k => some k = o) h h' := ⟨g.size, fun k hk hne => g.get k hk hne⟩
theorem StA.lt {h : Heap} {b : Nat} {o : Option Nat} {st : S8} {r : List UInt8} {n : Nat} (s : StA h b o st r n) : b < h.size ∧ ∀ k, o = some k → k < h.size := by
  obtain ⟨ad, cap, e, hne, hm, hown⟩ := s
  exact ⟨blk_lt hm, fun k hk => hown.lt (by rw [blkOf_slice, ← e]; exact hk)⟩
theorem StA.ne {h : Heap} {b : Nat} {o : Option Nat} {st : S8} {r : List UInt8} {n : Nat} (s : StA h b o st r n) : o ≠ some b := s.choose_spec.choose_spec.2.1
theorem Row.bnil (h : Heap) : Row h (.slice none ([] : List UInt8).length 0) ([] : List UInt8).length 1 (([] : List UInt8).map bv) := Row.nil h 1
end Go.Sha
