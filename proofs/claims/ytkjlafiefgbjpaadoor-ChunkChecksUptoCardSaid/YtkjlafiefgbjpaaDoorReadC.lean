/- What a chunk is held against, as the memory holds it. No condition but those that each theorem names. -/
import Derived.Test.YtkjlafiefgbjpaaDoorReadH
import Derived.Test.YtkjlafiefgbjpaaDoorChkMath
namespace Go.Proofs.YtkjlafiefgbjpaaDoor
open Go.ChangeShapes Go.WideShapes Go.ChangeAt Go.RowKit
section
variable {H : Type} {enc : TypeId × Value → H}
theorem open_held {P : Program} {W : World} {b0 : Nat} {rr : Reach} {t ti th ts e : TypeId} {v : Value} {d : DataW H} {ps : List MemPlace} (hf : fieldsOf P t = some [(ti, 0), (ti, 1), (ts, 2), (th, 3)]) (hi : P.underlying ti = some (.int .i64)) (hci : P.cellsOf ti = 1) (hh : P.underlying th = some (.array 32 e)) (hch : P.cellsOf th = 32)
    (hs : P.underlying ts = some (.slice th)) (hcs : P.cellsOf ts = 1) (he : P.underlying e = some (.int .u8)) (hce : P.cellsOf e = 1) (hct : P.cellsOf t = 35) (hval : Value.okWide P W rr b0 t v) (h : DataW.Trod enc P W 0 (fun _ => true) true t v d ps) :
    ∃ (i n : Int) (y : Sha.Hs) (va : Option Addr) (vc : Nat) (L : List Sha.Hs), v = .agg (Sha.heldc i n (.slice va L.length vc) y).toArray ∧ n ≤ 9223372036854775807 ∧ y.length = 32 ∧ Sha.HR W.heap va vc L.length L ∧ (0 < L.length → ∀ k, va.map (fun (x : Addr) => x.block) = some k → k < W.heap.size) ∧ L.length + 1 ≤ Rows.uptoBulk d := by
  obtain ⟨fs, ht⟩ := struct_of hf
  obtain ⟨cs, rfl, hsz⟩ := okWide_struct ht hval
  obtain ⟨fuel, h⟩ := h
  obtain ⟨xs, n0, hl, hd, hel⟩ := open_fields hf h
  obtain ⟨y0, _, h0⟩ := hel 0 _ rfl
  obtain ⟨y1, _, h1⟩ := hel 1 _ rfl
  obtain ⟨y2, g2, h2⟩ := hel 2 _ rfl
  obtain ⟨y3, _, h3⟩ := hel 3 _ rfl
  obtain ⟨m, e0, _, hm⟩ := DataW.trod_int hi h0
  obtain ⟨n, e1, _, hn⟩ := DataW.trod_int hi h1
  obtain ⟨va, vc, L, e2, hr, hlt, hb⟩ := open_hashes hs hh he hce hch h2
  obtain ⟨y, hy, e3⟩ := open_hash hh he hce hch h3
  refine ⟨m, n, y, va, vc, L, ?_, (i64_of hn).2, hy, hr, hlt, ?_⟩
  · have hall : (Value.agg cs).cells.toList = Sha.heldc m n (.slice va L.length vc) y := by
      generalize (Value.agg cs).cells.toList = l at *
      rw [hct] at hl
      rw [hci] at e0 e1
      rw [hch] at e3
      rw [hcs] at e2
      dsimp only at e0 e1 e2 e3
      have c0 := cut l 0 1
      have c1 := cut l 1 1
      have c2 := cut l 2 1
      have c3 := cut l 3 32
      rw [List.drop_of_length_le (l := l) (i := 3 + 32) (by omega), List.append_nil, e3] at c3
      rw [e2, c3] at c2
      rw [e1, c2] at c1
      rw [e0, c1, List.drop_zero] at c0
      rw [c0]; rfl
    rw [← hall]; simp [Value.cells]
  · have := mem_bulk g2
    have hd' : d = _ := hd
    rw [hd']
    omega
end
end Go.Proofs.YtkjlafiefgbjpaaDoor
