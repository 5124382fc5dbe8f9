/- Records, as the memory holds them. No condition but those that each theorem names. -/
import Derived.Test.YtlghdimpgfhmcaaReadH
import Derived.Test.YtlghdimpgfhmcaaRetOrd
namespace Go.Proofs.Ytlghdimpgfhmcaa
open Go.ChangeShapes Go.WideShapes Go.ChangeAt Go.RowKit
section
variable {H : Type} {enc : TypeId × Value → H}
theorem open_place {P : Program} {W : World} {t ti tb : TypeId} {fuel : Nat} {cs : List Value} {x : DataW H × List MemPlace} (hf : fieldsOf P t = some [(ti, 0), (ti, 1), (ti, 2), (tb, 3)]) (hi : P.underlying ti = some (.int .i64)) (hci : P.cellsOf ti = 1) (hb : P.underlying tb = some .bool) (hcb : P.cellsOf tb = 1) (hct : P.cellsOf t = 4)
    (h : DataW.trod enc P W 0 (fun _ => true) true fuel t cs = some x) : ∃ p : Sha.Pl, cs = Sha.pcs p := by
  obtain ⟨xs, n0, hl, hd, hel⟩ := open_fields hf h
  obtain ⟨y0, _, h0⟩ := hel 0 _ rfl
  obtain ⟨y1, _, h1⟩ := hel 1 _ rfl
  obtain ⟨y2, _, h2⟩ := hel 2 _ rfl
  obtain ⟨y3, _, h3⟩ := hel 3 _ rfl
  obtain ⟨a, e0, _, _⟩ := DataW.trod_int hi h0
  obtain ⟨b, e1, _, _⟩ := DataW.trod_int hi h1
  obtain ⟨c, e2, _, _⟩ := DataW.trod_int hi h2
  obtain ⟨d, e3, _⟩ := DataW.trod_bool hb h3
  rw [hct] at hl
  rw [hci] at e0 e1 e2
  rw [hcb] at e3
  dsimp only at e0 e1 e2 e3
  refine ⟨⟨a, b, c, d⟩, ?_⟩
  have c0 := cut cs 0 1
  have c1 := cut cs 1 1
  have c2 := cut cs 2 1
  have c3 := cut cs 3 1
  rw [List.drop_of_length_le (l := cs) (i := 3 + 1) (by omega), List.append_nil, e3] at c3
  rw [e2, c3] at c2
  rw [e1, c2] at c1
  rw [e0, c1, List.drop_zero] at c0
  rw [c0]; rfl
/-- a slice of parts of k cells, each opened as f of something -/
theorem open_parts {α : Type} {f : α → List Value} {k : Nat} (d0 : α) (hfl : ∀ x, (f x).length = k) {P : Program} {W : World} {t q : TypeId} {fuel : Nat} {cs : List Value} {x : DataW H × List MemPlace} (ht : P.underlying t = some (.slice q)) (hc : P.cellsOf q = k) (hk : 0 < k) (Q : α → DataW H → Prop)
    (hq : ∀ (n : Nat) (cs' : List Value) (y : DataW H × List MemPlace), DataW.trod enc P W 0 (fun _ => true) true n q cs' = some y → ∃ z, cs' = f z ∧ Q z y.1)
    (h : DataW.trod enc P W 0 (fun _ => true) true fuel t cs = some x) : ∃ va vc, ∃ L : List α, cs = [.slice va L.length vc] ∧ Lane.Row W.heap (.slice va L.length vc) L.length k (L.flatMap f) ∧ L.length + 1 ≤ Rows.uptoBulk x.1 ∧
      ∃ ds : List (DataW H), ds.length = L.length ∧ Rows.uptoBulkAll ds ≤ Rows.uptoBulk x.1 ∧ ∀ i, i < L.length → ∃ dd, ds[i]? = some dd ∧ Q (L.getD i d0) dd := by
  rcases Deep.open_slice ht h with ⟨rfl, rfl⟩ | ⟨a, len, cap, m, n, D, Pl, rfl, _, hle, _, hm, rfl, hel⟩
  · exact ⟨none, 0, [], rfl, ⟨by simp, .inl ⟨rfl, rfl⟩⟩, by simp [Rows.uptoBulk], [], rfl, by simp [Rows.uptoBulkAll], fun i hi => by simp at hi⟩
  · have hm' : m = cap := hm
    have _inst : Inhabited α := ⟨d0⟩
    obtain ⟨g, hG⟩ := Deep.choose_lt (n := len) (p := fun i (y : α) => Q y (D i) ∧ ∀ j u, (f y)[j]? = some u → Lane.hcell W.heap (a.add (i * k + j)) = some u) (fun i hi => by
      obtain ⟨cs', h1, h2⟩ := hel i (by omega)
      obtain ⟨y, rfl, hy⟩ := hq _ _ _ h2
      rw [hc] at h1
      refine ⟨y, hy, fun j u hu => ?_⟩
      have hj : j < k := by
        apply Nat.lt_of_not_le; intro hh
        rw [List.getElem?_eq_none (by rw [hfl]; exact hh)] at hu; cases hu
      have h3 := (World.cells?_some h1).2.2 j hj
      rw [hu, Lane.hcell_eq rfl, Lane.add_add] at h3
      exact h3)
    have hl : ((List.range len).map g).length = len := by simp
    refine ⟨some a, cap, (List.range len).map g, by rw [hl], ⟨Sha.fm_length hfl _, .inr ⟨a, cap, rfl, by rw [hl]; exact hle, fun j u hu => ?_⟩⟩, ?_, (List.range len).map D, by simp, ?_, fun i hi => ?_⟩
    · have hj : j < len * k := by
        apply Nat.lt_of_not_le; intro hh
        rw [List.getElem?_eq_none (by rw [Sha.fm_length hfl, hl]; omega)] at hu; cases hu
      have hi : j / k < len := (Nat.div_lt_iff_lt_mul hk).2 hj
      have hjk : j / k * k + j % k = j := by rw [Nat.mul_comm]; exact Nat.div_add_mod j k
      have hd : (((List.range len).map g).drop (j / k)).flatMap f = f (g (j / k)) ++ (((List.range len).map g).drop (j / k + 1)).flatMap f := by
        rw [List.drop_eq_getElem_cons (by rw [hl]; exact hi), List.flatMap_cons]; simp
      have hu2 : (f (g (j / k)))[j % k]? = some u := by
        have h4 : ((((List.range len).map g).drop (j / k)).flatMap f)[j % k]? = some u := by
          rw [← Sha.fm_drop hfl, List.getElem?_drop, hjk]; exact hu
        rw [hd, List.getElem?_append_left (by rw [hfl]; exact Nat.mod_lt _ hk)] at h4
        exact h4
      have := (hG _ hi).2 _ _ hu2
      rw [hjk] at this
      exact this
    · rw [hl]
      have := bulks.slice_le ((List.range len).map D) ((List.range (m - len)).map fun j => D (len + j))
      rw [List.length_map, List.length_range] at this
      refine Nat.le_trans ?_ this
      omega
    · simp only [Rows.uptoBulk]; omega
    · rw [hl] at hi
      exact ⟨D i, by simp [hi], by simpa [List.getD, hi] using (hG i hi).1⟩
def placeOk (P : Program) (tp tq ti tb : TypeId) : Prop := P.underlying tp = some (.slice tq) ∧ P.cellsOf tq = 4 ∧ P.cellsOf tp = 1 ∧ fieldsOf P tq = some [(ti, 0), (ti, 1), (ti, 2), (tb, 3)] ∧ P.underlying ti = some (.int .i64) ∧ P.cellsOf ti = 1 ∧ P.underlying tb = some .bool ∧ P.cellsOf tb = 1
def recOk (P : Program) (t ts ti th te tb tp : TypeId) : Prop := fieldsOf P t = some [(ts, 0), (ti, 1), (th, 2), (ti, 34), (ti, 35), (tb, 36), (tb, 37), (tp, 38)] ∧ P.cellsOf t = 39 ∧ P.underlying ts = some .string ∧ P.cellsOf ts = 1 ∧ P.underlying th = some (.array 32 te) ∧ P.cellsOf th = 32 ∧ P.underlying te = some (.int .u8) ∧ P.cellsOf te = 1
theorem open_reccells {P : Program} {W : World} {t ts ti th te tb tp tq : TypeId} {fuel : Nat} {cs : List Value} {x : DataW H × List MemPlace} (hR : recOk P t ts ti th te tb tp) (hP : placeOk P tp tq ti tb) (h : DataW.trod enc P W 0 (fun _ => true) true fuel t cs = some x) :
    ∃ r : Sha.Rec, cs = Sha.rcs r ∧ (∃ L : List Sha.Pl, L.length = r.n ∧ Lane.Row W.heap (.slice r.ad r.n r.cap) r.n 4 (Sha.prow L)) ∧ r.n + 1 ≤ Rows.uptoBulk x.1 ∧ -9223372036854775808 ≤ r.e ∧ r.e ≤ 9223372036854775807 := by
  obtain ⟨hf, hct, hs, hcs, hh, hch, he, hce⟩ := hR
  obtain ⟨hp, hcq, hcp, hpf, hi, hci, hb, hcb⟩ := hP
  obtain ⟨xs, n0, hl, hd, hel⟩ := open_fields hf h
  obtain ⟨y0, _, h0⟩ := hel 0 _ rfl
  obtain ⟨y1, _, h1⟩ := hel 1 _ rfl
  obtain ⟨y2, _, h2⟩ := hel 2 _ rfl
  obtain ⟨y3, _, h3⟩ := hel 3 _ rfl
  obtain ⟨y4, _, h4⟩ := hel 4 _ rfl
  obtain ⟨y5, _, h5⟩ := hel 5 _ rfl
  obtain ⟨y6, _, h6⟩ := hel 6 _ rfl
  obtain ⟨y7, g7, h7⟩ := hel 7 _ rfl
  obtain ⟨s, e0, _, _⟩ := DataW.trod_string hs h0
  obtain ⟨ln, e1, _, _⟩ := DataW.trod_int hi h1
  obtain ⟨y, hy, e2⟩ := open_hash hh he hce hch h2
  obtain ⟨ix, e3, _, _⟩ := DataW.trod_int hi h3
  obtain ⟨ex, e4, _, hex⟩ := DataW.trod_int hi h4
  obtain ⟨ho, e5, _⟩ := DataW.trod_bool hb h5
  obtain ⟨go, e6, _⟩ := DataW.trod_bool hb h6
  obtain ⟨va, vc, L, e7, hr, hbl, _⟩ := open_parts Sha.pl0 Sha.pcs_len hp hcq (by decide) (fun _ _ => True) (fun n cs' y hy => by
    obtain ⟨p, hp⟩ := open_place hpf hi hci hb hcb hcq hy; exact ⟨p, hp, trivial⟩) h7
  refine ⟨⟨⟨s, ln, fun i => y.getD i 0, ix⟩, ex, ho, go, va, L.length, vc⟩, ?_, ⟨L, rfl, hr⟩, ?_, (i64_of hex).1, (i64_of hex).2⟩
  · have hroot : y.map Sha.bv = (Sha.hl ⟨s, ln, fun i => y.getD i 0, ix⟩).map Sha.bv := by
      have : y = (List.range 32).map fun i => y.getD i 0 := by
        refine List.ext_getElem? fun i => ?_
        by_cases hi : i < 32
        · simp [List.getD, hi, hy]
        · rw [List.getElem?_eq_none (by omega), List.getElem?_eq_none (by simp; omega)]
      exact congrArg (List.map Sha.bv) this
    rw [hct] at hl
    rw [hci] at e1 e3 e4
    rw [hcs] at e0
    rw [hch] at e2
    rw [hcb] at e5 e6
    rw [hcp] at e7
    dsimp only at e0 e1 e2 e3 e4 e5 e6 e7
    have c0 := cut cs 0 1
    have c1 := cut cs 1 1
    have c2 := cut cs 2 32
    have c3 := cut cs 34 1
    have c4 := cut cs 35 1
    have c5 := cut cs 36 1
    have c6 := cut cs 37 1
    have c7 := cut cs 38 1
    rw [List.drop_of_length_le (l := cs) (i := 38 + 1) (by omega), List.append_nil, e7] at c7
    rw [e6, c7] at c6
    rw [e5, c6] at c5
    rw [e4, c5] at c4
    rw [e3, c4] at c3
    rw [e2, c3, hroot] at c2
    rw [e1, c2] at c1
    rw [e0, c1, List.drop_zero] at c0
    rw [c0]; rfl
  · have := mem_bulk g7
    rw [hd]
    simp only at this ⊢
    omega
theorem open_rec {P : Program} {W : World} {b0 : Nat} {rr : Reach} {t ts ti th te tb tp tq : TypeId} {v : Value} {d : DataW H} {ps : List MemPlace} (hR : recOk P t ts ti th te tb tp) (hP : placeOk P tp tq ti tb) (hval : Value.okWide P W rr b0 t v) (h : DataW.Trod enc P W 0 (fun _ => true) true t v d ps) :
    ∃ (x : Sha.RB) (e : Int) (ho go : Bool) (L : List Sha.Pl) (va : Option Addr) (vc : Nat), v = .agg (Sha.rc x e ho go (.slice va L.length vc)).toArray ∧ Lane.Row W.heap (.slice va L.length vc) L.length 4 (Sha.prow L) ∧ L.length + 1 ≤ Rows.uptoBulk d ∧ -9223372036854775808 ≤ e ∧ e ≤ 9223372036854775807 := by
  obtain ⟨fs, ht⟩ := struct_of hR.1
  obtain ⟨cs, rfl, hsz⟩ := okWide_struct ht hval
  obtain ⟨fuel, h⟩ := h
  obtain ⟨r, hr, ⟨L, hL, hrow⟩, hb, he⟩ := open_reccells hR hP h
  obtain ⟨x, e, ho, go, ad, n, cap⟩ := r
  simp only at hL hrow hb he
  subst hL
  refine ⟨x, e, ho, go, L, ad, cap, ?_, hrow, hb, he⟩
  have : cs.toList = Sha.rc x e ho go (.slice ad L.length cap) := hr
  rw [← this]
theorem open_bool {P : Program} {W : World} {b0 : Nat} {rr : Reach} {t : TypeId} {v : Value} (ht : P.underlying t = some .bool) (hval : Value.okWide P W rr b0 t v) : ∃ b : Bool, v = .bool b := okWide_bool ht hval
end
end Go.Proofs.Ytlghdimpgfhmcaa
namespace Go.Proofs.Ytlghdimpgfhmcaa
open Go.ChangeShapes Go.WideShapes Go.ChangeAt Go.RowKit
section
variable {H : Type} {enc : TypeId × Value → H}
theorem open_introw {P : Program} {W : World} {b0 : Nat} {rr : Reach} {t ti : TypeId} {v : Value} {d : DataW H} {ps : List MemPlace} (ht : P.underlying t = some (.slice ti)) (hi : P.underlying ti = some (.int .i64)) (hci : P.cellsOf ti = 1)
    (hval : Value.okWide P W rr b0 t v) (h : DataW.Trod enc P W 0 (fun _ => true) true t v d ps) : ∃ va vc, ∃ L : List Int, v = .slice va L.length vc ∧ Lane.Row W.heap (.slice va L.length vc) L.length 1 (Sha.irow L) ∧ L.length + 1 ≤ Rows.uptoBulk d := by
  obtain ⟨a0, l0, c0, rfl⟩ := okWide_slice ht hval
  obtain ⟨fuel, h⟩ := h
  obtain ⟨va, vc, L, e0, hr, hb, _⟩ := open_parts 0 Sha.ics_len ht hci (by decide) (fun _ _ => True) (fun n cs' y hy => by
    obtain ⟨z, hz, _, _⟩ := DataW.trod_int hi hy; exact ⟨z, hz, trivial⟩) h
  have e : Value.slice a0 l0 c0 = .slice va L.length vc := by simpa [Value.cells] using e0
  cases e
  exact ⟨_, _, L, rfl, hr, hb⟩
end
end Go.Proofs.Ytlghdimpgfhmcaa
namespace Go.Proofs.Ytlghdimpgfhmcaa
open Go.ChangeShapes Go.WideShapes Go.ChangeAt Go.RowKit
section
variable {H : Type} {enc : TypeId × Value → H}
theorem open_op {P : Program} {W : World} {t ti : TypeId} {fuel : Nat} {cs : List Value} {x : DataW H × List MemPlace} (hf : fieldsOf P t = some [(ti, 0), (ti, 1)]) (hi : P.underlying ti = some (.int .i64)) (hci : P.cellsOf ti = 1) (hct : P.cellsOf t = 2)
    (h : DataW.trod enc P W 0 (fun _ => true) true fuel t cs = some x) : ∃ o : Sha.Op2, cs = Sha.ocs o ∧ -9223372036854775808 ≤ o.kd ∧ o.kd ≤ 9223372036854775807 := by
  obtain ⟨xs, n0, hl, hd, hel⟩ := open_fields hf h
  obtain ⟨y0, _, h0⟩ := hel 0 _ rfl
  obtain ⟨y1, _, h1⟩ := hel 1 _ rfl
  obtain ⟨a, e0, _, ha⟩ := DataW.trod_int hi h0
  obtain ⟨b, e1, _, _⟩ := DataW.trod_int hi h1
  rw [hct] at hl
  rw [hci] at e0 e1
  dsimp only at e0 e1
  refine ⟨⟨a, b⟩, ?_, (i64_of ha).1, (i64_of ha).2⟩
  have c0 := cut cs 0 1
  have c1 := cut cs 1 1
  rw [List.drop_of_length_le (l := cs) (i := 1 + 1) (by omega), List.append_nil, e1] at c1
  rw [e0, c1, List.drop_zero] at c0
  rw [c0]; rfl
theorem open_ops {P : Program} {W : World} {b0 : Nat} {rr : Reach} {t q ti : TypeId} {v : Value} {d : DataW H} {ps : List MemPlace} (ht : P.underlying t = some (.slice q)) (hf : fieldsOf P q = some [(ti, 0), (ti, 1)]) (hi : P.underlying ti = some (.int .i64)) (hci : P.cellsOf ti = 1) (hcq : P.cellsOf q = 2)
    (hval : Value.okWide P W rr b0 t v) (h : DataW.Trod enc P W 0 (fun _ => true) true t v d ps) : ∃ va vc, ∃ L : List Sha.Op2, v = .slice va L.length vc ∧ Lane.Row W.heap (.slice va L.length vc) L.length 2 (Sha.orow L) ∧ L.length + 1 ≤ Rows.uptoBulk d ∧
      ∀ i, i < L.length → -9223372036854775808 ≤ (L.getD i Sha.op0).kd ∧ (L.getD i Sha.op0).kd ≤ 9223372036854775807 := by
  obtain ⟨a0, l0, c0, rfl⟩ := okWide_slice ht hval
  obtain ⟨fuel, h⟩ := h
  obtain ⟨va, vc, L, e0, hr, hb, ds, _, _, hel⟩ := open_parts Sha.op0 Sha.ocs_len ht hcq (by decide) (fun o _ => -9223372036854775808 ≤ o.kd ∧ o.kd ≤ 9223372036854775807) (fun n cs' y hy => open_op hf hi hci hcq hy) h
  have e : Value.slice a0 l0 c0 = .slice va L.length vc := by simpa [Value.cells] using e0
  cases e
  exact ⟨_, _, L, rfl, hr, hb, fun i hi => (hel i hi).choose_spec.2⟩
end
end Go.Proofs.Ytlghdimpgfhmcaa
namespace Go.Proofs.Ytlghdimpgfhmcaa
open Go.ChangeShapes Go.WideShapes Go.ChangeAt Go.RowKit
section
variable {H : Type} {enc : TypeId × Value → H}
theorem mem_bulkA {ds : List (DataW H)} {i : Nat} {y : DataW H} (h : ds[i]? = some y) : Rows.uptoBulk y ≤ Rows.uptoBulkAll ds := by
  induction ds generalizing i with
  | nil => simp at h
  | cons x l ih =>
    simp only [Rows.uptoBulkAll]
    cases i with
    | zero => simp only [List.getElem?_cons_zero, Option.some.injEq] at h; subst h; omega
    | succ i => have := ih (i := i) (by simpa using h); omega
theorem open_recs {P : Program} {W : World} {b0 : Nat} {rr : Reach} {tl t ts ti th te tb tp tq : TypeId} {v : Value} {d : DataW H} {ps : List MemPlace} (hR : recOk P t ts ti th te tb tp) (hP : placeOk P tp tq ti tb) (ht : P.underlying tl = some (.slice t)) (hval : Value.okWide P W rr b0 tl v) (h : DataW.Trod enc P W 0 (fun _ => true) true tl v d ps) :
    ∃ (va : Option Addr) (vc : Nat) (L : List Sha.Rec), v = .slice va L.length vc ∧ Lane.Row W.heap (.slice va L.length vc) L.length 39 (Sha.rrow L) ∧ (∀ r ∈ L, (∃ Q : List Sha.Pl, Q.length = r.n ∧ Lane.Row W.heap (.slice r.ad r.n r.cap) r.n 4 (Sha.prow Q)) ∧ r.n + 1 ≤ Rows.uptoBulk d) ∧ L.length + 1 ≤ Rows.uptoBulk d := by
  obtain ⟨a0, l0, c0, rfl⟩ := okWide_slice ht hval
  obtain ⟨fuel, h⟩ := h
  obtain ⟨va, vc, L, e0, hr, hb, ds, hdl, hdb, hel⟩ := open_parts Sha.rec0 Sha.rcs_len ht hR.2.1 (by decide) (fun r dd => (∃ Q : List Sha.Pl, Q.length = r.n ∧ Lane.Row W.heap (.slice r.ad r.n r.cap) r.n 4 (Sha.prow Q)) ∧ r.n + 1 ≤ Rows.uptoBulk dd) (fun n cs' y hy => by
    obtain ⟨r, h1, h2, h3, _⟩ := open_reccells hR hP hy; exact ⟨r, h1, h2, h3⟩) h
  have e : Value.slice a0 l0 c0 = .slice va L.length vc := by simpa [Value.cells] using e0
  cases e
  refine ⟨_, _, L, rfl, hr, fun r hm => ?_, hb⟩
  obtain ⟨i, hi, rfl⟩ := List.getElem_of_mem hm
  obtain ⟨dd, hd, h1, h2⟩ := hel i hi
  rw [show L.getD i Sha.rec0 = L[i] by simp [List.getD, hi]] at h1 h2
  refine ⟨h1, ?_⟩
  have h3 := mem_bulkA hd
  have h4 : Rows.uptoBulkAll ds ≤ Rows.uptoBulk d := hdb
  omega
end
end Go.Proofs.Ytlghdimpgfhmcaa
