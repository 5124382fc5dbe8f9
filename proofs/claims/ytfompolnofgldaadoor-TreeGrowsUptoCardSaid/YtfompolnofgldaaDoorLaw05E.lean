/- Walks of the laws of the trees: what each function computes, as a law of its calls. No condition but those that each theorem names. -/
import Derived.Test.YtfompolnofgldaaDoorLaw05D
namespace Go.Proofs.YtfompolnofgldaaDoor
open Go Go.Lane Go.Sha
noncomputable def b5 : Code := Tryd.f5.body.getD .skip
theorem grows_sat (h : Heap) (l : List UInt8) (va : Option Addr) (vc : Nat) (hr : Row h (.slice va l.length vc) l.length 1 (l.map bv)) (hn : l.length ≤ 1048576) (kt : Ktab h) : Sat Tryd.prog 5 #[.slice va l.length vc] h fun v h' => v = .bool true ∧ Ext h h' := by
  have e0 := Ext.refl h
  have h0s := kt.lt
  have sep : Sep h.size h.size [] := Sep.nil _ _
  refine sat_of (args := [.slice va l.length vc]) (fn := Tryd.f5) (B := b5) (n := 50) (L := [(0, .slice va l.length vc)]) Tryd.func5 rfl (by kernel_rfl) rfl ?_
  intro a hF
  refine C.seq [0] [1] (by kernel_rfl) ?_
  refine C.plain 0 (by kernel_rfl) hF (by kernel_rfl) ?_
  refine SeqK.pures (k' := 1) [.bool false] (by kernel_rfl) rfl ?_
  refine SeqK.done [0] (L := [(0, .slice va l.length vc)]) (by kernel_rfl) (by kernel_rfl) ?_
  clear hF; clear a; intro a hF
  show C Tryd.prog (sub b5 [1]) _ a h
  refine C.seq [1, 0] [1, 1] (by kernel_rfl) ?_
  refine C.plain 1 (by kernel_rfl) hF (by kernel_rfl) ?_
  refine SeqK.eff (k' := 1) (Does.call (f := 8) (args := #[]) (by kernel_rfl) (shown5_sat _ kt)) rfl ?_
  rintro _ h1 ⟨rfl, g⟩
  replace e0 := e0.ext g
  replace kt := kt.ext g
  replace sep := sep.up g.size
  clear g
  refine SeqK.pures (k' := 2) [.bool true] (by kernel_rfl) rfl ?_
  refine SeqK.done [0, 3] (L := [(0, .slice va l.length vc), (3, .bool true)]) (by kernel_rfl) (by kernel_rfl) ?_
  clear hF; clear a; intro a hF
  show C Tryd.prog (sub b5 [1, 1]) _ a h1
  refine C.seq [1, 1, 0] [1, 1, 1] (by kernel_rfl) ?_
  refine C.plain 2 (by kernel_rfl) hF (by kernel_rfl) ?_
  refine SeqK.eff (k' := 1) (Does.call (f := 21) (args := #[]) (by kernel_rfl) (newgrow_l _)) rfl ?_
  rintro _ h2 ⟨b_g, rfl, hs_g, hge, g⟩
  have hlo := e0.size
  have sepo := sep
  replace e0 := e0.ext g
  replace kt := kt.ext g
  replace sep := sep.up g.size
  have hlt := hs_g.lt.1
  replace sep := (sepo.cons (x := some b_g) g.size (by omega) (fun k e => by cases e; exact ⟨hge, hlt⟩)).none (by omega)
  clear hge hlo hlt g sepo
  refine SeqK.pures (k' := 2) [.pointer (some ⟨b_g, 0, none⟩)] (by kernel_rfl) rfl ?_
  refine SeqK.done [0, 3, 4] (L := [(0, .slice va l.length vc), (3, .bool true), (4, .pointer (some ⟨b_g, 0, none⟩))]) (by kernel_rfl) (by kernel_rfl) ?_
  clear hF; clear a; intro a hF
  show C Tryd.prog (sub b5 [1, 1, 1]) _ a h2
  refine C.seq [1, 1, 1, 0] [1, 1, 1, 1] (by kernel_rfl) ?_
  refine C.seq [1, 1, 1, 0, 0] [1, 1, 1, 0, 1] (by kernel_rfl) ?_
  refine C.plain 3 (by kernel_rfl) hF (by kernel_rfl) ?_
  refine SeqK.pures (k' := 6) [.bool true, .bool false, .bool false, .pointer (some ⟨b_g, 0, none⟩), .bool false, .bool false] (by kernel_rfl) rfl ?_
  refine SeqK.done [0, 4, 14] (L := [(0, .slice va l.length vc), (4, .pointer (some ⟨b_g, 0, none⟩)), (14, .bool false)]) (by kernel_rfl) (by kernel_rfl) ?_
  clear hF; clear a; intro a hF
  show C Tryd.prog (sub b5 [1, 1, 1, 0, 1]) _ a h2
  refine C.condF 14 [1, 1, 1, 0, 1, 0] [1, 1, 1, 0, 1, 1] (by kernel_rfl) hF (fun _ => rfl) ?_
  refine C.skip (by kernel_rfl) ?_
  show C Tryd.prog (sub b5 [1, 1, 1, 1]) _ a h2
  refine C.seq [1, 1, 1, 1, 0] [1, 1, 1, 1, 1] (by kernel_rfl) ?_
  refine C.plain 5 (by kernel_rfl) hF (by kernel_rfl) ?_
  refine SeqK.pures (k' := 1) [.slice va l.length vc] (by kernel_rfl) rfl ?_
  refine SeqK.eff (k' := 2) (Does.call (f := 9) (args := #[.slice va l.length vc]) (by kernel_rfl) (leaves_n _ l va vc (hr.ext e0) (by omega))) rfl ?_
  rintro _ h5 ⟨ad3, cap4, rfl, ownx, hge, g⟩
  have hlo := e0.size
  have sepo := sep
  replace e0 := e0.ext g
  replace kt := kt.ext g
  replace hs_g := hs_g.ext g
  replace sep := sep.up g.size
  replace sep := sepo.cons (x := ad3.map (fun (x : Addr) => x.block)) g.size hlo (fun k e => ⟨hge k e, ownx.lt (by rw [blkOf_slice]; exact e)⟩)
  have own_hl : Own h5 (.slice ad3 l.length cap4) 27 l.length 32 (hcs (lvs l l.length)) := ownx; clear ownx sepo hlo hge g
  refine SeqK.pures (k' := 3) [.slice ad3 l.length cap4] (by kernel_rfl) rfl ?_
  refine SeqK.done [4, 5] (L := [(4, .pointer (some ⟨b_g, 0, none⟩)), (5, .slice ad3 l.length cap4)]) (by kernel_rfl) (by kernel_rfl) ?_
  clear hF; clear a; intro a hF
  show C Tryd.prog (sub b5 [1, 1, 1, 1, 1]) _ a h5
  refine C.seq [1, 1, 1, 1, 1, 0] [1, 1, 1, 1, 1, 1] (by kernel_rfl) ?_
  refine C.seq [1, 1, 1, 1, 1, 0, 0] [1, 1, 1, 1, 1, 0, 1] (by kernel_rfl) ?_
  refine C.plain 6 (by kernel_rfl) hF (by kernel_rfl) ?_
  refine SeqK.pures (k' := 1) [.int .i64 0] (by kernel_rfl) rfl ?_
  refine SeqK.done [4, 5, 6] (L := [(4, .pointer (some ⟨b_g, 0, none⟩)), (5, .slice ad3 l.length cap4), (6, .int .i64 0)]) (by kernel_rfl) (by kernel_rfl) ?_
  clear hF; clear a; intro a hF
  show C Tryd.prog (sub b5 [1, 1, 1, 1, 1, 0, 1]) _ a h5
  refine C.block 0 [1, 1, 1, 1, 1, 0, 1, 0] (by kernel_rfl) ?_
  refine C.loop (fun m a h' => ∃ i : Nat, ∃ o1 : Option Nat, m = l.length + 1 - i ∧ (Ext h h') ∧ (Ktab h') ∧ (i ≤ l.length + 1) ∧ (GrowL h' b_g o1 ((lvs l l.length).take i)) ∧ (Own h' (.slice ad3 l.length cap4) 27 l.length 32 (hcs (lvs l l.length))) ∧ (Sep h.size h'.size [ad3.map (·.block), o1, b_g]) ∧ (Fr a 50 [(4, .pointer (some ⟨b_g, 0, none⟩)), (5, .slice ad3 l.length cap4), (6, .int .i64 ((i : Nat) : Int))])) (l.length + 1 - 0) [1, 1, 1, 1, 1, 0, 1, 0, 0] (by kernel_rfl) ⟨0, none, rfl, e0, kt, (by omega), hs_g, own_hl, sep, hF⟩ ?_
  clear hF a
  clear e0
  clear kt
  clear hs_g
  clear own_hl
  clear sep
  rintro m a h6 ⟨i, o1, rfl, e0, kt, hi, hs_g, own_hl, sep, hF⟩
  have hcp := (HR.of own_hl (lvs_32 _ _)).cap
  refine C.seq [1, 1, 1, 1, 1, 0, 1, 0, 0, 0] [1, 1, 1, 1, 1, 0, 1, 0, 0, 1] (by kernel_rfl) ?_
  refine C.seq [1, 1, 1, 1, 1, 0, 1, 0, 0, 0, 0] [1, 1, 1, 1, 1, 0, 1, 0, 0, 0, 1] (by kernel_rfl) ?_
  rcases (show i ≤ l.length ∧ i < 80 ∨ i ≤ l.length ∧ 80 ≤ i ∨ l.length < i by omega) with hi2 | hi2 | hi2
  · skip
    refine C.plain 7 (by kernel_rfl) hF (by kernel_rfl) ?_
    refine SeqK.pures (k' := 3) [.int .i64 ((i : Nat) : Int), .slice ad3 l.length cap4, .int .i64 ((l.length : Nat) : Int)] (by kernel_rfl) rfl ?_
    refine SeqK.pure1 (k' := 4) (v := .bool true) (v' := .bool (decide (((i : Nat) : Int) ≤ ((l.length : Nat) : Int)))) (by kernel_rfl) (congrArg Value.bool (decide_eq_true (by omega))) rfl ?_
    refine SeqK.pures (k' := 6) [.bool true, .int .i64 ((i : Nat) : Int)] (by kernel_rfl) rfl ?_
    refine SeqK.pure1 (k' := 7) (v := .bool true) (v' := .bool (decide (((i : Nat) : Int) < (80 : Int)))) (by kernel_rfl) (congrArg Value.bool (decide_eq_true (by omega))) rfl ?_
    refine SeqK.pures (k' := 8) [.bool true] (by kernel_rfl) rfl ?_
    refine SeqK.done [4, 5, 6, 24] (L := [(4, .pointer (some ⟨b_g, 0, none⟩)), (5, .slice ad3 l.length cap4), (6, .int .i64 ((i : Nat) : Int)), (24, .bool true)]) (by kernel_rfl) (by kernel_rfl) ?_
    clear hF; clear a; intro a hF
    show C Tryd.prog (sub b5 [1, 1, 1, 1, 1, 0, 1, 0, 0, 0, 1]) _ a h6
    refine C.condT 24 [1, 1, 1, 1, 1, 0, 1, 0, 0, 0, 1, 0] [1, 1, 1, 1, 1, 0, 1, 0, 0, 0, 1, 1] (by kernel_rfl) hF (fun _ => rfl) ?_
    refine C.skip (by kernel_rfl) ?_
    show C Tryd.prog (sub b5 [1, 1, 1, 1, 1, 0, 1, 0, 0, 1]) _ a h6
    refine C.seq [1, 1, 1, 1, 1, 0, 1, 0, 0, 1, 0] [1, 1, 1, 1, 1, 0, 1, 0, 0, 1, 1] (by kernel_rfl) ?_
    refine C.block 1 [1, 1, 1, 1, 1, 0, 1, 0, 0, 1, 0, 0] (by kernel_rfl) ?_
    refine C.seq [1, 1, 1, 1, 1, 0, 1, 0, 0, 1, 0, 0, 0] [1, 1, 1, 1, 1, 0, 1, 0, 0, 1, 0, 0, 1] (by kernel_rfl) ?_
    refine C.seq [1, 1, 1, 1, 1, 0, 1, 0, 0, 1, 0, 0, 0, 0] [1, 1, 1, 1, 1, 0, 1, 0, 0, 1, 0, 0, 0, 1] (by kernel_rfl) ?_
    refine C.draw (A := [0, 1, 0, 7, 15, 31, 63, 31, 31, 415, 1023, 2047, 4095]) 9 (by kernel_rfl) mixed hF (by kernel_rfl) ?_
    refine SimK.pures (D' := 1) (is := [0]) (vs := [.pointer (some ⟨b_g, 0, none⟩)]) (by kernel_rfl) ?_
    refine SimK.look (D' := 3) (Wd' := 2) (i := 1) (v := .int .i64 ((i : Nat) : Int)) (by kernel_rfl) (by kernel_rfl) (by kernel_rfl) (Does.call (f := 22) (args := #[.pointer (some ⟨b_g, 0, none⟩)]) (by kernel_rfl) (size_n _ b_g o1 ((lvs l l.length).take i) hs_g i (by rw [List.length_take, lvs_len]; omega))) ?_
    refine SimK.pures (D' := 7) (is := [2]) (vs := [.int .i64 ((i : Nat) : Int)]) (by kernel_rfl) ?_
    refine SimK.pure1 (D' := 15) (i := 3) (v := .bool false) (v' := .bool (!(((i : Nat) : Int) == ((i : Nat) : Int)))) (by kernel_rfl) (by kernel_rfl) (by kernel_rfl) (congrArg (fun b => Value.bool (!b)) (beq_iff_eq.2 (by omega))) ?_
    refine SimK.pures (D' := 447) (is := [4, 5, 7, 8]) (vs := [.bool false, .pointer (some ⟨b_g, 0, none⟩), .slice ad3 l.length cap4, .int .i64 ((i : Nat) : Int)]) (by kernel_rfl) ?_
    refine SimK.free (D' := 959) (i := 9) (v := .slice ad3 i cap4) (by kernel_rfl) (by kernel_rfl) (fun h => Calm.sliceO (a := ad3) (len := l.length) (cap := cap4) (sz := 32) (x := ad3) 0 i cap4 i cap4 (by kernel_rfl) (.inl ⟨rfl, rfl⟩) (.inr rfl) (.inl ⟨rfl, rfl⟩) (by omega) (by omega) (opt_add0 _ 32) (by first | rfl | omega) (by first | rfl | omega) h) ?_
    refine SimK.eff0 (i := 6) (D' := 1023) (X' := 127) (by kernel_rfl) (by kernel_rfl) (by kernel_rfl) (by kernel_rfl) (Does.call (f := 23) (args := #[.pointer (some ⟨b_g, 0, none⟩)]) (by kernel_rfl) (groot_l _ b_g o1 ((lvs l l.length).take i) hs_g kt (by rw [List.length_take, lvs_len]; omega))) ?_
    rintro _ h7 ⟨rfl, g⟩
    replace e0 := e0.ext g
    replace kt := kt.ext g
    replace own_hl := own_hl.ext g
    replace hs_g := hs_g.ext g
    replace sep := sep.up g.size
    clear g
    refine SimK.eff0 (i := 10) (D' := 2047) (X' := 2047) (by kernel_rfl) (by kernel_rfl) (by kernel_rfl) (by kernel_rfl) (Does.call (f := 13) (args := #[.slice ad3 i cap4]) (by kernel_rfl) (rroot_sat _ ((lvs l l.length).take i) _ _ i ((HR.of own_hl (lvs_32 _ _)).take (by omega)) (by omega))) ?_
    rintro _ h8 ⟨rfl, g⟩
    replace e0 := e0.ext g
    replace kt := kt.ext g
    replace own_hl := own_hl.ext g
    replace hs_g := hs_g.ext g
    replace sep := sep.up g.size
    clear g
    refine SimK.free (D' := 4095) (i := 11) (v := .bool false) (by kernel_rfl) (by kernel_rfl) (eqHT (q := false) (l := root ((lvs l l.length).take i)) (r := root ((lvs l l.length).take i)) (n := 32) (by kernel_rfl) (root_len ((lvs_32 _ _).take _)) (root_len ((lvs_32 _ _).take _)) rfl) ?_
    refine SimK.pures (D' := 8191) (is := [12]) (vs := [.bool false]) (by kernel_rfl) ?_
    refine SimK.done [4, 5, 6, 39] (L := [(4, .pointer (some ⟨b_g, 0, none⟩)), (5, .slice ad3 l.length cap4), (6, .int .i64 ((i : Nat) : Int)), (39, .bool false)]) (by kernel_rfl) (by kernel_rfl) ?_
    clear hF; clear a; intro a hF
    show C Tryd.prog (sub b5 [1, 1, 1, 1, 1, 0, 1, 0, 0, 1, 0, 0, 0, 1]) _ a h8
    refine C.condF 39 [1, 1, 1, 1, 1, 0, 1, 0, 0, 1, 0, 0, 0, 1, 0] [1, 1, 1, 1, 1, 0, 1, 0, 0, 1, 0, 0, 0, 1, 1] (by kernel_rfl) hF (fun _ => rfl) ?_
    refine C.skip (by kernel_rfl) ?_
    show C Tryd.prog (sub b5 [1, 1, 1, 1, 1, 0, 1, 0, 0, 1, 0, 0, 1]) _ a h8
    refine C.seq [1, 1, 1, 1, 1, 0, 1, 0, 0, 1, 0, 0, 1, 0] [1, 1, 1, 1, 1, 0, 1, 0, 0, 1, 0, 0, 1, 1] (by kernel_rfl) ?_
    refine C.plain 11 (by kernel_rfl) hF (by kernel_rfl) ?_
    refine SeqK.pures (k' := 4) [.int .i64 ((i : Nat) : Int), .slice ad3 l.length cap4, .int .i64 ((l.length : Nat) : Int), .bool (decide (((i : Nat) : Int) < ((l.length : Nat) : Int)))] (by kernel_rfl) rfl ?_
    refine SeqK.done [4, 5, 6, 43] (L := [(4, .pointer (some ⟨b_g, 0, none⟩)), (5, .slice ad3 l.length cap4), (6, .int .i64 ((i : Nat) : Int)), (43, .bool (decide (((i : Nat) : Int) < ((l.length : Nat) : Int))))]) (by kernel_rfl) (by kernel_rfl) ?_
    clear hF; clear a; intro a hF
    show C Tryd.prog (sub b5 [1, 1, 1, 1, 1, 0, 1, 0, 0, 1, 0, 0, 1, 1]) _ a h8
    refine C.condS 43 (decide (((i : Nat) : Int) < ((l.length : Nat) : Int))) [1, 1, 1, 1, 1, 0, 1, 0, 0, 1, 0, 0, 1, 1, 0] [1, 1, 1, 1, 1, 0, 1, 0, 0, 1, 0, 0, 1, 1, 1] (by kernel_rfl) hF (fun _ => rfl) (fun hc9 => ?_) (fun hc9 => ?_)
    · skip
      replace hc9 := of_decide_eq_true hc9
      have hi3 : i < l.length := by omega
      obtain ⟨ah, rfl, _⟩ := own_hl.someA (by omega)
      have hrl := HR.of own_hl (lvs_32 _ _)
      refine C.plain 12 (by kernel_rfl) hF (by kernel_rfl) ?_
      refine SeqK.pures (k' := 3) [.pointer (some ⟨b_g, 0, none⟩), .slice (some ah) l.length cap4, .int .i64 ((i : Nat) : Int)] (by kernel_rfl) rfl ?_
      refine SeqK.calm (k' := 4) (v := .pointer (some (Addr.add ah (i * 32)))) ((Calm.indexA (a := ah) (len := l.length) (sz := 32) (k := ((i : Nat) : Int)) i (i * 32) (by kernel_rfl) rfl (by omega) (by omega)) _) rfl ?_
      refine SeqK.calm (k' := 5) (v := .agg (((lvs l l.length).getD i []).map bv).toArray) (Calm.load (T := 27) (p := (Addr.add ah (i * 32))) (by kernel_rfl) (HR.loads (k := i) (q := i * 32) (HR.of own_hl (lvs_32 _ _)) (by kernel_rfl) (by omega) (by omega))) rfl ?_
      refine SeqK.eff (k' := 6) (Does.call (f := 24) (args := #[.pointer (some ⟨b_g, 0, none⟩), .agg (((lvs l l.length).getD i []).map bv).toArray]) (by kernel_rfl) (add_l _ b_g o1 ((lvs l l.length).take i) hs_g ((lvs l l.length).getD i []) (hrl.2.1.get (k := i) (by rw [hrl.2.2]; omega)) kt (by have := sep.low 2 rfl _ rfl; omega) (fun e => sep.zero 1 rfl h0s e.symm) (by rw [List.length_take, lvs_len]; omega))) rfl ?_
      rintro _ h11 ⟨o10, hs', ho', g⟩
      have hlo := e0.size
      replace e0 := Gr.toExt e0 g (sep.lowF 2 1 rfl rfl)
      replace kt := kt.gr g (sep.zeroF 2 1 rfl rfl h0s)
      replace own_hl := g.own own_hl (fun k e => (sep.gF 0 2 1 rfl rfl rfl (by decide) (by decide)) k (by rw [blkOf_slice] at e; exact e))
      replace hs_g : GrowL h11 b_g o10 ((lvs l l.length).take i ++ [((lvs l l.length).getD i [])]) := hs'
      replace sep := sep.set g.1 hlo 1 (y := o10) rfl (ho'.imp id .inr) (fun k e => hs'.lt.2 k e)
      replace sep : Sep h.size h11.size [(some ah).map (·.block), o10, b_g] := sep
      clear hs' ho' g hlo
      refine SeqK.done [4, 5, 6] (L := [(4, .pointer (some ⟨b_g, 0, none⟩)), (5, .slice (some ah) l.length cap4), (6, .int .i64 ((i : Nat) : Int))]) (by kernel_rfl) (by kernel_rfl) ?_
      clear hF; clear a; intro a hF
      show C Tryd.prog (sub b5 [1, 1, 1, 1, 1, 0, 1, 0, 0, 1, 1]) _ a h11
      refine C.plain 8 (by kernel_rfl) hF (by kernel_rfl) ?_
      refine SeqK.pures (k' := 1) [.int .i64 ((i : Nat) : Int)] (by kernel_rfl) rfl ?_
      refine SeqK.pure1 (k' := 2) (v := .int .i64 ((i + 1 : Nat) : Int)) (v' := .int .i64 (IntKind.i64.wrap (((i : Nat) : Int) + 1))) (by kernel_rfl) (congrArg (Value.int .i64) (w64' (by omega) (by omega) (by omega))) rfl ?_
      refine SeqK.pures (k' := 3) [.int .i64 ((i + 1 : Nat) : Int)] (by kernel_rfl) rfl ?_
      refine SeqK.done [4, 5, 6] (L := [(4, .pointer (some ⟨b_g, 0, none⟩)), (5, .slice (some ah) l.length cap4), (6, .int .i64 ((i + 1 : Nat) : Int))]) (by kernel_rfl) (by kernel_rfl) ?_
      clear hF; clear a; intro a hF
      rw [take_next hrl hi3] at hs_g
      show ∃ m', m' < _ ∧ _
      refine ⟨_, ?_, (i + 1), o10, rfl, e0, kt, (by omega), hs_g, own_hl, sep, hF⟩
      omega
    · skip
      replace hc9 := of_decide_eq_false hc9
      refine C.skip (by kernel_rfl) ?_
      show C Tryd.prog (sub b5 [1, 1, 1, 1, 1, 0, 1, 0, 0, 1, 1]) _ a h8
      refine C.plain 8 (by kernel_rfl) hF (by kernel_rfl) ?_
      refine SeqK.pures (k' := 1) [.int .i64 ((i : Nat) : Int)] (by kernel_rfl) rfl ?_
      refine SeqK.pure1 (k' := 2) (v := .int .i64 ((i + 1 : Nat) : Int)) (v' := .int .i64 (IntKind.i64.wrap (((i : Nat) : Int) + 1))) (by kernel_rfl) (congrArg (Value.int .i64) (w64' (by omega) (by omega) (by omega))) rfl ?_
      refine SeqK.pures (k' := 3) [.int .i64 ((i + 1 : Nat) : Int)] (by kernel_rfl) rfl ?_
      refine SeqK.done [4, 5, 6] (L := [(4, .pointer (some ⟨b_g, 0, none⟩)), (5, .slice ad3 l.length cap4), (6, .int .i64 ((i + 1 : Nat) : Int))]) (by kernel_rfl) (by kernel_rfl) ?_
      clear hF; clear a; intro a hF
      rw [show (lvs l l.length).take i = (lvs l l.length).take (i + 1) by rw [List.take_of_length_le (by rw [lvs_len]; omega), List.take_of_length_le (by rw [lvs_len]; omega)]] at hs_g
      show ∃ m', m' < _ ∧ _
      refine ⟨_, ?_, (i + 1), o1, rfl, e0, kt, (by omega), hs_g, own_hl, sep, hF⟩
      omega
  · skip
    refine C.plain 7 (by kernel_rfl) hF (by kernel_rfl) ?_
    refine SeqK.pures (k' := 3) [.int .i64 ((i : Nat) : Int), .slice ad3 l.length cap4, .int .i64 ((l.length : Nat) : Int)] (by kernel_rfl) rfl ?_
    refine SeqK.pure1 (k' := 4) (v := .bool true) (v' := .bool (decide (((i : Nat) : Int) ≤ ((l.length : Nat) : Int)))) (by kernel_rfl) (congrArg Value.bool (decide_eq_true (by omega))) rfl ?_
    refine SeqK.pures (k' := 6) [.bool true, .int .i64 ((i : Nat) : Int)] (by kernel_rfl) rfl ?_
    refine SeqK.pure1 (k' := 7) (v := .bool false) (v' := .bool (decide (((i : Nat) : Int) < (80 : Int)))) (by kernel_rfl) (congrArg Value.bool (decide_eq_false (by omega))) rfl ?_
    refine SeqK.pures (k' := 8) [.bool false] (by kernel_rfl) rfl ?_
    refine SeqK.done [4, 5, 6, 24] (L := [(4, .pointer (some ⟨b_g, 0, none⟩)), (5, .slice ad3 l.length cap4), (6, .int .i64 ((i : Nat) : Int)), (24, .bool false)]) (by kernel_rfl) (by kernel_rfl) ?_
    clear hF; clear a; intro a hF
    show C Tryd.prog (sub b5 [1, 1, 1, 1, 1, 0, 1, 0, 0, 0, 1]) _ a h6
    refine C.condF 24 [1, 1, 1, 1, 1, 0, 1, 0, 0, 0, 1, 0] [1, 1, 1, 1, 1, 0, 1, 0, 0, 0, 1, 1] (by kernel_rfl) hF (fun _ => rfl) ?_
    refine C.exit 0 (by kernel_rfl) ?_
    show C Tryd.prog (sub b5 [1, 1, 1, 1, 1, 1]) _ a h6
    refine C.seq [1, 1, 1, 1, 1, 1, 0] [1, 1, 1, 1, 1, 1, 1] (by kernel_rfl) ?_
    refine C.plain 13 (by kernel_rfl) hF (by kernel_rfl) ?_
    refine SeqK.pures (k' := 1) [.bool true] (by kernel_rfl) rfl ?_
    refine SeqK.done [2] (L := [(2, .bool true)]) (by kernel_rfl) (by kernel_rfl) ?_
    clear hF; clear a; intro a hF
    show C Tryd.prog (sub b5 [1, 1, 1, 1, 1, 1, 1]) _ a h6
    refine C.ret (by kernel_rfl) ?_
    show retK Tryd.prog Tryd.f5 (fun v h' => v = .bool true ∧ Ext h h') .ret a h6
    refine ret_ok [.tmp 2] [.bool true] (.bool true) rfl hF ⟨rfl, trivial⟩ rfl ?_
    exact ⟨rfl, e0⟩
  · skip
    refine C.plain 7 (by kernel_rfl) hF (by kernel_rfl) ?_
    refine SeqK.pures (k' := 3) [.int .i64 ((i : Nat) : Int), .slice ad3 l.length cap4, .int .i64 ((l.length : Nat) : Int)] (by kernel_rfl) rfl ?_
    refine SeqK.pure1 (k' := 4) (v := .bool false) (v' := .bool (decide (((i : Nat) : Int) ≤ ((l.length : Nat) : Int)))) (by kernel_rfl) (congrArg Value.bool (decide_eq_false (by omega))) rfl ?_
    refine SeqK.pures (k' := 8) [.bool false, undef, undef, .bool false] (by kernel_rfl) rfl ?_
    refine SeqK.done [4, 5, 6, 24] (L := [(4, .pointer (some ⟨b_g, 0, none⟩)), (5, .slice ad3 l.length cap4), (6, .int .i64 ((i : Nat) : Int)), (24, .bool false)]) (by kernel_rfl) (by kernel_rfl) ?_
    clear hF; clear a; intro a hF
    show C Tryd.prog (sub b5 [1, 1, 1, 1, 1, 0, 1, 0, 0, 0, 1]) _ a h6
    refine C.condF 24 [1, 1, 1, 1, 1, 0, 1, 0, 0, 0, 1, 0] [1, 1, 1, 1, 1, 0, 1, 0, 0, 0, 1, 1] (by kernel_rfl) hF (fun _ => rfl) ?_
    refine C.exit 0 (by kernel_rfl) ?_
    show C Tryd.prog (sub b5 [1, 1, 1, 1, 1, 1]) _ a h6
    refine C.seq [1, 1, 1, 1, 1, 1, 0] [1, 1, 1, 1, 1, 1, 1] (by kernel_rfl) ?_
    refine C.plain 13 (by kernel_rfl) hF (by kernel_rfl) ?_
    refine SeqK.pures (k' := 1) [.bool true] (by kernel_rfl) rfl ?_
    refine SeqK.done [2] (L := [(2, .bool true)]) (by kernel_rfl) (by kernel_rfl) ?_
    clear hF; clear a; intro a hF
    show C Tryd.prog (sub b5 [1, 1, 1, 1, 1, 1, 1]) _ a h6
    refine C.ret (by kernel_rfl) ?_
    show retK Tryd.prog Tryd.f5 (fun v h' => v = .bool true ∧ Ext h h') .ret a h6
    refine ret_ok [.tmp 2] [.bool true] (.bool true) rfl hF ⟨rfl, trivial⟩ rfl ?_
    exact ⟨rfl, e0⟩
end Go.Proofs.YtfompolnofgldaaDoor
