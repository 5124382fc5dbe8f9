/- Walks of the laws of the hashes: what each function computes, as a law of its calls. No condition but those that each theorem names. -/
import Derived.Test.YthllngaecibdkaaDoorLaw02A
import Derived.Test.YthllngaecibdkaaDoorRefC
import Derived.Test.YthllngaecibdkaaDoorArgs
namespace Go.Proofs.YthllngaecibdkaaDoor
open Go Go.Lane Go.Sha
noncomputable def b4 : Code := Tryd.f4.body.getD .skip
theorem pieces_sat (h : Heap) (sa : List Sl) (va : Option Addr) (vc : Nat) (ra : Rws h va vc sa) (na : (flat sa).length ≤ 1048576) (la : sa.length ≤ 1048576) (kt : Ktab h) : Sat Tryd.prog 4 #[.slice va sa.length vc] h fun v h' => v = .bool true ∧ Ext h h' := by
  have e0 := Ext.refl h
  have h0s := kt.lt
  have sep : Sep h.size h.size [] := Sep.nil _ _
  refine sat_of (args := [.slice va sa.length vc]) (fn := Tryd.f4) (B := b4) (n := 69) (L := [(0, .slice va sa.length vc)]) Tryd.func4 rfl (by kernel_rfl) rfl ?_
  intro a hF
  refine C.seq [0] [1] (by kernel_rfl) ?_
  refine C.plain 0 (by kernel_rfl) hF (by kernel_rfl) ?_
  refine SeqK.pures (k' := 1) [.bool false] (by kernel_rfl) rfl ?_
  refine SeqK.done [0] (L := [(0, .slice va sa.length vc)]) (by kernel_rfl) (by kernel_rfl) ?_
  clear hF; clear a; intro a hF
  show C Tryd.prog (sub b4 [1]) _ a h
  refine C.seq [1, 0] [1, 1] (by kernel_rfl) ?_
  refine C.plain 1 (by kernel_rfl) hF (by kernel_rfl) ?_
  refine SeqK.eff (k' := 1) (Does.call (f := 6) (args := #[]) (by kernel_rfl) (shown_sat _ kt)) rfl ?_
  rintro _ h1 ⟨rfl, g⟩
  replace e0 := e0.ext g
  replace kt := kt.ext g
  replace sep := sep.up g.size
  clear g
  refine SeqK.pures (k' := 2) [.bool true] (by kernel_rfl) rfl ?_
  refine SeqK.done [0, 3] (L := [(0, .slice va sa.length vc), (3, .bool true)]) (by kernel_rfl) (by kernel_rfl) ?_
  clear hF; clear a; intro a hF
  show C Tryd.prog (sub b4 [1, 1]) _ a h1
  refine C.seq [1, 1, 0] [1, 1, 1] (by kernel_rfl) ?_
  refine C.seq [1, 1, 0, 0] [1, 1, 0, 1] (by kernel_rfl) ?_
  refine C.plain 2 (by kernel_rfl) hF (by kernel_rfl) ?_
  refine SeqK.pures (k' := 2) [.bool true, .bool false] (by kernel_rfl) rfl ?_
  refine SeqK.done [0, 3, 11] (L := [(0, .slice va sa.length vc), (3, .bool true), (11, .bool false)]) (by kernel_rfl) (by kernel_rfl) ?_
  clear hF; clear a; intro a hF
  show C Tryd.prog (sub b4 [1, 1, 0, 1]) _ a h1
  refine C.condF 11 [1, 1, 0, 1, 0] [1, 1, 0, 1, 1] (by kernel_rfl) hF (fun _ => rfl) ?_
  refine C.skip (by kernel_rfl) ?_
  show C Tryd.prog (sub b4 [1, 1, 1]) _ a h1
  refine C.seq [1, 1, 1, 0] [1, 1, 1, 1] (by kernel_rfl) ?_
  refine C.plain 4 (by kernel_rfl) hF (by kernel_rfl) ?_
  refine SeqK.eff (k' := 1) (Does.call (f := 10) (args := #[]) (by kernel_rfl) (new_l _)) rfl ?_
  rintro _ h2 ⟨b_s, rfl, hs_s, hge, g⟩
  have hlo := e0.size
  have sepo := sep
  replace e0 := e0.ext g
  replace kt := kt.ext g
  replace sep := sep.up g.size
  have hlt := hs_s.lt.1
  replace sep := (sepo.cons (x := some b_s) g.size (by omega) (fun k e => by cases e; exact ⟨hge, hlt⟩)).none (by omega)
  clear hge hlo hlt g sepo
  refine SeqK.pures (k' := 2) [.pointer (some ⟨b_s, 0, none⟩)] (by kernel_rfl) rfl ?_
  refine SeqK.done [0, 3, 4] (L := [(0, .slice va sa.length vc), (3, .bool true), (4, .pointer (some ⟨b_s, 0, none⟩))]) (by kernel_rfl) (by kernel_rfl) ?_
  clear hF; clear a; intro a hF
  show C Tryd.prog (sub b4 [1, 1, 1, 1]) _ a h2
  refine C.seq [1, 1, 1, 1, 0] [1, 1, 1, 1, 1] (by kernel_rfl) ?_
  refine C.plain 5 (by kernel_rfl) hF (by kernel_rfl) ?_
  refine SeqK.eff (k' := 1) (Does.new (v := .slice (some ⟨h2.size, 0, none⟩) 0 0) (o := .cells #[] 5) (by kernel_rfl)) rfl ?_
  rintro _ h3 ⟨rfl, hh⟩
  have g4 : Ext h2 h3 := push_ext hh
  have m5 : h3[h2.size]? = some (.cells #[] 5) := push_at hh
  clear hh
  have lt6 := blk_lt m5
  have z7 := e0.size
  have hlo := e0.size
  have sepo := sep
  replace e0 := e0.ext g4
  replace kt := kt.ext g4
  replace hs_s := hs_s.ext g4
  replace sep := sep.up g4.size
  replace sep := sepo.new hlo (blk_lt m5)
  clear sepo hlo
  refine SeqK.pures (k' := 2) [.slice (some ⟨h2.size, 0, none⟩) 0 0] (by kernel_rfl) rfl ?_
  refine SeqK.done [0, 3, 4, 5] (L := [(0, .slice va sa.length vc), (3, .bool true), (4, .pointer (some ⟨b_s, 0, none⟩)), (5, .slice (some ⟨h2.size, 0, none⟩) 0 0)]) (by kernel_rfl) (by kernel_rfl) ?_
  clear hF; clear a; intro a hF
  show C Tryd.prog (sub b4 [1, 1, 1, 1, 1]) _ a h3
  refine C.seq [1, 1, 1, 1, 1, 0] [1, 1, 1, 1, 1, 1] (by kernel_rfl) ?_
  refine C.seq [1, 1, 1, 1, 1, 0, 0] [1, 1, 1, 1, 1, 0, 1] (by kernel_rfl) ?_
  refine C.plain 6 (by kernel_rfl) hF (by kernel_rfl) ?_
  refine SeqK.pures (k' := 1) [.int .i64 0] (by kernel_rfl) rfl ?_
  refine SeqK.done [0, 3, 4, 5, 6] (L := [(0, .slice va sa.length vc), (3, .bool true), (4, .pointer (some ⟨b_s, 0, none⟩)), (5, .slice (some ⟨h2.size, 0, none⟩) 0 0), (6, .int .i64 0)]) (by kernel_rfl) (by kernel_rfl) ?_
  clear hF; clear a; intro a hF
  show C Tryd.prog (sub b4 [1, 1, 1, 1, 1, 0, 1]) _ a h3
  refine C.block 0 [1, 1, 1, 1, 1, 0, 1, 0] (by kernel_rfl) ?_
  have own_y : Own h3 (.slice (some ⟨h2.size, 0, none⟩) 0 0) 5 ([] : List UInt8).length 1 (([] : List UInt8).map bv) := Own.empty 1 m5
  replace sep : Sep h.size h3.size [(some ⟨h2.size, 0, none⟩ : Option Addr).map (·.block), none, b_s] := sep
  clear m5 lt6 z7
  replace sep := sep.sub (l' := [(some ⟨h2.size, 0, none⟩ : Option Addr).map (·.block), none, b_s]) (.cons_cons _ (.cons_cons _ (.cons_cons _ (.slnil))))
  refine C.loop (fun m a h' => ∃ i : Nat, ∃ o1 : Option Nat, ∃ ay : Option Addr, ∃ cy : Nat, m = sa.length - i ∧ (Ext h h') ∧ (Ktab h') ∧ (StL h' b_s o1 (flat (sa.take i))) ∧ (Own h' (.slice ay (flat (sa.take i)).length cy) 5 (flat (sa.take i)).length 1 ((flat (sa.take i)).map bv)) ∧ (Sep h.size h'.size [ay.map (·.block), o1, b_s]) ∧ (Fr a 69 [(0, .slice va sa.length vc), (3, .bool true), (4, .pointer (some ⟨b_s, 0, none⟩)), (5, .slice ay ((flat (sa.take i)).length) cy), (6, .int .i64 ((i : Nat) : Int))])) (sa.length - 0) [1, 1, 1, 1, 1, 0, 1, 0, 0] (by kernel_rfl) ⟨0, none, (some ⟨h2.size, 0, none⟩), 0, rfl, e0, kt, hs_s, own_y, sep, hF⟩ ?_
  clear hF a
  clear e0
  clear kt
  clear hs_s
  clear own_y
  clear sep
  rintro m a h8 ⟨i, o1, ay, cy, rfl, e0, kt, hs_s, own_y, sep, hF⟩
  refine C.seq [1, 1, 1, 1, 1, 0, 1, 0, 0, 0] [1, 1, 1, 1, 1, 0, 1, 0, 0, 1] (by kernel_rfl) ?_
  refine C.seq [1, 1, 1, 1, 1, 0, 1, 0, 0, 0, 0] [1, 1, 1, 1, 1, 0, 1, 0, 0, 0, 1] (by kernel_rfl) ?_
  refine C.plain 7 (by kernel_rfl) hF (by kernel_rfl) ?_
  refine SeqK.pures (k' := 4) [.int .i64 ((i : Nat) : Int), .slice va sa.length vc, .int .i64 ((sa.length : Nat) : Int), .bool (decide (((i : Nat) : Int) < ((sa.length : Nat) : Int)))] (by kernel_rfl) rfl ?_
  refine SeqK.done [0, 3, 4, 5, 6, 17] (L := [(0, .slice va sa.length vc), (3, .bool true), (4, .pointer (some ⟨b_s, 0, none⟩)), (5, .slice ay ((flat (sa.take i)).length) cy), (6, .int .i64 ((i : Nat) : Int)), (17, .bool (decide (((i : Nat) : Int) < ((sa.length : Nat) : Int))))]) (by kernel_rfl) (by kernel_rfl) ?_
  clear hF; clear a; intro a hF
  show C Tryd.prog (sub b4 [1, 1, 1, 1, 1, 0, 1, 0, 0, 0, 1]) _ a h8
  refine C.condS 17 (decide (((i : Nat) : Int) < ((sa.length : Nat) : Int))) [1, 1, 1, 1, 1, 0, 1, 0, 0, 0, 1, 0] [1, 1, 1, 1, 1, 0, 1, 0, 0, 0, 1, 1] (by kernel_rfl) hF (fun _ => rfl) (fun hc9 => ?_) (fun hc9 => ?_)
  · skip
    replace hc9 := of_decide_eq_true hc9
    have hia : i < sa.length := by omega
    obtain ⟨aa, rfl⟩ := ra.some hia
    obtain ⟨ta, hta, ca, hra, hla, hfa, hba⟩ := ra.at hia
    refine C.skip (by kernel_rfl) ?_
    show C Tryd.prog (sub b4 [1, 1, 1, 1, 1, 0, 1, 0, 0, 1]) _ a h8
    refine C.seq [1, 1, 1, 1, 1, 0, 1, 0, 0, 1, 0] [1, 1, 1, 1, 1, 0, 1, 0, 0, 1, 1] (by kernel_rfl) ?_
    refine C.block 1 [1, 1, 1, 1, 1, 0, 1, 0, 0, 1, 0, 0] (by kernel_rfl) ?_
    refine C.seq [1, 1, 1, 1, 1, 0, 1, 0, 0, 1, 0, 0, 0] [1, 1, 1, 1, 1, 0, 1, 0, 0, 1, 0, 0, 1] (by kernel_rfl) ?_
    refine C.plain 9 (by kernel_rfl) hF (by kernel_rfl) ?_
    refine SeqK.eff (k' := 1) (Does.new (v := .slice (some ⟨h8.size, 0, none⟩) 0 0) (o := .cells #[] 5) (by kernel_rfl)) rfl ?_
    rintro _ h10 ⟨rfl, hh⟩
    have g11 : Ext h8 h10 := push_ext hh
    have m12 : h10[h8.size]? = some (.cells #[] 5) := push_at hh
    clear hh
    have lt13 := blk_lt m12
    have z14 := e0.size
    have hlo := e0.size
    have sepo := sep
    replace e0 := e0.ext g11
    replace kt := kt.ext g11
    replace hs_s := hs_s.ext g11
    replace own_y := own_y.ext g11
    replace sep := sep.up g11.size
    replace sep := sepo.new hlo (blk_lt m12)
    clear sepo hlo
    refine SeqK.pures (k' := 3) [.slice (some aa) sa.length vc, .int .i64 ((i : Nat) : Int)] (by kernel_rfl) rfl ?_
    refine SeqK.calm (k' := 4) (v := .pointer (some (Addr.add aa i))) ((Calm.indexA (a := aa) (len := sa.length) (sz := 1) (k := ((i : Nat) : Int)) i i (by kernel_rfl) rfl (by omega) (by omega)) _) rfl ?_
    refine SeqK.calm (k' := 5) (v := .slice ta.1 ta.2.2.length ta.2.1) (Calm.load (T := 22) (p := (Addr.add aa i)) (by kernel_rfl) (Loads.one (k := 1) (by kernel_rfl) (e0.cell ca))) rfl ?_
    have own_c : Own h10 (.slice (some ⟨h8.size, 0, none⟩) 0 0) 5 ([] : List UInt8).length 1 (([] : List UInt8).map bv) := Own.empty 1 m12
    replace sep : Sep h.size h10.size [(some ⟨h8.size, 0, none⟩ : Option Addr).map (·.block), ay.map (·.block), o1, b_s] := sep
    clear m12 lt13 z14
    refine SeqK.eff (k' := 6) (Does.append2 (t := 22) (E := 5) (sz := 1) (by_ := 1) (n := 0) (m := ta.2.2.length) (v := .slice (some ⟨h8.size, 0, none⟩) 0 0) (x := .slice ta.1 ta.2.2.length ta.2.1) (xs := ([]).map bv) (ys := ta.2.2.map bv) (by kernel_rfl) (by kernel_rfl) own_c (hra.ext e0) (ones_map _) (by unfold maxLen; omega) (by omega)) rfl ?_
    rintro _ h17 ⟨ad15, cap16, rfl, ownx, g, hb⟩
    rw [blkOf_slice] at g hb
    have hlo := e0.size
    have sepo := sep
    replace e0 := e0.grew g (sep.low 0 rfl)
    replace kt := kt.grew g (sep.zero 0 rfl h0s)
    replace hs_s := hs_s.put g (sep.bp 3 0 rfl rfl (by decide)) (sep.ap 2 0 rfl rfl (by decide))
    replace own_y := own_y.kept g (by rw [blkOf_slice]; exact (sep.ap 1 0 rfl rfl (by decide)))
    replace sep := sep.up g.size
    replace sep : Sep h.size h17.size [ad15.map (·.block), ay.map (·.block), o1, b_s] := sepo.set g.size hlo 0 (y := ad15.map (fun (x : Addr) => x.block)) rfl (hb.imp id fun e => .inr ⟨_, e, Nat.le_refl _⟩) (fun k e => ownx.lt (by rw [blkOf_slice]; exact e))
    replace own_c : Own h17 (.slice ad15 ta.2.2.length cap16) 5 ta.2.2.length 1 (ta.2.2.map bv) := Own.app (L2 := ta.2.2) ownx (by first | rfl | simp) (by first | rfl | (simp; done) | (simp; omega))
    clear ownx g hb hlo sepo
    refine SeqK.pures (k' := 7) [.slice ad15 (0 + ta.2.2.length) cap16] (by kernel_rfl) rfl ?_
    refine SeqK.done [0, 3, 4, 5, 6, 7] (L := [(0, .slice (some aa) sa.length vc), (3, .bool true), (4, .pointer (some ⟨b_s, 0, none⟩)), (5, .slice ay ((flat (sa.take i)).length) cy), (6, .int .i64 ((i : Nat) : Int)), (7, .slice ad15 (0 + ta.2.2.length) cap16)]) (by kernel_rfl) (by kernel_rfl) ?_
    clear hF; clear a; intro a hF
    have hcan : (0 + ta.2.2.length : Nat) = ta.2.2.length := by first | (simp; done) | (simp; omega)
    rw [hcan] at hF; clear hcan
    show C Tryd.prog (sub b4 [1, 1, 1, 1, 1, 0, 1, 0, 0, 1, 0, 0, 1]) _ a h17
    refine C.seq [1, 1, 1, 1, 1, 0, 1, 0, 0, 1, 0, 0, 1, 0] [1, 1, 1, 1, 1, 0, 1, 0, 0, 1, 0, 0, 1, 1] (by kernel_rfl) ?_
    refine C.plain 10 (by kernel_rfl) hF (by kernel_rfl) ?_
    refine SeqK.pures (k' := 2) [.pointer (some ⟨b_s, 0, none⟩), .slice ad15 ta.2.2.length cap16] (by kernel_rfl) rfl ?_
    refine SeqK.eff (k' := 3) (Does.call (f := 11) (args := #[.pointer (some ⟨b_s, 0, none⟩), .slice ad15 ta.2.2.length cap16]) (by kernel_rfl) (write_l _ b_s o1 (flat (sa.take i)) ta.2.2 _ _ hs_s own_c.row (.inr fun e => (sep.bp 3 0 rfl rfl (by decide)) (by rw [blkOf_slice] at e; exact e.symm)) (by have := sep.low 3 rfl _ rfl; omega) (fun e => sep.zero 2 rfl h0s e.symm) kt (by omega))) rfl ?_
    rintro _ h19 ⟨o18, hs', ho', g⟩
    have hlo := e0.size
    replace e0 := Gr.toExt e0 g (sep.lowF 3 2 rfl rfl)
    replace kt := kt.gr g (sep.zeroF 3 2 rfl rfl h0s)
    replace hs_s : StL h19 b_s o18 (flat (sa.take i) ++ ta.2.2) := (by first | exact hs' | simpa using hs')
    replace own_y := g.own own_y (fun k e => (sep.gF 1 3 2 rfl rfl rfl (by decide) (by decide)) k (by rw [blkOf_slice] at e; exact e))
    replace own_c := g.own own_c (fun k e => (sep.gF 0 3 2 rfl rfl rfl (by decide) (by decide)) k (by rw [blkOf_slice] at e; exact e))
    replace sep := sep.set g.1 hlo 2 (y := o18) rfl (ho'.imp id .inr) (fun k e => hs'.lt.2 k e)
    replace sep : Sep h.size h19.size [ad15.map (·.block), ay.map (·.block), o18, b_s] := sep
    clear hs' ho' g hlo
    refine SeqK.done [0, 3, 4, 5, 6, 7] (L := [(0, .slice (some aa) sa.length vc), (3, .bool true), (4, .pointer (some ⟨b_s, 0, none⟩)), (5, .slice ay ((flat (sa.take i)).length) cy), (6, .int .i64 ((i : Nat) : Int)), (7, .slice ad15 ta.2.2.length cap16)]) (by kernel_rfl) (by kernel_rfl) ?_
    clear hF; clear a; intro a hF
    show C Tryd.prog (sub b4 [1, 1, 1, 1, 1, 0, 1, 0, 0, 1, 0, 0, 1, 1]) _ a h19
    refine C.seq [1, 1, 1, 1, 1, 0, 1, 0, 0, 1, 0, 0, 1, 1, 0] [1, 1, 1, 1, 1, 0, 1, 0, 0, 1, 0, 0, 1, 1, 1] (by kernel_rfl) ?_
    refine C.seq [1, 1, 1, 1, 1, 0, 1, 0, 0, 1, 0, 0, 1, 1, 0, 0] [1, 1, 1, 1, 1, 0, 1, 0, 0, 1, 0, 0, 1, 1, 0, 1] (by kernel_rfl) ?_
    refine C.plain 11 (by kernel_rfl) hF (by kernel_rfl) ?_
    refine SeqK.pures (k' := 1) [.int .i64 0] (by kernel_rfl) rfl ?_
    refine SeqK.done [0, 3, 4, 5, 6, 7, 8] (L := [(0, .slice (some aa) sa.length vc), (3, .bool true), (4, .pointer (some ⟨b_s, 0, none⟩)), (5, .slice ay ((flat (sa.take i)).length) cy), (6, .int .i64 ((i : Nat) : Int)), (7, .slice ad15 ta.2.2.length cap16), (8, .int .i64 0)]) (by kernel_rfl) (by kernel_rfl) ?_
    clear hF; clear a; intro a hF
    show C Tryd.prog (sub b4 [1, 1, 1, 1, 1, 0, 1, 0, 0, 1, 0, 0, 1, 1, 0, 1]) _ a h19
    refine C.block 2 [1, 1, 1, 1, 1, 0, 1, 0, 0, 1, 0, 0, 1, 1, 0, 1, 0] (by kernel_rfl) ?_
    refine C.loop (fun m a h' => ∃ k : Nat, ∃ ac : Option Addr, ∃ cc : Nat, ∃ xs : List Value, m = ta.2.2.length - k ∧ (Ext h h') ∧ (Ktab h') ∧ (StL h' b_s o18 (flat (sa.take i) ++ ta.2.2)) ∧ (Own h' (.slice ay (flat (sa.take i)).length cy) 5 (flat (sa.take i)).length 1 ((flat (sa.take i)).map bv)) ∧ (Own h' (.slice ac ta.2.2.length cc) 5 ta.2.2.length 1 xs) ∧ (Sep h.size h'.size [ac.map (·.block), ay.map (·.block), o18, b_s]) ∧ (Fr a 69 [(0, .slice (some aa) sa.length vc), (3, .bool true), (4, .pointer (some ⟨b_s, 0, none⟩)), (5, .slice ay ((flat (sa.take i)).length) cy), (6, .int .i64 ((i : Nat) : Int)), (7, .slice ac ta.2.2.length cc), (8, .int .i64 ((k : Nat) : Int))])) (ta.2.2.length - 0) [1, 1, 1, 1, 1, 0, 1, 0, 0, 1, 0, 0, 1, 1, 0, 1, 0, 0] (by kernel_rfl) ⟨0, ad15, cap16, _, rfl, e0, kt, hs_s, own_y, own_c, sep, hF⟩ ?_
    clear hF a
    clear e0
    clear kt
    clear hs_s
    clear own_y
    clear own_c
    clear sep
    rintro m a h20 ⟨k, ac, cc, xs, rfl, e0, kt, hs_s, own_y, own_c, sep, hF⟩
    refine C.seq [1, 1, 1, 1, 1, 0, 1, 0, 0, 1, 0, 0, 1, 1, 0, 1, 0, 0, 0] [1, 1, 1, 1, 1, 0, 1, 0, 0, 1, 0, 0, 1, 1, 0, 1, 0, 0, 1] (by kernel_rfl) ?_
    refine C.seq [1, 1, 1, 1, 1, 0, 1, 0, 0, 1, 0, 0, 1, 1, 0, 1, 0, 0, 0, 0] [1, 1, 1, 1, 1, 0, 1, 0, 0, 1, 0, 0, 1, 1, 0, 1, 0, 0, 0, 1] (by kernel_rfl) ?_
    refine C.plain 12 (by kernel_rfl) hF (by kernel_rfl) ?_
    refine SeqK.pures (k' := 4) [.int .i64 ((k : Nat) : Int), .slice ac ta.2.2.length cc, .int .i64 ((ta.2.2.length : Nat) : Int), .bool (decide (((k : Nat) : Int) < ((ta.2.2.length : Nat) : Int)))] (by kernel_rfl) rfl ?_
    refine SeqK.done [0, 3, 4, 5, 6, 7, 8, 32] (L := [(0, .slice (some aa) sa.length vc), (3, .bool true), (4, .pointer (some ⟨b_s, 0, none⟩)), (5, .slice ay ((flat (sa.take i)).length) cy), (6, .int .i64 ((i : Nat) : Int)), (7, .slice ac ta.2.2.length cc), (8, .int .i64 ((k : Nat) : Int)), (32, .bool (decide (((k : Nat) : Int) < ((ta.2.2.length : Nat) : Int))))]) (by kernel_rfl) (by kernel_rfl) ?_
    clear hF; clear a; intro a hF
    show C Tryd.prog (sub b4 [1, 1, 1, 1, 1, 0, 1, 0, 0, 1, 0, 0, 1, 1, 0, 1, 0, 0, 0, 1]) _ a h20
    refine C.condS 32 (decide (((k : Nat) : Int) < ((ta.2.2.length : Nat) : Int))) [1, 1, 1, 1, 1, 0, 1, 0, 0, 1, 0, 0, 1, 1, 0, 1, 0, 0, 0, 1, 0] [1, 1, 1, 1, 1, 0, 1, 0, 0, 1, 0, 0, 1, 1, 0, 1, 0, 0, 0, 1, 1] (by kernel_rfl) hF (fun _ => rfl) (fun hc21 => ?_) (fun hc21 => ?_)
    · skip
      replace hc21 := of_decide_eq_true hc21
      have hkc : k < ta.2.2.length := by omega
      obtain ⟨ax, rfl, hcx⟩ := own_c.someA (by omega)
      refine C.skip (by kernel_rfl) ?_
      show C Tryd.prog (sub b4 [1, 1, 1, 1, 1, 0, 1, 0, 0, 1, 0, 0, 1, 1, 0, 1, 0, 0, 1]) _ a h20
      refine C.seq [1, 1, 1, 1, 1, 0, 1, 0, 0, 1, 0, 0, 1, 1, 0, 1, 0, 0, 1, 0] [1, 1, 1, 1, 1, 0, 1, 0, 0, 1, 0, 0, 1, 1, 0, 1, 0, 0, 1, 1] (by kernel_rfl) ?_
      refine C.block 3 [1, 1, 1, 1, 1, 0, 1, 0, 0, 1, 0, 0, 1, 1, 0, 1, 0, 0, 1, 0, 0] (by kernel_rfl) ?_
      refine C.plain 14 (by kernel_rfl) hF (by kernel_rfl) ?_
      refine SeqK.pures (k' := 2) [.slice (some ax) ta.2.2.length cc, .int .i64 ((k : Nat) : Int)] (by kernel_rfl) rfl ?_
      refine SeqK.calm (k' := 3) (v := .pointer (some (Addr.add ax k))) ((Calm.indexA (a := ax) (len := ta.2.2.length) (sz := 1) (k := ((k : Nat) : Int)) k k (by kernel_rfl) rfl (by omega) (by omega)) _) rfl ?_
      refine SeqK.eff (k' := 4) (Does.storeOwn (a := ax) (q := k) (vs := [.int .u8 99]) (by kernel_rfl) own_c (by simp; omega) (fun u hu => by rw [List.mem_singleton] at hu; subst hu; rfl)) rfl ?_
      rintro _ h22 ⟨rfl, ownx, g⟩
      replace e0 := e0.grew g (sep.low 0 rfl)
      replace kt := kt.grew g (sep.zero 0 rfl h0s)
      replace hs_s := hs_s.put g (sep.bp 3 0 rfl rfl (by decide)) (sep.ap 2 0 rfl rfl (by decide))
      replace own_y := own_y.kept g (by rw [blkOf_slice]; exact (sep.ap 1 0 rfl rfl (by decide)))
      replace sep := sep.up g.size
      clear own_c; have own_c := ownx; clear ownx g
      refine SeqK.done [0, 3, 4, 5, 6, 7, 8] (L := [(0, .slice (some aa) sa.length vc), (3, .bool true), (4, .pointer (some ⟨b_s, 0, none⟩)), (5, .slice ay ((flat (sa.take i)).length) cy), (6, .int .i64 ((i : Nat) : Int)), (7, .slice (some ax) ta.2.2.length cc), (8, .int .i64 ((k : Nat) : Int))]) (by kernel_rfl) (by kernel_rfl) ?_
      clear hF; clear a; intro a hF
      show C Tryd.prog (sub b4 [1, 1, 1, 1, 1, 0, 1, 0, 0, 1, 0, 0, 1, 1, 0, 1, 0, 0, 1, 1]) _ a h22
      refine C.plain 13 (by kernel_rfl) hF (by kernel_rfl) ?_
      refine SeqK.pures (k' := 1) [.int .i64 ((k : Nat) : Int)] (by kernel_rfl) rfl ?_
      refine SeqK.pure1 (k' := 2) (v := .int .i64 ((k + 1 : Nat) : Int)) (v' := .int .i64 (IntKind.i64.wrap (((k : Nat) : Int) + 1))) (by kernel_rfl) (congrArg (Value.int .i64) (w64' (by omega) (by omega) (by omega))) rfl ?_
      refine SeqK.pures (k' := 3) [.int .i64 ((k + 1 : Nat) : Int)] (by kernel_rfl) rfl ?_
      refine SeqK.done [0, 3, 4, 5, 6, 7, 8] (L := [(0, .slice (some aa) sa.length vc), (3, .bool true), (4, .pointer (some ⟨b_s, 0, none⟩)), (5, .slice ay ((flat (sa.take i)).length) cy), (6, .int .i64 ((i : Nat) : Int)), (7, .slice (some ax) ta.2.2.length cc), (8, .int .i64 ((k + 1 : Nat) : Int))]) (by kernel_rfl) (by kernel_rfl) ?_
      clear hF; clear a; intro a hF
      show ∃ m', m' < _ ∧ _
      refine ⟨_, ?_, k + 1, (some ax), cc, _, rfl, e0, kt, hs_s, own_y, own_c, sep, hF⟩
      omega
    · skip
      replace hc21 := of_decide_eq_false hc21
      clear own_c
      replace sep := sep.sub (l' := [ay.map (·.block), o18, b_s]) (.cons _ (.cons_cons _ (.cons_cons _ (.cons_cons _ (.slnil)))))
      refine C.exit 2 (by kernel_rfl) ?_
      show C Tryd.prog (sub b4 [1, 1, 1, 1, 1, 0, 1, 0, 0, 1, 0, 0, 1, 1, 1]) _ a h20
      refine C.seq [1, 1, 1, 1, 1, 0, 1, 0, 0, 1, 0, 0, 1, 1, 1, 0] [1, 1, 1, 1, 1, 0, 1, 0, 0, 1, 0, 0, 1, 1, 1, 1] (by kernel_rfl) ?_
      refine C.plain 15 (by kernel_rfl) hF (by kernel_rfl) ?_
      refine SeqK.pures (k' := 3) [.slice ay ((flat (sa.take i)).length) cy, .slice (some aa) sa.length vc, .int .i64 ((i : Nat) : Int)] (by kernel_rfl) rfl ?_
      refine SeqK.calm (k' := 4) (v := .pointer (some (Addr.add aa i))) ((Calm.indexA (a := aa) (len := sa.length) (sz := 1) (k := ((i : Nat) : Int)) i i (by kernel_rfl) rfl (by omega) (by omega)) _) rfl ?_
      refine SeqK.calm (k' := 5) (v := .slice ta.1 ta.2.2.length ta.2.1) (Calm.load (T := 22) (p := (Addr.add aa i)) (by kernel_rfl) (Loads.one (k := 1) (by kernel_rfl) (e0.cell ca))) rfl ?_
      refine SeqK.eff (k' := 6) (Does.append2 (t := 22) (E := 5) (sz := 1) (by_ := 1) (n := (flat (sa.take i)).length) (m := ta.2.2.length) (v := .slice ay ((flat (sa.take i)).length) cy) (x := .slice ta.1 ta.2.2.length ta.2.1) (xs := (flat (sa.take i)).map bv) (ys := ta.2.2.map bv) (by kernel_rfl) (by kernel_rfl) own_y (hra.ext e0) (ones_map _) (by unfold maxLen; omega) (by omega)) rfl ?_
      rintro _ h25 ⟨ad23, cap24, rfl, ownx, g, hb⟩
      rw [blkOf_slice] at g hb
      have hlo := e0.size
      have sepo := sep
      replace e0 := e0.grew g (sep.low 0 rfl)
      replace kt := kt.grew g (sep.zero 0 rfl h0s)
      replace hs_s := hs_s.put g (sep.bp 2 0 rfl rfl (by decide)) (sep.ap 1 0 rfl rfl (by decide))
      replace sep := sep.up g.size
      replace sep : Sep h.size h25.size [ad23.map (·.block), o18, b_s] := sepo.set g.size hlo 0 (y := ad23.map (fun (x : Addr) => x.block)) rfl (hb.imp id fun e => .inr ⟨_, e, Nat.le_refl _⟩) (fun k e => ownx.lt (by rw [blkOf_slice]; exact e))
      replace own_y : Own h25 (.slice ad23 ((flat (sa.take i) ++ ta.2.2).length) cap24) 5 ((flat (sa.take i) ++ ta.2.2).length) 1 ((flat (sa.take i) ++ ta.2.2).map bv) := Own.app (L2 := flat (sa.take i) ++ ta.2.2) ownx (by first | rfl | simp) (by first | rfl | (simp; done) | (simp; omega))
      clear ownx g hb hlo sepo
      refine SeqK.pures (k' := 7) [.slice ad23 (((flat (sa.take i)).length) + ta.2.2.length) cap24] (by kernel_rfl) rfl ?_
      refine SeqK.done [0, 3, 4, 5, 6] (L := [(0, .slice (some aa) sa.length vc), (3, .bool true), (4, .pointer (some ⟨b_s, 0, none⟩)), (5, .slice ad23 (((flat (sa.take i)).length) + ta.2.2.length) cap24), (6, .int .i64 ((i : Nat) : Int))]) (by kernel_rfl) (by kernel_rfl) ?_
      clear hF; clear a; intro a hF
      have hcan : (((flat (sa.take i)).length) + ta.2.2.length : Nat) = (flat (sa.take i) ++ ta.2.2).length := by first | (simp; done) | (simp; omega)
      rw [hcan] at hF; clear hcan
      show C Tryd.prog (sub b4 [1, 1, 1, 1, 1, 0, 1, 0, 0, 1, 0, 0, 1, 1, 1, 1]) _ a h25
      refine C.seq [1, 1, 1, 1, 1, 0, 1, 0, 0, 1, 0, 0, 1, 1, 1, 1, 0] [1, 1, 1, 1, 1, 0, 1, 0, 0, 1, 0, 0, 1, 1, 1, 1, 1] (by kernel_rfl) ?_
      rcases Nat.decEq (i % 3) 1 with h3 | h3
      · skip
        refine C.plain 16 (by kernel_rfl) hF (by kernel_rfl) ?_
        refine SeqK.pures (k' := 1) [.int .i64 ((i : Nat) : Int)] (by kernel_rfl) rfl ?_
        refine SeqK.pure1 (k' := 2) (v := .int .i64 ((i % 3 : Nat) : Int)) (v' := .int .i64 (Int.tmod ((i : Nat) : Int) 3)) (by kernel_rfl) (congrArg (Value.int .i64) (tmodN (i) 3)) rfl ?_
        refine SeqK.pure1 (k' := 3) (v := .bool false) (v' := .bool (((i % 3 : Nat) : Int) == (1 : Int))) (by kernel_rfl) (congrArg Value.bool (beq_eq_false_iff_ne.2 (by omega))) rfl ?_
        refine SeqK.pures (k' := 10) [.bool false, undef, undef, undef, undef, undef, .bool false] (by kernel_rfl) rfl ?_
        refine SeqK.done [0, 3, 4, 5, 6, 53] (L := [(0, .slice (some aa) sa.length vc), (3, .bool true), (4, .pointer (some ⟨b_s, 0, none⟩)), (5, .slice ad23 ((flat (sa.take i) ++ ta.2.2).length) cap24), (6, .int .i64 ((i : Nat) : Int)), (53, .bool false)]) (by kernel_rfl) (by kernel_rfl) ?_
        clear hF; clear a; intro a hF
        show C Tryd.prog (sub b4 [1, 1, 1, 1, 1, 0, 1, 0, 0, 1, 0, 0, 1, 1, 1, 1, 1]) _ a h25
        refine C.condF 53 [1, 1, 1, 1, 1, 0, 1, 0, 0, 1, 0, 0, 1, 1, 1, 1, 1, 0] [1, 1, 1, 1, 1, 0, 1, 0, 0, 1, 0, 0, 1, 1, 1, 1, 1, 1] (by kernel_rfl) hF (fun _ => rfl) ?_
        refine C.skip (by kernel_rfl) ?_
        show C Tryd.prog (sub b4 [1, 1, 1, 1, 1, 0, 1, 0, 0, 1, 1]) _ a h25
        refine C.plain 8 (by kernel_rfl) hF (by kernel_rfl) ?_
        refine SeqK.pures (k' := 1) [.int .i64 ((i : Nat) : Int)] (by kernel_rfl) rfl ?_
        refine SeqK.pure1 (k' := 2) (v := .int .i64 ((i + 1 : Nat) : Int)) (v' := .int .i64 (IntKind.i64.wrap (((i : Nat) : Int) + 1))) (by kernel_rfl) (congrArg (Value.int .i64) (w64' (by omega) (by omega) (by omega))) rfl ?_
        refine SeqK.pures (k' := 3) [.int .i64 ((i + 1 : Nat) : Int)] (by kernel_rfl) rfl ?_
        refine SeqK.done [0, 3, 4, 5, 6] (L := [(0, .slice (some aa) sa.length vc), (3, .bool true), (4, .pointer (some ⟨b_s, 0, none⟩)), (5, .slice ad23 ((flat (sa.take i) ++ ta.2.2).length) cap24), (6, .int .i64 ((i + 1 : Nat) : Int))]) (by kernel_rfl) (by kernel_rfl) ?_
        clear hF; clear a; intro a hF
        rw [← hfa] at hs_s own_y hF
        replace sep := sep.sub (l' := [ad23.map (·.block), o18, b_s]) (.cons_cons _ (.cons_cons _ (.cons_cons _ (.slnil))))
        show ∃ m', m' < _ ∧ _
        refine ⟨_, ?_, i + 1, o18, ad23, cap24, rfl, e0, kt, hs_s, own_y, sep, hF⟩
        omega
      · skip
        refine C.plain 16 (by kernel_rfl) hF (by kernel_rfl) ?_
        refine SeqK.pures (k' := 1) [.int .i64 ((i : Nat) : Int)] (by kernel_rfl) rfl ?_
        refine SeqK.pure1 (k' := 2) (v := .int .i64 ((i % 3 : Nat) : Int)) (v' := .int .i64 (Int.tmod ((i : Nat) : Int) 3)) (by kernel_rfl) (congrArg (Value.int .i64) (tmodN (i) 3)) rfl ?_
        refine SeqK.pure1 (k' := 3) (v := .bool true) (v' := .bool (((i % 3 : Nat) : Int) == (1 : Int))) (by kernel_rfl) (congrArg Value.bool (beq_iff_eq.2 (by omega))) rfl ?_
        refine SeqK.pures (k' := 5) [.bool true, .pointer (some ⟨b_s, 0, none⟩)] (by kernel_rfl) rfl ?_
        refine SeqK.eff (k' := 6) (Does.call (f := 12) (args := #[.pointer (some ⟨b_s, 0, none⟩)]) (by kernel_rfl) (sum_l _ b_s o18 (flat (sa.take i) ++ ta.2.2) hs_s kt (by rw [List.length_append]; omega))) rfl ?_
        rintro _ h26 ⟨rfl, g⟩
        replace e0 := e0.ext g
        replace kt := kt.ext g
        replace hs_s := hs_s.ext g
        replace own_y := own_y.ext g
        replace sep := sep.up g.size
        clear g
        refine SeqK.pures (k' := 7) [.slice ad23 ((flat (sa.take i) ++ ta.2.2).length) cap24] (by kernel_rfl) rfl ?_
        refine SeqK.eff (k' := 8) (Does.call (f := 8) (args := #[.slice ad23 ((flat (sa.take i) ++ ta.2.2).length) cap24]) (by kernel_rfl) (rsum_sat _ (flat (sa.take i) ++ ta.2.2) _ _ own_y.row (by first | (have := flat_le sa i; omega) | (rw [List.length_append]; omega)))) rfl ?_
        rintro _ h27 ⟨rfl, g⟩
        replace e0 := e0.ext g
        replace kt := kt.ext g
        replace hs_s := hs_s.ext g
        replace own_y := own_y.ext g
        replace sep := sep.up g.size
        clear g
        refine SeqK.calm (k' := 9) (v := .bool false) ((eqHT (q := false) (l := sha (flat (sa.take i) ++ ta.2.2)) (r := sha (flat (sa.take i) ++ ta.2.2)) (n := 32) (by kernel_rfl) rfl rfl rfl) _) rfl ?_
        refine SeqK.pures (k' := 10) [.bool false] (by kernel_rfl) rfl ?_
        refine SeqK.done [0, 3, 4, 5, 6, 53] (L := [(0, .slice (some aa) sa.length vc), (3, .bool true), (4, .pointer (some ⟨b_s, 0, none⟩)), (5, .slice ad23 ((flat (sa.take i) ++ ta.2.2).length) cap24), (6, .int .i64 ((i : Nat) : Int)), (53, .bool false)]) (by kernel_rfl) (by kernel_rfl) ?_
        clear hF; clear a; intro a hF
        show C Tryd.prog (sub b4 [1, 1, 1, 1, 1, 0, 1, 0, 0, 1, 0, 0, 1, 1, 1, 1, 1]) _ a h27
        refine C.condF 53 [1, 1, 1, 1, 1, 0, 1, 0, 0, 1, 0, 0, 1, 1, 1, 1, 1, 0] [1, 1, 1, 1, 1, 0, 1, 0, 0, 1, 0, 0, 1, 1, 1, 1, 1, 1] (by kernel_rfl) hF (fun _ => rfl) ?_
        refine C.skip (by kernel_rfl) ?_
        show C Tryd.prog (sub b4 [1, 1, 1, 1, 1, 0, 1, 0, 0, 1, 1]) _ a h27
        refine C.plain 8 (by kernel_rfl) hF (by kernel_rfl) ?_
        refine SeqK.pures (k' := 1) [.int .i64 ((i : Nat) : Int)] (by kernel_rfl) rfl ?_
        refine SeqK.pure1 (k' := 2) (v := .int .i64 ((i + 1 : Nat) : Int)) (v' := .int .i64 (IntKind.i64.wrap (((i : Nat) : Int) + 1))) (by kernel_rfl) (congrArg (Value.int .i64) (w64' (by omega) (by omega) (by omega))) rfl ?_
        refine SeqK.pures (k' := 3) [.int .i64 ((i + 1 : Nat) : Int)] (by kernel_rfl) rfl ?_
        refine SeqK.done [0, 3, 4, 5, 6] (L := [(0, .slice (some aa) sa.length vc), (3, .bool true), (4, .pointer (some ⟨b_s, 0, none⟩)), (5, .slice ad23 ((flat (sa.take i) ++ ta.2.2).length) cap24), (6, .int .i64 ((i + 1 : Nat) : Int))]) (by kernel_rfl) (by kernel_rfl) ?_
        clear hF; clear a; intro a hF
        rw [← hfa] at hs_s own_y hF
        replace sep := sep.sub (l' := [ad23.map (·.block), o18, b_s]) (.cons_cons _ (.cons_cons _ (.cons_cons _ (.slnil))))
        show ∃ m', m' < _ ∧ _
        refine ⟨_, ?_, i + 1, o18, ad23, cap24, rfl, e0, kt, hs_s, own_y, sep, hF⟩
        omega
  · skip
    replace hc9 := of_decide_eq_false hc9
    refine C.exit 0 (by kernel_rfl) ?_
    show C Tryd.prog (sub b4 [1, 1, 1, 1, 1, 1]) _ a h8
    refine C.seq [1, 1, 1, 1, 1, 1, 0] [1, 1, 1, 1, 1, 1, 1] (by kernel_rfl) ?_
    refine C.plain 18 (by kernel_rfl) hF (by kernel_rfl) ?_
    refine SeqK.pures (k' := 3) [.bool true, .bool true, .pointer (some ⟨b_s, 0, none⟩)] (by kernel_rfl) rfl ?_
    refine SeqK.eff (k' := 4) (Does.call (f := 12) (args := #[.pointer (some ⟨b_s, 0, none⟩)]) (by kernel_rfl) (sum_l _ b_s o1 (flat (sa.take i)) hs_s kt (by have := flat_le sa i; omega))) rfl ?_
    rintro _ h28 ⟨rfl, g⟩
    replace e0 := e0.ext g
    replace kt := kt.ext g
    replace hs_s := hs_s.ext g
    replace own_y := own_y.ext g
    replace sep := sep.up g.size
    clear g
    refine SeqK.pures (k' := 5) [.slice ay ((flat (sa.take i)).length) cy] (by kernel_rfl) rfl ?_
    refine SeqK.eff (k' := 6) (Does.call (f := 8) (args := #[.slice ay ((flat (sa.take i)).length) cy]) (by kernel_rfl) (rsum_sat _ (flat (sa.take i)) _ _ own_y.row (by first | (have := flat_le sa i; omega) | (rw [List.length_append]; omega)))) rfl ?_
    rintro _ h29 ⟨rfl, g⟩
    replace e0 := e0.ext g
    replace kt := kt.ext g
    replace hs_s := hs_s.ext g
    replace own_y := own_y.ext g
    replace sep := sep.up g.size
    clear g
    refine SeqK.calm (k' := 7) (v := .bool true) ((eqHT (q := true) (l := sha (flat (sa.take i))) (r := sha (flat (sa.take i))) (n := 32) (by kernel_rfl) rfl rfl rfl) _) rfl ?_
    refine SeqK.pures (k' := 10) [.bool true, .bool true, .pointer (some ⟨b_s, 0, none⟩)] (by kernel_rfl) rfl ?_
    refine SeqK.eff (k' := 11) (Does.call (f := 12) (args := #[.pointer (some ⟨b_s, 0, none⟩)]) (by kernel_rfl) (sum_l _ b_s o1 (flat (sa.take i)) hs_s kt (by have := flat_le sa i; omega))) rfl ?_
    rintro _ h30 ⟨rfl, g⟩
    replace e0 := e0.ext g
    replace kt := kt.ext g
    replace hs_s := hs_s.ext g
    replace own_y := own_y.ext g
    replace sep := sep.up g.size
    clear g
    refine SeqK.pures (k' := 12) [.slice ay ((flat (sa.take i)).length) cy] (by kernel_rfl) rfl ?_
    refine SeqK.eff (k' := 13) (Does.call (f := 8) (args := #[.slice ay ((flat (sa.take i)).length) cy]) (by kernel_rfl) (rsum_sat _ (flat (sa.take i)) _ _ own_y.row (by first | (have := flat_le sa i; omega) | (rw [List.length_append]; omega)))) rfl ?_
    rintro _ h31 ⟨rfl, g⟩
    replace e0 := e0.ext g
    replace kt := kt.ext g
    replace hs_s := hs_s.ext g
    replace own_y := own_y.ext g
    replace sep := sep.up g.size
    clear g
    refine SeqK.calm (k' := 14) (v := .bool true) ((eqHT (q := true) (l := sha (flat (sa.take i))) (r := sha (flat (sa.take i))) (n := 32) (by kernel_rfl) rfl rfl rfl) _) rfl ?_
    refine SeqK.pures (k' := 16) [.bool true, .bool true] (by kernel_rfl) rfl ?_
    refine SeqK.done [2] (L := [(2, .bool true)]) (by kernel_rfl) (by kernel_rfl) ?_
    clear hF; clear a; intro a hF
    show C Tryd.prog (sub b4 [1, 1, 1, 1, 1, 1, 1]) _ a h31
    refine C.ret (by kernel_rfl) ?_
    refine ret_ok [.tmp 2] [.bool true] (.bool true) rfl hF ⟨rfl, trivial⟩ rfl ?_
    exact ⟨rfl, e0⟩
end Go.Proofs.YthllngaecibdkaaDoor
