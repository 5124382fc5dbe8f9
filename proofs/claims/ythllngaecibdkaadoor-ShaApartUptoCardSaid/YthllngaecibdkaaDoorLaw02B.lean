/- Walks of the laws of the hashes: what each function computes, as a law of its calls. No condition but those that each theorem names. -/
import Derived.Test.YthllngaecibdkaaDoorLaw02A
import Derived.Test.YthllngaecibdkaaDoorArgs
namespace Go.Proofs.YthllngaecibdkaaDoor
open Go Go.Lane Go.Sha
noncomputable def b5 : Code := Tryd.f5.body.getD .skip
theorem apart_sat (h : Heap) (sa sb : List Sl) (va vb : Option Addr) (vc vd : Nat) (ra : Rws h va vc sa) (rb : Rws h vb vd sb) (na : (flat sa).length ≤ 1048576) (nb : (flat sb).length ≤ 1048576) (la : sa.length ≤ 1048576) (lb : sb.length ≤ 1048576) (kt : Ktab h) : Sat Tryd.prog 5 #[.slice va sa.length vc, .slice vb sb.length vd] h fun v h' => v = .bool true ∧ Ext h h' := by
  have e0 := Ext.refl h
  have h0s := kt.lt
  have sep : Sep h.size h.size [] := Sep.nil _ _
  refine sat_of (args := [.slice va sa.length vc, .slice vb sb.length vd]) (fn := Tryd.f5) (B := b5) (n := 83) (L := [(0, .slice va sa.length vc), (1, .slice vb sb.length vd)]) Tryd.func5 rfl (by kernel_rfl) rfl ?_
  intro a hF
  refine C.seq [0] [1] (by kernel_rfl) ?_
  refine C.plain 0 (by kernel_rfl) hF (by kernel_rfl) ?_
  refine SeqK.pures (k' := 1) [.bool false] (by kernel_rfl) rfl ?_
  refine SeqK.done [0, 1] (L := [(0, .slice va sa.length vc), (1, .slice vb sb.length vd)]) (by kernel_rfl) (by kernel_rfl) ?_
  clear hF; clear a; intro a hF
  show C Tryd.prog (sub b5 [1]) _ a h
  refine C.seq [1, 0] [1, 1] (by kernel_rfl) ?_
  refine C.plain 1 (by kernel_rfl) hF (by kernel_rfl) ?_
  refine SeqK.eff (k' := 1) (Does.call (f := 6) (args := #[]) (by kernel_rfl) (shown_sat _ kt)) rfl ?_
  rintro _ h1 ⟨rfl, g⟩
  replace e0 := e0.ext g
  replace kt := kt.ext g
  replace sep := sep.up g.size
  clear g
  refine SeqK.pures (k' := 2) [.bool true] (by kernel_rfl) rfl ?_
  refine SeqK.done [0, 1, 5] (L := [(0, .slice va sa.length vc), (1, .slice vb sb.length vd), (5, .bool true)]) (by kernel_rfl) (by kernel_rfl) ?_
  clear hF; clear a; intro a hF
  show C Tryd.prog (sub b5 [1, 1]) _ a h1
  refine C.seq [1, 1, 0] [1, 1, 1] (by kernel_rfl) ?_
  refine C.seq [1, 1, 0, 0] [1, 1, 0, 1] (by kernel_rfl) ?_
  refine C.plain 2 (by kernel_rfl) hF (by kernel_rfl) ?_
  refine SeqK.pures (k' := 2) [.bool true, .bool false] (by kernel_rfl) rfl ?_
  refine SeqK.done [0, 1, 5, 13] (L := [(0, .slice va sa.length vc), (1, .slice vb sb.length vd), (5, .bool true), (13, .bool false)]) (by kernel_rfl) (by kernel_rfl) ?_
  clear hF; clear a; intro a hF
  show C Tryd.prog (sub b5 [1, 1, 0, 1]) _ a h1
  refine C.condF 13 [1, 1, 0, 1, 0] [1, 1, 0, 1, 1] (by kernel_rfl) hF (fun _ => rfl) ?_
  refine C.skip (by kernel_rfl) ?_
  show C Tryd.prog (sub b5 [1, 1, 1]) _ a h1
  refine C.seq [1, 1, 1, 0] [1, 1, 1, 1] (by kernel_rfl) ?_
  refine C.plain 4 (by kernel_rfl) hF (by kernel_rfl) ?_
  refine SeqK.eff (k' := 1) (Does.call (f := 10) (args := #[]) (by kernel_rfl) (new_l _)) rfl ?_
  rintro _ h2 ⟨b_s, rfl, hs_s, hge, g⟩
  have hlo := e0.size
  have sepo := sep
  replace e0 := e0.ext g
  replace kt := kt.ext g
  replace sep := sep.up g.size
  have hlt := hs_s.lt.1
  replace sep := (sepo.cons (x := some b_s) g.size (by omega) (fun k e => by cases e; exact ⟨hge, hlt⟩)).none (by omega)
  clear hge hlo hlt g sepo
  refine SeqK.pures (k' := 2) [.pointer (some ⟨b_s, 0, none⟩)] (by kernel_rfl) rfl ?_
  refine SeqK.done [0, 1, 5, 6] (L := [(0, .slice va sa.length vc), (1, .slice vb sb.length vd), (5, .bool true), (6, .pointer (some ⟨b_s, 0, none⟩))]) (by kernel_rfl) (by kernel_rfl) ?_
  clear hF; clear a; intro a hF
  show C Tryd.prog (sub b5 [1, 1, 1, 1]) _ a h2
  refine C.seq [1, 1, 1, 1, 0] [1, 1, 1, 1, 1] (by kernel_rfl) ?_
  refine C.plain 5 (by kernel_rfl) hF (by kernel_rfl) ?_
  refine SeqK.eff (k' := 1) (Does.call (f := 10) (args := #[]) (by kernel_rfl) (new_l _)) rfl ?_
  rintro _ h3 ⟨b_t, rfl, hs_t, hge, g⟩
  have hlo := e0.size
  have sepo := sep
  replace e0 := e0.ext g
  replace kt := kt.ext g
  replace hs_s := hs_s.ext g
  replace sep := sep.up g.size
  have hlt := hs_t.lt.1
  replace sep := (sepo.cons (x := some b_t) g.size (by omega) (fun k e => by cases e; exact ⟨hge, hlt⟩)).none (by omega)
  clear hge hlo hlt g sepo
  refine SeqK.pures (k' := 2) [.pointer (some ⟨b_t, 0, none⟩)] (by kernel_rfl) rfl ?_
  refine SeqK.done [0, 1, 5, 6, 7] (L := [(0, .slice va sa.length vc), (1, .slice vb sb.length vd), (5, .bool true), (6, .pointer (some ⟨b_s, 0, none⟩)), (7, .pointer (some ⟨b_t, 0, none⟩))]) (by kernel_rfl) (by kernel_rfl) ?_
  clear hF; clear a; intro a hF
  show C Tryd.prog (sub b5 [1, 1, 1, 1, 1]) _ a h3
  refine C.seq [1, 1, 1, 1, 1, 0] [1, 1, 1, 1, 1, 1] (by kernel_rfl) ?_
  refine C.seq [1, 1, 1, 1, 1, 0, 0] [1, 1, 1, 1, 1, 0, 1] (by kernel_rfl) ?_
  refine C.plain 6 (by kernel_rfl) hF (by kernel_rfl) ?_
  refine SeqK.pures (k' := 6) [.pointer (some ⟨b_s, 0, none⟩), .bool false, .bool false, .pointer (some ⟨b_t, 0, none⟩), .bool false, .bool false] (by kernel_rfl) rfl ?_
  refine SeqK.done [0, 1, 5, 6, 7, 21] (L := [(0, .slice va sa.length vc), (1, .slice vb sb.length vd), (5, .bool true), (6, .pointer (some ⟨b_s, 0, none⟩)), (7, .pointer (some ⟨b_t, 0, none⟩)), (21, .bool false)]) (by kernel_rfl) (by kernel_rfl) ?_
  clear hF; clear a; intro a hF
  show C Tryd.prog (sub b5 [1, 1, 1, 1, 1, 0, 1]) _ a h3
  refine C.condF 21 [1, 1, 1, 1, 1, 0, 1, 0] [1, 1, 1, 1, 1, 0, 1, 1] (by kernel_rfl) hF (fun _ => rfl) ?_
  refine C.skip (by kernel_rfl) ?_
  show C Tryd.prog (sub b5 [1, 1, 1, 1, 1, 1]) _ a h3
  refine C.seq [1, 1, 1, 1, 1, 1, 0] [1, 1, 1, 1, 1, 1, 1] (by kernel_rfl) ?_
  refine C.plain 8 (by kernel_rfl) hF (by kernel_rfl) ?_
  refine SeqK.eff (k' := 1) (Does.new (v := .slice (some ⟨h3.size, 0, none⟩) 0 0) (o := .cells #[] 5) (by kernel_rfl)) rfl ?_
  rintro _ h4 ⟨rfl, hh⟩
  have g5 : Ext h3 h4 := push_ext hh
  have m6 : h4[h3.size]? = some (.cells #[] 5) := push_at hh
  clear hh
  have lt7 := blk_lt m6
  have z8 := e0.size
  have hlo := e0.size
  have sepo := sep
  replace e0 := e0.ext g5
  replace kt := kt.ext g5
  replace hs_s := hs_s.ext g5
  replace hs_t := hs_t.ext g5
  replace sep := sep.up g5.size
  replace sep := sepo.new hlo (blk_lt m6)
  clear sepo hlo
  refine SeqK.pures (k' := 2) [.slice (some ⟨h3.size, 0, none⟩) 0 0] (by kernel_rfl) rfl ?_
  refine SeqK.done [0, 1, 5, 6, 7, 8] (L := [(0, .slice va sa.length vc), (1, .slice vb sb.length vd), (5, .bool true), (6, .pointer (some ⟨b_s, 0, none⟩)), (7, .pointer (some ⟨b_t, 0, none⟩)), (8, .slice (some ⟨h3.size, 0, none⟩) 0 0)]) (by kernel_rfl) (by kernel_rfl) ?_
  clear hF; clear a; intro a hF
  show C Tryd.prog (sub b5 [1, 1, 1, 1, 1, 1, 1]) _ a h4
  refine C.seq [1, 1, 1, 1, 1, 1, 1, 0] [1, 1, 1, 1, 1, 1, 1, 1] (by kernel_rfl) ?_
  refine C.plain 9 (by kernel_rfl) hF (by kernel_rfl) ?_
  refine SeqK.eff (k' := 1) (Does.new (v := .slice (some ⟨h4.size, 0, none⟩) 0 0) (o := .cells #[] 5) (by kernel_rfl)) rfl ?_
  rintro _ h9 ⟨rfl, hh⟩
  have g10 : Ext h4 h9 := push_ext hh
  have m11 : h9[h4.size]? = some (.cells #[] 5) := push_at hh
  clear hh
  have lt12 := blk_lt m11
  have z13 := e0.size
  have hlo := e0.size
  have sepo := sep
  replace e0 := e0.ext g10
  replace kt := kt.ext g10
  replace hs_s := hs_s.ext g10
  replace hs_t := hs_t.ext g10
  replace m6 := Ext.blk g10 m6
  replace sep := sep.up g10.size
  replace sep := sepo.new hlo (blk_lt m11)
  clear sepo hlo
  refine SeqK.pures (k' := 2) [.slice (some ⟨h4.size, 0, none⟩) 0 0] (by kernel_rfl) rfl ?_
  refine SeqK.done [0, 1, 5, 6, 7, 8, 9] (L := [(0, .slice va sa.length vc), (1, .slice vb sb.length vd), (5, .bool true), (6, .pointer (some ⟨b_s, 0, none⟩)), (7, .pointer (some ⟨b_t, 0, none⟩)), (8, .slice (some ⟨h3.size, 0, none⟩) 0 0), (9, .slice (some ⟨h4.size, 0, none⟩) 0 0)]) (by kernel_rfl) (by kernel_rfl) ?_
  clear hF; clear a; intro a hF
  show C Tryd.prog (sub b5 [1, 1, 1, 1, 1, 1, 1, 1]) _ a h9
  refine C.seq [1, 1, 1, 1, 1, 1, 1, 1, 0] [1, 1, 1, 1, 1, 1, 1, 1, 1] (by kernel_rfl) ?_
  refine C.seq [1, 1, 1, 1, 1, 1, 1, 1, 0, 0] [1, 1, 1, 1, 1, 1, 1, 1, 0, 1] (by kernel_rfl) ?_
  refine C.plain 10 (by kernel_rfl) hF (by kernel_rfl) ?_
  refine SeqK.pures (k' := 1) [.int .i64 0] (by kernel_rfl) rfl ?_
  refine SeqK.done [0, 1, 5, 6, 7, 8, 9, 10] (L := [(0, .slice va sa.length vc), (1, .slice vb sb.length vd), (5, .bool true), (6, .pointer (some ⟨b_s, 0, none⟩)), (7, .pointer (some ⟨b_t, 0, none⟩)), (8, .slice (some ⟨h3.size, 0, none⟩) 0 0), (9, .slice (some ⟨h4.size, 0, none⟩) 0 0), (10, .int .i64 0)]) (by kernel_rfl) (by kernel_rfl) ?_
  clear hF; clear a; intro a hF
  show C Tryd.prog (sub b5 [1, 1, 1, 1, 1, 1, 1, 1, 0, 1]) _ a h9
  refine C.block 0 [1, 1, 1, 1, 1, 1, 1, 1, 0, 1, 0] (by kernel_rfl) ?_
  have own_x : Own h9 (.slice (some ⟨h3.size, 0, none⟩) 0 0) 5 ([] : List UInt8).length 1 (([] : List UInt8).map bv) := Own.empty 1 m6
  replace sep : Sep h.size h9.size [some (h4.size), (some ⟨h3.size, 0, none⟩ : Option Addr).map (·.block), none, b_t, none, b_s] := sep
  clear m6 lt7 z8
  have own_y : Own h9 (.slice (some ⟨h4.size, 0, none⟩) 0 0) 5 ([] : List UInt8).length 1 (([] : List UInt8).map bv) := Own.empty 1 m11
  replace sep : Sep h.size h9.size [(some ⟨h4.size, 0, none⟩ : Option Addr).map (·.block), (some ⟨h3.size, 0, none⟩ : Option Addr).map (·.block), none, b_t, none, b_s] := sep
  clear m11 lt12 z13
  refine C.loop (fun m a h' => ∃ i : Nat, ∃ o1 : Option Nat, ∃ o2 : Option Nat, ∃ ax : Option Addr, ∃ cx : Nat, ∃ ay : Option Addr, ∃ cy : Nat, m = sa.length + sb.length - i ∧ (Ext h h') ∧ (Ktab h') ∧ (StL h' b_s o1 (flat (sa.take i))) ∧ (StL h' b_t o2 (flat (sb.take i))) ∧ (Own h' (.slice ax (flat (sa.take i)).length cx) 5 (flat (sa.take i)).length 1 ((flat (sa.take i)).map bv)) ∧ (Own h' (.slice ay (flat (sb.take i)).length cy) 5 (flat (sb.take i)).length 1 ((flat (sb.take i)).map bv)) ∧ (Sep h.size h'.size [ay.map (·.block), ax.map (·.block), o2, b_t, o1, b_s]) ∧ (Fr a 83 [(0, .slice va sa.length vc), (1, .slice vb sb.length vd), (5, .bool true), (6, .pointer (some ⟨b_s, 0, none⟩)), (7, .pointer (some ⟨b_t, 0, none⟩)), (8, .slice ax ((flat (sa.take i)).length) cx), (9, .slice ay ((flat (sb.take i)).length) cy), (10, .int .i64 ((i : Nat) : Int))])) (sa.length + sb.length - 0) [1, 1, 1, 1, 1, 1, 1, 1, 0, 1, 0, 0] (by kernel_rfl) ⟨0, none, none, (some ⟨h3.size, 0, none⟩), 0, (some ⟨h4.size, 0, none⟩), 0, rfl, e0, kt, hs_s, hs_t, own_x, own_y, sep, hF⟩ ?_
  clear hF a
  clear e0
  clear kt
  clear hs_s
  clear hs_t
  clear own_x
  clear own_y
  clear sep
  rintro m a h14 ⟨i, o1, o2, ax, cx, ay, cy, rfl, e0, kt, hs_s, hs_t, own_x, own_y, sep, hF⟩
  rcases Nat.lt_or_ge i sa.length with hia | hia <;> rcases Nat.lt_or_ge i sb.length with hib | hib
  · skip
    obtain ⟨aa, rfl⟩ := ra.some hia
    obtain ⟨ta, hta, ca, hra, hla, hfa, hba⟩ := ra.at hia
    obtain ⟨ab, rfl⟩ := rb.some hib
    obtain ⟨tb, htb, cb, hrb, hlb, hfb, hbb⟩ := rb.at hib
    refine C.seq [1, 1, 1, 1, 1, 1, 1, 1, 0, 1, 0, 0, 0] [1, 1, 1, 1, 1, 1, 1, 1, 0, 1, 0, 0, 1] (by kernel_rfl) ?_
    refine C.seq [1, 1, 1, 1, 1, 1, 1, 1, 0, 1, 0, 0, 0, 0] [1, 1, 1, 1, 1, 1, 1, 1, 0, 1, 0, 0, 0, 1] (by kernel_rfl) ?_
    refine C.plain 11 (by kernel_rfl) hF (by kernel_rfl) ?_
    refine SeqK.pures (k' := 3) [.int .i64 ((i : Nat) : Int), .slice (some aa) sa.length vc, .int .i64 ((sa.length : Nat) : Int)] (by kernel_rfl) rfl ?_
    refine SeqK.pure1 (k' := 4) (v := .bool true) (v' := .bool (decide (((i : Nat) : Int) < ((sa.length : Nat) : Int)))) (by kernel_rfl) (congrArg Value.bool (decide_eq_true (by omega))) rfl ?_
    refine SeqK.pures (k' := 10) [.bool true, undef, undef, undef, undef, .bool true] (by kernel_rfl) rfl ?_
    refine SeqK.done [0, 1, 5, 6, 7, 8, 9, 10, 33] (L := [(0, .slice (some aa) sa.length vc), (1, .slice (some ab) sb.length vd), (5, .bool true), (6, .pointer (some ⟨b_s, 0, none⟩)), (7, .pointer (some ⟨b_t, 0, none⟩)), (8, .slice ax ((flat (sa.take i)).length) cx), (9, .slice ay ((flat (sb.take i)).length) cy), (10, .int .i64 ((i : Nat) : Int)), (33, .bool true)]) (by kernel_rfl) (by kernel_rfl) ?_
    clear hF; clear a; intro a hF
    show C Tryd.prog (sub b5 [1, 1, 1, 1, 1, 1, 1, 1, 0, 1, 0, 0, 0, 1]) _ a h14
    refine C.condT 33 [1, 1, 1, 1, 1, 1, 1, 1, 0, 1, 0, 0, 0, 1, 0] [1, 1, 1, 1, 1, 1, 1, 1, 0, 1, 0, 0, 0, 1, 1] (by kernel_rfl) hF (fun _ => rfl) ?_
    refine C.skip (by kernel_rfl) ?_
    show C Tryd.prog (sub b5 [1, 1, 1, 1, 1, 1, 1, 1, 0, 1, 0, 0, 1]) _ a h14
    refine C.seq [1, 1, 1, 1, 1, 1, 1, 1, 0, 1, 0, 0, 1, 0] [1, 1, 1, 1, 1, 1, 1, 1, 0, 1, 0, 0, 1, 1] (by kernel_rfl) ?_
    refine C.block 1 [1, 1, 1, 1, 1, 1, 1, 1, 0, 1, 0, 0, 1, 0, 0] (by kernel_rfl) ?_
    refine C.seq [1, 1, 1, 1, 1, 1, 1, 1, 0, 1, 0, 0, 1, 0, 0, 0] [1, 1, 1, 1, 1, 1, 1, 1, 0, 1, 0, 0, 1, 0, 0, 1] (by kernel_rfl) ?_
    refine C.seq [1, 1, 1, 1, 1, 1, 1, 1, 0, 1, 0, 0, 1, 0, 0, 0, 0] [1, 1, 1, 1, 1, 1, 1, 1, 0, 1, 0, 0, 1, 0, 0, 0, 1] (by kernel_rfl) ?_
    refine C.plain 13 (by kernel_rfl) hF (by kernel_rfl) ?_
    refine SeqK.pures (k' := 3) [.int .i64 ((i : Nat) : Int), .slice (some aa) sa.length vc, .int .i64 ((sa.length : Nat) : Int)] (by kernel_rfl) rfl ?_
    refine SeqK.pure1 (k' := 4) (v := .bool true) (v' := .bool (decide (((i : Nat) : Int) < ((sa.length : Nat) : Int)))) (by kernel_rfl) (congrArg Value.bool (decide_eq_true (by omega))) rfl ?_
    refine SeqK.done [0, 1, 5, 6, 7, 8, 9, 10, 39] (L := [(0, .slice (some aa) sa.length vc), (1, .slice (some ab) sb.length vd), (5, .bool true), (6, .pointer (some ⟨b_s, 0, none⟩)), (7, .pointer (some ⟨b_t, 0, none⟩)), (8, .slice ax ((flat (sa.take i)).length) cx), (9, .slice ay ((flat (sb.take i)).length) cy), (10, .int .i64 ((i : Nat) : Int)), (39, .bool true)]) (by kernel_rfl) (by kernel_rfl) ?_
    clear hF; clear a; intro a hF
    show C Tryd.prog (sub b5 [1, 1, 1, 1, 1, 1, 1, 1, 0, 1, 0, 0, 1, 0, 0, 0, 1]) _ a h14
    refine C.condT 39 [1, 1, 1, 1, 1, 1, 1, 1, 0, 1, 0, 0, 1, 0, 0, 0, 1, 0] [1, 1, 1, 1, 1, 1, 1, 1, 0, 1, 0, 0, 1, 0, 0, 0, 1, 1] (by kernel_rfl) hF (fun _ => rfl) ?_
    refine C.seq [1, 1, 1, 1, 1, 1, 1, 1, 0, 1, 0, 0, 1, 0, 0, 0, 1, 0, 0] [1, 1, 1, 1, 1, 1, 1, 1, 0, 1, 0, 0, 1, 0, 0, 0, 1, 0, 1] (by kernel_rfl) ?_
    refine C.plain 14 (by kernel_rfl) hF (by kernel_rfl) ?_
    refine SeqK.pures (k' := 3) [.pointer (some ⟨b_s, 0, none⟩), .slice (some aa) sa.length vc, .int .i64 ((i : Nat) : Int)] (by kernel_rfl) rfl ?_
    refine SeqK.calm (k' := 4) (v := .pointer (some (Addr.add aa i))) ((Calm.indexA (a := aa) (len := sa.length) (sz := 1) (k := ((i : Nat) : Int)) i i (by kernel_rfl) rfl (by omega) (by omega)) _) rfl ?_
    refine SeqK.calm (k' := 5) (v := .slice ta.1 ta.2.2.length ta.2.1) (Calm.load (T := 22) (p := (Addr.add aa i)) (by kernel_rfl) (Loads.one (k := 1) (by kernel_rfl) (e0.cell ca))) rfl ?_
    refine SeqK.eff (k' := 6) (Does.call (f := 11) (args := #[.pointer (some ⟨b_s, 0, none⟩), .slice ta.1 ta.2.2.length ta.2.1]) (by kernel_rfl) (write_l _ b_s o1 (flat (sa.take i)) ta.2.2 _ _ hs_s (hra.ext e0) (hla.imp id fun hl e => by have := hl _ e; have := sep.low 5 rfl _ rfl; omega) (by have := sep.low 5 rfl _ rfl; omega) (fun e => sep.zero 4 rfl h0s e.symm) kt (by omega))) rfl ?_
    rintro _ h16 ⟨o15, hs', ho', g⟩
    have hlo := e0.size
    replace e0 := Gr.toExt e0 g (sep.lowF 5 4 rfl rfl)
    replace kt := kt.gr g (sep.zeroF 5 4 rfl rfl h0s)
    replace hs_s : StL h16 b_s o15 (flat (sa.take i) ++ ta.2.2) := (by first | exact hs' | simpa using hs')
    replace hs_t := hs_t.gr g ((sep.gF 3 5 4 rfl rfl rfl (by decide) (by decide)) _ rfl) (sep.gF 2 5 4 rfl rfl rfl (by decide) (by decide))
    replace own_x := g.own own_x (fun k e => (sep.gF 1 5 4 rfl rfl rfl (by decide) (by decide)) k (by rw [blkOf_slice] at e; exact e))
    replace own_y := g.own own_y (fun k e => (sep.gF 0 5 4 rfl rfl rfl (by decide) (by decide)) k (by rw [blkOf_slice] at e; exact e))
    replace sep := sep.set g.1 hlo 4 (y := o15) rfl (ho'.imp id .inr) (fun k e => hs'.lt.2 k e)
    replace sep : Sep h.size h16.size [ay.map (·.block), ax.map (·.block), o2, b_t, o15, b_s] := sep
    clear hs' ho' g hlo
    refine SeqK.done [0, 1, 5, 6, 7, 8, 9, 10] (L := [(0, .slice (some aa) sa.length vc), (1, .slice (some ab) sb.length vd), (5, .bool true), (6, .pointer (some ⟨b_s, 0, none⟩)), (7, .pointer (some ⟨b_t, 0, none⟩)), (8, .slice ax ((flat (sa.take i)).length) cx), (9, .slice ay ((flat (sb.take i)).length) cy), (10, .int .i64 ((i : Nat) : Int))]) (by kernel_rfl) (by kernel_rfl) ?_
    clear hF; clear a; intro a hF
    show C Tryd.prog (sub b5 [1, 1, 1, 1, 1, 1, 1, 1, 0, 1, 0, 0, 1, 0, 0, 0, 1, 0, 1]) _ a h16
    refine C.plain 15 (by kernel_rfl) hF (by kernel_rfl) ?_
    refine SeqK.pures (k' := 3) [.slice ax ((flat (sa.take i)).length) cx, .slice (some aa) sa.length vc, .int .i64 ((i : Nat) : Int)] (by kernel_rfl) rfl ?_
    refine SeqK.calm (k' := 4) (v := .pointer (some (Addr.add aa i))) ((Calm.indexA (a := aa) (len := sa.length) (sz := 1) (k := ((i : Nat) : Int)) i i (by kernel_rfl) rfl (by omega) (by omega)) _) rfl ?_
    refine SeqK.calm (k' := 5) (v := .slice ta.1 ta.2.2.length ta.2.1) (Calm.load (T := 22) (p := (Addr.add aa i)) (by kernel_rfl) (Loads.one (k := 1) (by kernel_rfl) (e0.cell ca))) rfl ?_
    refine SeqK.eff (k' := 6) (Does.append2 (t := 22) (E := 5) (sz := 1) (by_ := 1) (n := (flat (sa.take i)).length) (m := ta.2.2.length) (v := .slice ax ((flat (sa.take i)).length) cx) (x := .slice ta.1 ta.2.2.length ta.2.1) (xs := (flat (sa.take i)).map bv) (ys := ta.2.2.map bv) (by kernel_rfl) (by kernel_rfl) own_x (hra.ext e0) (ones_map _) (by unfold maxLen; omega) (by omega)) rfl ?_
    rintro _ h19 ⟨ad17, cap18, rfl, ownx, g, hb⟩
    rw [blkOf_slice] at g hb
    have hlo := e0.size
    have sepo := sep
    replace e0 := e0.grew g (sep.low 1 rfl)
    replace kt := kt.grew g (sep.zero 1 rfl h0s)
    replace hs_s := hs_s.put g (sep.bp 5 1 rfl rfl (by decide)) (sep.ap 4 1 rfl rfl (by decide))
    replace hs_t := hs_t.put g (sep.bp 3 1 rfl rfl (by decide)) (sep.ap 2 1 rfl rfl (by decide))
    replace own_y := own_y.kept g (by rw [blkOf_slice]; exact (sep.ap 0 1 rfl rfl (by decide)))
    replace sep := sep.up g.size
    replace sep : Sep h.size h19.size [ay.map (·.block), ad17.map (·.block), o2, b_t, o15, b_s] := sepo.set g.size hlo 1 (y := ad17.map (fun (x : Addr) => x.block)) rfl (hb.imp id fun e => .inr ⟨_, e, Nat.le_refl _⟩) (fun k e => ownx.lt (by rw [blkOf_slice]; exact e))
    replace own_x : Own h19 (.slice ad17 (flat (sa.take i) ++ ta.2.2).length cap18) 5 (flat (sa.take i) ++ ta.2.2).length 1 ((flat (sa.take i) ++ ta.2.2).map bv) := Own.app ownx (by first | rfl | simp) (by first | (simp; done) | (simp; omega))
    clear ownx g hb hlo sepo
    refine SeqK.pures (k' := 7) [.slice ad17 (((flat (sa.take i)).length) + ta.2.2.length) cap18] (by kernel_rfl) rfl ?_
    refine SeqK.done [0, 1, 5, 6, 7, 8, 9, 10] (L := [(0, .slice (some aa) sa.length vc), (1, .slice (some ab) sb.length vd), (5, .bool true), (6, .pointer (some ⟨b_s, 0, none⟩)), (7, .pointer (some ⟨b_t, 0, none⟩)), (8, .slice ad17 (((flat (sa.take i)).length) + ta.2.2.length) cap18), (9, .slice ay ((flat (sb.take i)).length) cy), (10, .int .i64 ((i : Nat) : Int))]) (by kernel_rfl) (by kernel_rfl) ?_
    clear hF; clear a; intro a hF
    have hcan : (((flat (sa.take i)).length) + ta.2.2.length : Nat) = (flat (sa.take i) ++ ta.2.2).length := by first | (simp; done) | (simp; omega)
    rw [hcan] at hF; clear hcan
    show C Tryd.prog (sub b5 [1, 1, 1, 1, 1, 1, 1, 1, 0, 1, 0, 0, 1, 0, 0, 1]) _ a h19
    refine C.seq [1, 1, 1, 1, 1, 1, 1, 1, 0, 1, 0, 0, 1, 0, 0, 1, 0] [1, 1, 1, 1, 1, 1, 1, 1, 0, 1, 0, 0, 1, 0, 0, 1, 1] (by kernel_rfl) ?_
    refine C.plain 16 (by kernel_rfl) hF (by kernel_rfl) ?_
    refine SeqK.pures (k' := 3) [.int .i64 ((i : Nat) : Int), .slice (some ab) sb.length vd, .int .i64 ((sb.length : Nat) : Int)] (by kernel_rfl) rfl ?_
    refine SeqK.pure1 (k' := 4) (v := .bool true) (v' := .bool (decide (((i : Nat) : Int) < ((sb.length : Nat) : Int)))) (by kernel_rfl) (congrArg Value.bool (decide_eq_true (by omega))) rfl ?_
    refine SeqK.done [0, 1, 5, 6, 7, 8, 9, 10, 55] (L := [(0, .slice (some aa) sa.length vc), (1, .slice (some ab) sb.length vd), (5, .bool true), (6, .pointer (some ⟨b_s, 0, none⟩)), (7, .pointer (some ⟨b_t, 0, none⟩)), (8, .slice ad17 ((flat (sa.take i) ++ ta.2.2).length) cap18), (9, .slice ay ((flat (sb.take i)).length) cy), (10, .int .i64 ((i : Nat) : Int)), (55, .bool true)]) (by kernel_rfl) (by kernel_rfl) ?_
    clear hF; clear a; intro a hF
    show C Tryd.prog (sub b5 [1, 1, 1, 1, 1, 1, 1, 1, 0, 1, 0, 0, 1, 0, 0, 1, 1]) _ a h19
    refine C.condT 55 [1, 1, 1, 1, 1, 1, 1, 1, 0, 1, 0, 0, 1, 0, 0, 1, 1, 0] [1, 1, 1, 1, 1, 1, 1, 1, 0, 1, 0, 0, 1, 0, 0, 1, 1, 1] (by kernel_rfl) hF (fun _ => rfl) ?_
    refine C.seq [1, 1, 1, 1, 1, 1, 1, 1, 0, 1, 0, 0, 1, 0, 0, 1, 1, 0, 0] [1, 1, 1, 1, 1, 1, 1, 1, 0, 1, 0, 0, 1, 0, 0, 1, 1, 0, 1] (by kernel_rfl) ?_
    refine C.plain 17 (by kernel_rfl) hF (by kernel_rfl) ?_
    refine SeqK.pures (k' := 3) [.pointer (some ⟨b_t, 0, none⟩), .slice (some ab) sb.length vd, .int .i64 ((i : Nat) : Int)] (by kernel_rfl) rfl ?_
    refine SeqK.calm (k' := 4) (v := .pointer (some (Addr.add ab i))) ((Calm.indexA (a := ab) (len := sb.length) (sz := 1) (k := ((i : Nat) : Int)) i i (by kernel_rfl) rfl (by omega) (by omega)) _) rfl ?_
    refine SeqK.calm (k' := 5) (v := .slice tb.1 tb.2.2.length tb.2.1) (Calm.load (T := 22) (p := (Addr.add ab i)) (by kernel_rfl) (Loads.one (k := 1) (by kernel_rfl) (e0.cell cb))) rfl ?_
    refine SeqK.eff (k' := 6) (Does.call (f := 11) (args := #[.pointer (some ⟨b_t, 0, none⟩), .slice tb.1 tb.2.2.length tb.2.1]) (by kernel_rfl) (write_l _ b_t o2 (flat (sb.take i)) tb.2.2 _ _ hs_t (hrb.ext e0) (hlb.imp id fun hl e => by have := hl _ e; have := sep.low 3 rfl _ rfl; omega) (by have := sep.low 3 rfl _ rfl; omega) (fun e => sep.zero 2 rfl h0s e.symm) kt (by omega))) rfl ?_
    rintro _ h21 ⟨o20, hs', ho', g⟩
    have hlo := e0.size
    replace e0 := Gr.toExt e0 g (sep.lowF 3 2 rfl rfl)
    replace kt := kt.gr g (sep.zeroF 3 2 rfl rfl h0s)
    replace hs_s := hs_s.gr g ((sep.gF 5 3 2 rfl rfl rfl (by decide) (by decide)) _ rfl) (sep.gF 4 3 2 rfl rfl rfl (by decide) (by decide))
    replace hs_t : StL h21 b_t o20 (flat (sb.take i) ++ tb.2.2) := (by first | exact hs' | simpa using hs')
    replace own_x := g.own own_x (fun k e => (sep.gF 1 3 2 rfl rfl rfl (by decide) (by decide)) k (by rw [blkOf_slice] at e; exact e))
    replace own_y := g.own own_y (fun k e => (sep.gF 0 3 2 rfl rfl rfl (by decide) (by decide)) k (by rw [blkOf_slice] at e; exact e))
    replace sep := sep.set g.1 hlo 2 (y := o20) rfl (ho'.imp id .inr) (fun k e => hs'.lt.2 k e)
    replace sep : Sep h.size h21.size [ay.map (·.block), ad17.map (·.block), o20, b_t, o15, b_s] := sep
    clear hs' ho' g hlo
    refine SeqK.done [0, 1, 5, 6, 7, 8, 9, 10] (L := [(0, .slice (some aa) sa.length vc), (1, .slice (some ab) sb.length vd), (5, .bool true), (6, .pointer (some ⟨b_s, 0, none⟩)), (7, .pointer (some ⟨b_t, 0, none⟩)), (8, .slice ad17 ((flat (sa.take i) ++ ta.2.2).length) cap18), (9, .slice ay ((flat (sb.take i)).length) cy), (10, .int .i64 ((i : Nat) : Int))]) (by kernel_rfl) (by kernel_rfl) ?_
    clear hF; clear a; intro a hF
    show C Tryd.prog (sub b5 [1, 1, 1, 1, 1, 1, 1, 1, 0, 1, 0, 0, 1, 0, 0, 1, 1, 0, 1]) _ a h21
    refine C.plain 18 (by kernel_rfl) hF (by kernel_rfl) ?_
    refine SeqK.pures (k' := 3) [.slice ay ((flat (sb.take i)).length) cy, .slice (some ab) sb.length vd, .int .i64 ((i : Nat) : Int)] (by kernel_rfl) rfl ?_
    refine SeqK.calm (k' := 4) (v := .pointer (some (Addr.add ab i))) ((Calm.indexA (a := ab) (len := sb.length) (sz := 1) (k := ((i : Nat) : Int)) i i (by kernel_rfl) rfl (by omega) (by omega)) _) rfl ?_
    refine SeqK.calm (k' := 5) (v := .slice tb.1 tb.2.2.length tb.2.1) (Calm.load (T := 22) (p := (Addr.add ab i)) (by kernel_rfl) (Loads.one (k := 1) (by kernel_rfl) (e0.cell cb))) rfl ?_
    refine SeqK.eff (k' := 6) (Does.append2 (t := 22) (E := 5) (sz := 1) (by_ := 1) (n := (flat (sb.take i)).length) (m := tb.2.2.length) (v := .slice ay ((flat (sb.take i)).length) cy) (x := .slice tb.1 tb.2.2.length tb.2.1) (xs := (flat (sb.take i)).map bv) (ys := tb.2.2.map bv) (by kernel_rfl) (by kernel_rfl) own_y (hrb.ext e0) (ones_map _) (by unfold maxLen; omega) (by omega)) rfl ?_
    rintro _ h24 ⟨ad22, cap23, rfl, ownx, g, hb⟩
    rw [blkOf_slice] at g hb
    have hlo := e0.size
    have sepo := sep
    replace e0 := e0.grew g (sep.low 0 rfl)
    replace kt := kt.grew g (sep.zero 0 rfl h0s)
    replace hs_s := hs_s.put g (sep.bp 5 0 rfl rfl (by decide)) (sep.ap 4 0 rfl rfl (by decide))
    replace hs_t := hs_t.put g (sep.bp 3 0 rfl rfl (by decide)) (sep.ap 2 0 rfl rfl (by decide))
    replace own_x := own_x.kept g (by rw [blkOf_slice]; exact (sep.ap 1 0 rfl rfl (by decide)))
    replace sep := sep.up g.size
    replace sep : Sep h.size h24.size [ad22.map (·.block), ad17.map (·.block), o20, b_t, o15, b_s] := sepo.set g.size hlo 0 (y := ad22.map (fun (x : Addr) => x.block)) rfl (hb.imp id fun e => .inr ⟨_, e, Nat.le_refl _⟩) (fun k e => ownx.lt (by rw [blkOf_slice]; exact e))
    replace own_y : Own h24 (.slice ad22 (flat (sb.take i) ++ tb.2.2).length cap23) 5 (flat (sb.take i) ++ tb.2.2).length 1 ((flat (sb.take i) ++ tb.2.2).map bv) := Own.app ownx (by first | rfl | simp) (by first | (simp; done) | (simp; omega))
    clear ownx g hb hlo sepo
    refine SeqK.pures (k' := 7) [.slice ad22 (((flat (sb.take i)).length) + tb.2.2.length) cap23] (by kernel_rfl) rfl ?_
    refine SeqK.done [0, 1, 5, 6, 7, 8, 9, 10] (L := [(0, .slice (some aa) sa.length vc), (1, .slice (some ab) sb.length vd), (5, .bool true), (6, .pointer (some ⟨b_s, 0, none⟩)), (7, .pointer (some ⟨b_t, 0, none⟩)), (8, .slice ad17 ((flat (sa.take i) ++ ta.2.2).length) cap18), (9, .slice ad22 (((flat (sb.take i)).length) + tb.2.2.length) cap23), (10, .int .i64 ((i : Nat) : Int))]) (by kernel_rfl) (by kernel_rfl) ?_
    clear hF; clear a; intro a hF
    have hcan : (((flat (sb.take i)).length) + tb.2.2.length : Nat) = (flat (sb.take i) ++ tb.2.2).length := by first | (simp; done) | (simp; omega)
    rw [hcan] at hF; clear hcan
    show C Tryd.prog (sub b5 [1, 1, 1, 1, 1, 1, 1, 1, 0, 1, 0, 0, 1, 1]) _ a h24
    refine C.plain 12 (by kernel_rfl) hF (by kernel_rfl) ?_
    refine SeqK.pures (k' := 1) [.int .i64 ((i : Nat) : Int)] (by kernel_rfl) rfl ?_
    refine SeqK.pure1 (k' := 2) (v := .int .i64 ((i + 1 : Nat) : Int)) (v' := .int .i64 (IntKind.i64.wrap (((i : Nat) : Int) + 1))) (by kernel_rfl) (congrArg (Value.int .i64) (w64' (by omega) (by omega) (by omega))) rfl ?_
    refine SeqK.pures (k' := 3) [.int .i64 ((i + 1 : Nat) : Int)] (by kernel_rfl) rfl ?_
    refine SeqK.done [0, 1, 5, 6, 7, 8, 9, 10] (L := [(0, .slice (some aa) sa.length vc), (1, .slice (some ab) sb.length vd), (5, .bool true), (6, .pointer (some ⟨b_s, 0, none⟩)), (7, .pointer (some ⟨b_t, 0, none⟩)), (8, .slice ad17 ((flat (sa.take i) ++ ta.2.2).length) cap18), (9, .slice ad22 ((flat (sb.take i) ++ tb.2.2).length) cap23), (10, .int .i64 ((i + 1 : Nat) : Int))]) (by kernel_rfl) (by kernel_rfl) ?_
    clear hF; clear a; intro a hF
    rw [← hfa] at hs_s own_x hF
    rw [← hfb] at hs_t own_y hF
    show ∃ m', m' < _ ∧ _
    refine ⟨_, ?_, i + 1, o15, o20, ad17, cap18, ad22, cap23, rfl, e0, kt, hs_s, hs_t, own_x, own_y, sep, hF⟩
    omega
  · skip
    obtain ⟨aa, rfl⟩ := ra.some hia
    obtain ⟨ta, hta, ca, hra, hla, hfa, hba⟩ := ra.at hia
    have hfb := flat_over hib
    refine C.seq [1, 1, 1, 1, 1, 1, 1, 1, 0, 1, 0, 0, 0] [1, 1, 1, 1, 1, 1, 1, 1, 0, 1, 0, 0, 1] (by kernel_rfl) ?_
    refine C.seq [1, 1, 1, 1, 1, 1, 1, 1, 0, 1, 0, 0, 0, 0] [1, 1, 1, 1, 1, 1, 1, 1, 0, 1, 0, 0, 0, 1] (by kernel_rfl) ?_
    refine C.plain 11 (by kernel_rfl) hF (by kernel_rfl) ?_
    refine SeqK.pures (k' := 3) [.int .i64 ((i : Nat) : Int), .slice (some aa) sa.length vc, .int .i64 ((sa.length : Nat) : Int)] (by kernel_rfl) rfl ?_
    refine SeqK.pure1 (k' := 4) (v := .bool true) (v' := .bool (decide (((i : Nat) : Int) < ((sa.length : Nat) : Int)))) (by kernel_rfl) (congrArg Value.bool (decide_eq_true (by omega))) rfl ?_
    refine SeqK.pures (k' := 10) [.bool true, undef, undef, undef, undef, .bool true] (by kernel_rfl) rfl ?_
    refine SeqK.done [0, 1, 5, 6, 7, 8, 9, 10, 33] (L := [(0, .slice (some aa) sa.length vc), (1, .slice vb sb.length vd), (5, .bool true), (6, .pointer (some ⟨b_s, 0, none⟩)), (7, .pointer (some ⟨b_t, 0, none⟩)), (8, .slice ax ((flat (sa.take i)).length) cx), (9, .slice ay ((flat (sb.take i)).length) cy), (10, .int .i64 ((i : Nat) : Int)), (33, .bool true)]) (by kernel_rfl) (by kernel_rfl) ?_
    clear hF; clear a; intro a hF
    show C Tryd.prog (sub b5 [1, 1, 1, 1, 1, 1, 1, 1, 0, 1, 0, 0, 0, 1]) _ a h14
    refine C.condT 33 [1, 1, 1, 1, 1, 1, 1, 1, 0, 1, 0, 0, 0, 1, 0] [1, 1, 1, 1, 1, 1, 1, 1, 0, 1, 0, 0, 0, 1, 1] (by kernel_rfl) hF (fun _ => rfl) ?_
    refine C.skip (by kernel_rfl) ?_
    show C Tryd.prog (sub b5 [1, 1, 1, 1, 1, 1, 1, 1, 0, 1, 0, 0, 1]) _ a h14
    refine C.seq [1, 1, 1, 1, 1, 1, 1, 1, 0, 1, 0, 0, 1, 0] [1, 1, 1, 1, 1, 1, 1, 1, 0, 1, 0, 0, 1, 1] (by kernel_rfl) ?_
    refine C.block 1 [1, 1, 1, 1, 1, 1, 1, 1, 0, 1, 0, 0, 1, 0, 0] (by kernel_rfl) ?_
    refine C.seq [1, 1, 1, 1, 1, 1, 1, 1, 0, 1, 0, 0, 1, 0, 0, 0] [1, 1, 1, 1, 1, 1, 1, 1, 0, 1, 0, 0, 1, 0, 0, 1] (by kernel_rfl) ?_
    refine C.seq [1, 1, 1, 1, 1, 1, 1, 1, 0, 1, 0, 0, 1, 0, 0, 0, 0] [1, 1, 1, 1, 1, 1, 1, 1, 0, 1, 0, 0, 1, 0, 0, 0, 1] (by kernel_rfl) ?_
    refine C.plain 13 (by kernel_rfl) hF (by kernel_rfl) ?_
    refine SeqK.pures (k' := 3) [.int .i64 ((i : Nat) : Int), .slice (some aa) sa.length vc, .int .i64 ((sa.length : Nat) : Int)] (by kernel_rfl) rfl ?_
    refine SeqK.pure1 (k' := 4) (v := .bool true) (v' := .bool (decide (((i : Nat) : Int) < ((sa.length : Nat) : Int)))) (by kernel_rfl) (congrArg Value.bool (decide_eq_true (by omega))) rfl ?_
    refine SeqK.done [0, 1, 5, 6, 7, 8, 9, 10, 39] (L := [(0, .slice (some aa) sa.length vc), (1, .slice vb sb.length vd), (5, .bool true), (6, .pointer (some ⟨b_s, 0, none⟩)), (7, .pointer (some ⟨b_t, 0, none⟩)), (8, .slice ax ((flat (sa.take i)).length) cx), (9, .slice ay ((flat (sb.take i)).length) cy), (10, .int .i64 ((i : Nat) : Int)), (39, .bool true)]) (by kernel_rfl) (by kernel_rfl) ?_
    clear hF; clear a; intro a hF
    show C Tryd.prog (sub b5 [1, 1, 1, 1, 1, 1, 1, 1, 0, 1, 0, 0, 1, 0, 0, 0, 1]) _ a h14
    refine C.condT 39 [1, 1, 1, 1, 1, 1, 1, 1, 0, 1, 0, 0, 1, 0, 0, 0, 1, 0] [1, 1, 1, 1, 1, 1, 1, 1, 0, 1, 0, 0, 1, 0, 0, 0, 1, 1] (by kernel_rfl) hF (fun _ => rfl) ?_
    refine C.seq [1, 1, 1, 1, 1, 1, 1, 1, 0, 1, 0, 0, 1, 0, 0, 0, 1, 0, 0] [1, 1, 1, 1, 1, 1, 1, 1, 0, 1, 0, 0, 1, 0, 0, 0, 1, 0, 1] (by kernel_rfl) ?_
    refine C.plain 14 (by kernel_rfl) hF (by kernel_rfl) ?_
    refine SeqK.pures (k' := 3) [.pointer (some ⟨b_s, 0, none⟩), .slice (some aa) sa.length vc, .int .i64 ((i : Nat) : Int)] (by kernel_rfl) rfl ?_
    refine SeqK.calm (k' := 4) (v := .pointer (some (Addr.add aa i))) ((Calm.indexA (a := aa) (len := sa.length) (sz := 1) (k := ((i : Nat) : Int)) i i (by kernel_rfl) rfl (by omega) (by omega)) _) rfl ?_
    refine SeqK.calm (k' := 5) (v := .slice ta.1 ta.2.2.length ta.2.1) (Calm.load (T := 22) (p := (Addr.add aa i)) (by kernel_rfl) (Loads.one (k := 1) (by kernel_rfl) (e0.cell ca))) rfl ?_
    refine SeqK.eff (k' := 6) (Does.call (f := 11) (args := #[.pointer (some ⟨b_s, 0, none⟩), .slice ta.1 ta.2.2.length ta.2.1]) (by kernel_rfl) (write_l _ b_s o1 (flat (sa.take i)) ta.2.2 _ _ hs_s (hra.ext e0) (hla.imp id fun hl e => by have := hl _ e; have := sep.low 5 rfl _ rfl; omega) (by have := sep.low 5 rfl _ rfl; omega) (fun e => sep.zero 4 rfl h0s e.symm) kt (by omega))) rfl ?_
    rintro _ h26 ⟨o25, hs', ho', g⟩
    have hlo := e0.size
    replace e0 := Gr.toExt e0 g (sep.lowF 5 4 rfl rfl)
    replace kt := kt.gr g (sep.zeroF 5 4 rfl rfl h0s)
    replace hs_s : StL h26 b_s o25 (flat (sa.take i) ++ ta.2.2) := (by first | exact hs' | simpa using hs')
    replace hs_t := hs_t.gr g ((sep.gF 3 5 4 rfl rfl rfl (by decide) (by decide)) _ rfl) (sep.gF 2 5 4 rfl rfl rfl (by decide) (by decide))
    replace own_x := g.own own_x (fun k e => (sep.gF 1 5 4 rfl rfl rfl (by decide) (by decide)) k (by rw [blkOf_slice] at e; exact e))
    replace own_y := g.own own_y (fun k e => (sep.gF 0 5 4 rfl rfl rfl (by decide) (by decide)) k (by rw [blkOf_slice] at e; exact e))
    replace sep := sep.set g.1 hlo 4 (y := o25) rfl (ho'.imp id .inr) (fun k e => hs'.lt.2 k e)
    replace sep : Sep h.size h26.size [ay.map (·.block), ax.map (·.block), o2, b_t, o25, b_s] := sep
    clear hs' ho' g hlo
    refine SeqK.done [0, 1, 5, 6, 7, 8, 9, 10] (L := [(0, .slice (some aa) sa.length vc), (1, .slice vb sb.length vd), (5, .bool true), (6, .pointer (some ⟨b_s, 0, none⟩)), (7, .pointer (some ⟨b_t, 0, none⟩)), (8, .slice ax ((flat (sa.take i)).length) cx), (9, .slice ay ((flat (sb.take i)).length) cy), (10, .int .i64 ((i : Nat) : Int))]) (by kernel_rfl) (by kernel_rfl) ?_
    clear hF; clear a; intro a hF
    show C Tryd.prog (sub b5 [1, 1, 1, 1, 1, 1, 1, 1, 0, 1, 0, 0, 1, 0, 0, 0, 1, 0, 1]) _ a h26
    refine C.plain 15 (by kernel_rfl) hF (by kernel_rfl) ?_
    refine SeqK.pures (k' := 3) [.slice ax ((flat (sa.take i)).length) cx, .slice (some aa) sa.length vc, .int .i64 ((i : Nat) : Int)] (by kernel_rfl) rfl ?_
    refine SeqK.calm (k' := 4) (v := .pointer (some (Addr.add aa i))) ((Calm.indexA (a := aa) (len := sa.length) (sz := 1) (k := ((i : Nat) : Int)) i i (by kernel_rfl) rfl (by omega) (by omega)) _) rfl ?_
    refine SeqK.calm (k' := 5) (v := .slice ta.1 ta.2.2.length ta.2.1) (Calm.load (T := 22) (p := (Addr.add aa i)) (by kernel_rfl) (Loads.one (k := 1) (by kernel_rfl) (e0.cell ca))) rfl ?_
    refine SeqK.eff (k' := 6) (Does.append2 (t := 22) (E := 5) (sz := 1) (by_ := 1) (n := (flat (sa.take i)).length) (m := ta.2.2.length) (v := .slice ax ((flat (sa.take i)).length) cx) (x := .slice ta.1 ta.2.2.length ta.2.1) (xs := (flat (sa.take i)).map bv) (ys := ta.2.2.map bv) (by kernel_rfl) (by kernel_rfl) own_x (hra.ext e0) (ones_map _) (by unfold maxLen; omega) (by omega)) rfl ?_
    rintro _ h29 ⟨ad27, cap28, rfl, ownx, g, hb⟩
    rw [blkOf_slice] at g hb
    have hlo := e0.size
    have sepo := sep
    replace e0 := e0.grew g (sep.low 1 rfl)
    replace kt := kt.grew g (sep.zero 1 rfl h0s)
    replace hs_s := hs_s.put g (sep.bp 5 1 rfl rfl (by decide)) (sep.ap 4 1 rfl rfl (by decide))
    replace hs_t := hs_t.put g (sep.bp 3 1 rfl rfl (by decide)) (sep.ap 2 1 rfl rfl (by decide))
    replace own_y := own_y.kept g (by rw [blkOf_slice]; exact (sep.ap 0 1 rfl rfl (by decide)))
    replace sep := sep.up g.size
    replace sep : Sep h.size h29.size [ay.map (·.block), ad27.map (·.block), o2, b_t, o25, b_s] := sepo.set g.size hlo 1 (y := ad27.map (fun (x : Addr) => x.block)) rfl (hb.imp id fun e => .inr ⟨_, e, Nat.le_refl _⟩) (fun k e => ownx.lt (by rw [blkOf_slice]; exact e))
    replace own_x : Own h29 (.slice ad27 (flat (sa.take i) ++ ta.2.2).length cap28) 5 (flat (sa.take i) ++ ta.2.2).length 1 ((flat (sa.take i) ++ ta.2.2).map bv) := Own.app ownx (by first | rfl | simp) (by first | (simp; done) | (simp; omega))
    clear ownx g hb hlo sepo
    refine SeqK.pures (k' := 7) [.slice ad27 (((flat (sa.take i)).length) + ta.2.2.length) cap28] (by kernel_rfl) rfl ?_
    refine SeqK.done [0, 1, 5, 6, 7, 8, 9, 10] (L := [(0, .slice (some aa) sa.length vc), (1, .slice vb sb.length vd), (5, .bool true), (6, .pointer (some ⟨b_s, 0, none⟩)), (7, .pointer (some ⟨b_t, 0, none⟩)), (8, .slice ad27 (((flat (sa.take i)).length) + ta.2.2.length) cap28), (9, .slice ay ((flat (sb.take i)).length) cy), (10, .int .i64 ((i : Nat) : Int))]) (by kernel_rfl) (by kernel_rfl) ?_
    clear hF; clear a; intro a hF
    have hcan : (((flat (sa.take i)).length) + ta.2.2.length : Nat) = (flat (sa.take i) ++ ta.2.2).length := by first | (simp; done) | (simp; omega)
    rw [hcan] at hF; clear hcan
    show C Tryd.prog (sub b5 [1, 1, 1, 1, 1, 1, 1, 1, 0, 1, 0, 0, 1, 0, 0, 1]) _ a h29
    refine C.seq [1, 1, 1, 1, 1, 1, 1, 1, 0, 1, 0, 0, 1, 0, 0, 1, 0] [1, 1, 1, 1, 1, 1, 1, 1, 0, 1, 0, 0, 1, 0, 0, 1, 1] (by kernel_rfl) ?_
    refine C.plain 16 (by kernel_rfl) hF (by kernel_rfl) ?_
    refine SeqK.pures (k' := 3) [.int .i64 ((i : Nat) : Int), .slice vb sb.length vd, .int .i64 ((sb.length : Nat) : Int)] (by kernel_rfl) rfl ?_
    refine SeqK.pure1 (k' := 4) (v := .bool false) (v' := .bool (decide (((i : Nat) : Int) < ((sb.length : Nat) : Int)))) (by kernel_rfl) (congrArg Value.bool (decide_eq_false (by omega))) rfl ?_
    refine SeqK.done [0, 1, 5, 6, 7, 8, 9, 10, 55] (L := [(0, .slice (some aa) sa.length vc), (1, .slice vb sb.length vd), (5, .bool true), (6, .pointer (some ⟨b_s, 0, none⟩)), (7, .pointer (some ⟨b_t, 0, none⟩)), (8, .slice ad27 ((flat (sa.take i) ++ ta.2.2).length) cap28), (9, .slice ay ((flat (sb.take i)).length) cy), (10, .int .i64 ((i : Nat) : Int)), (55, .bool false)]) (by kernel_rfl) (by kernel_rfl) ?_
    clear hF; clear a; intro a hF
    show C Tryd.prog (sub b5 [1, 1, 1, 1, 1, 1, 1, 1, 0, 1, 0, 0, 1, 0, 0, 1, 1]) _ a h29
    refine C.condF 55 [1, 1, 1, 1, 1, 1, 1, 1, 0, 1, 0, 0, 1, 0, 0, 1, 1, 0] [1, 1, 1, 1, 1, 1, 1, 1, 0, 1, 0, 0, 1, 0, 0, 1, 1, 1] (by kernel_rfl) hF (fun _ => rfl) ?_
    refine C.skip (by kernel_rfl) ?_
    show C Tryd.prog (sub b5 [1, 1, 1, 1, 1, 1, 1, 1, 0, 1, 0, 0, 1, 1]) _ a h29
    refine C.plain 12 (by kernel_rfl) hF (by kernel_rfl) ?_
    refine SeqK.pures (k' := 1) [.int .i64 ((i : Nat) : Int)] (by kernel_rfl) rfl ?_
    refine SeqK.pure1 (k' := 2) (v := .int .i64 ((i + 1 : Nat) : Int)) (v' := .int .i64 (IntKind.i64.wrap (((i : Nat) : Int) + 1))) (by kernel_rfl) (congrArg (Value.int .i64) (w64' (by omega) (by omega) (by omega))) rfl ?_
    refine SeqK.pures (k' := 3) [.int .i64 ((i + 1 : Nat) : Int)] (by kernel_rfl) rfl ?_
    refine SeqK.done [0, 1, 5, 6, 7, 8, 9, 10] (L := [(0, .slice (some aa) sa.length vc), (1, .slice vb sb.length vd), (5, .bool true), (6, .pointer (some ⟨b_s, 0, none⟩)), (7, .pointer (some ⟨b_t, 0, none⟩)), (8, .slice ad27 ((flat (sa.take i) ++ ta.2.2).length) cap28), (9, .slice ay ((flat (sb.take i)).length) cy), (10, .int .i64 ((i + 1 : Nat) : Int))]) (by kernel_rfl) (by kernel_rfl) ?_
    clear hF; clear a; intro a hF
    rw [← hfa] at hs_s own_x hF
    rw [← hfb] at hs_t own_y hF
    show ∃ m', m' < _ ∧ _
    refine ⟨_, ?_, i + 1, o25, o2, ad27, cap28, ay, cy, rfl, e0, kt, hs_s, hs_t, own_x, own_y, sep, hF⟩
    omega
  · skip
    have hfa := flat_over hia
    obtain ⟨ab, rfl⟩ := rb.some hib
    obtain ⟨tb, htb, cb, hrb, hlb, hfb, hbb⟩ := rb.at hib
    refine C.seq [1, 1, 1, 1, 1, 1, 1, 1, 0, 1, 0, 0, 0] [1, 1, 1, 1, 1, 1, 1, 1, 0, 1, 0, 0, 1] (by kernel_rfl) ?_
    refine C.seq [1, 1, 1, 1, 1, 1, 1, 1, 0, 1, 0, 0, 0, 0] [1, 1, 1, 1, 1, 1, 1, 1, 0, 1, 0, 0, 0, 1] (by kernel_rfl) ?_
    refine C.plain 11 (by kernel_rfl) hF (by kernel_rfl) ?_
    refine SeqK.pures (k' := 3) [.int .i64 ((i : Nat) : Int), .slice va sa.length vc, .int .i64 ((sa.length : Nat) : Int)] (by kernel_rfl) rfl ?_
    refine SeqK.pure1 (k' := 4) (v := .bool false) (v' := .bool (decide (((i : Nat) : Int) < ((sa.length : Nat) : Int)))) (by kernel_rfl) (congrArg Value.bool (decide_eq_false (by omega))) rfl ?_
    refine SeqK.pures (k' := 8) [.bool false, .int .i64 ((i : Nat) : Int), .slice (some ab) sb.length vd, .int .i64 ((sb.length : Nat) : Int)] (by kernel_rfl) rfl ?_
    refine SeqK.pure1 (k' := 9) (v := .bool true) (v' := .bool (decide (((i : Nat) : Int) < ((sb.length : Nat) : Int)))) (by kernel_rfl) (congrArg Value.bool (decide_eq_true (by omega))) rfl ?_
    refine SeqK.pures (k' := 10) [.bool true] (by kernel_rfl) rfl ?_
    refine SeqK.done [0, 1, 5, 6, 7, 8, 9, 10, 33] (L := [(0, .slice va sa.length vc), (1, .slice (some ab) sb.length vd), (5, .bool true), (6, .pointer (some ⟨b_s, 0, none⟩)), (7, .pointer (some ⟨b_t, 0, none⟩)), (8, .slice ax ((flat (sa.take i)).length) cx), (9, .slice ay ((flat (sb.take i)).length) cy), (10, .int .i64 ((i : Nat) : Int)), (33, .bool true)]) (by kernel_rfl) (by kernel_rfl) ?_
    clear hF; clear a; intro a hF
    show C Tryd.prog (sub b5 [1, 1, 1, 1, 1, 1, 1, 1, 0, 1, 0, 0, 0, 1]) _ a h14
    refine C.condT 33 [1, 1, 1, 1, 1, 1, 1, 1, 0, 1, 0, 0, 0, 1, 0] [1, 1, 1, 1, 1, 1, 1, 1, 0, 1, 0, 0, 0, 1, 1] (by kernel_rfl) hF (fun _ => rfl) ?_
    refine C.skip (by kernel_rfl) ?_
    show C Tryd.prog (sub b5 [1, 1, 1, 1, 1, 1, 1, 1, 0, 1, 0, 0, 1]) _ a h14
    refine C.seq [1, 1, 1, 1, 1, 1, 1, 1, 0, 1, 0, 0, 1, 0] [1, 1, 1, 1, 1, 1, 1, 1, 0, 1, 0, 0, 1, 1] (by kernel_rfl) ?_
    refine C.block 1 [1, 1, 1, 1, 1, 1, 1, 1, 0, 1, 0, 0, 1, 0, 0] (by kernel_rfl) ?_
    refine C.seq [1, 1, 1, 1, 1, 1, 1, 1, 0, 1, 0, 0, 1, 0, 0, 0] [1, 1, 1, 1, 1, 1, 1, 1, 0, 1, 0, 0, 1, 0, 0, 1] (by kernel_rfl) ?_
    refine C.seq [1, 1, 1, 1, 1, 1, 1, 1, 0, 1, 0, 0, 1, 0, 0, 0, 0] [1, 1, 1, 1, 1, 1, 1, 1, 0, 1, 0, 0, 1, 0, 0, 0, 1] (by kernel_rfl) ?_
    refine C.plain 13 (by kernel_rfl) hF (by kernel_rfl) ?_
    refine SeqK.pures (k' := 3) [.int .i64 ((i : Nat) : Int), .slice va sa.length vc, .int .i64 ((sa.length : Nat) : Int)] (by kernel_rfl) rfl ?_
    refine SeqK.pure1 (k' := 4) (v := .bool false) (v' := .bool (decide (((i : Nat) : Int) < ((sa.length : Nat) : Int)))) (by kernel_rfl) (congrArg Value.bool (decide_eq_false (by omega))) rfl ?_
    refine SeqK.done [0, 1, 5, 6, 7, 8, 9, 10, 39] (L := [(0, .slice va sa.length vc), (1, .slice (some ab) sb.length vd), (5, .bool true), (6, .pointer (some ⟨b_s, 0, none⟩)), (7, .pointer (some ⟨b_t, 0, none⟩)), (8, .slice ax ((flat (sa.take i)).length) cx), (9, .slice ay ((flat (sb.take i)).length) cy), (10, .int .i64 ((i : Nat) : Int)), (39, .bool false)]) (by kernel_rfl) (by kernel_rfl) ?_
    clear hF; clear a; intro a hF
    show C Tryd.prog (sub b5 [1, 1, 1, 1, 1, 1, 1, 1, 0, 1, 0, 0, 1, 0, 0, 0, 1]) _ a h14
    refine C.condF 39 [1, 1, 1, 1, 1, 1, 1, 1, 0, 1, 0, 0, 1, 0, 0, 0, 1, 0] [1, 1, 1, 1, 1, 1, 1, 1, 0, 1, 0, 0, 1, 0, 0, 0, 1, 1] (by kernel_rfl) hF (fun _ => rfl) ?_
    refine C.skip (by kernel_rfl) ?_
    show C Tryd.prog (sub b5 [1, 1, 1, 1, 1, 1, 1, 1, 0, 1, 0, 0, 1, 0, 0, 1]) _ a h14
    refine C.seq [1, 1, 1, 1, 1, 1, 1, 1, 0, 1, 0, 0, 1, 0, 0, 1, 0] [1, 1, 1, 1, 1, 1, 1, 1, 0, 1, 0, 0, 1, 0, 0, 1, 1] (by kernel_rfl) ?_
    refine C.plain 16 (by kernel_rfl) hF (by kernel_rfl) ?_
    refine SeqK.pures (k' := 3) [.int .i64 ((i : Nat) : Int), .slice (some ab) sb.length vd, .int .i64 ((sb.length : Nat) : Int)] (by kernel_rfl) rfl ?_
    refine SeqK.pure1 (k' := 4) (v := .bool true) (v' := .bool (decide (((i : Nat) : Int) < ((sb.length : Nat) : Int)))) (by kernel_rfl) (congrArg Value.bool (decide_eq_true (by omega))) rfl ?_
    refine SeqK.done [0, 1, 5, 6, 7, 8, 9, 10, 55] (L := [(0, .slice va sa.length vc), (1, .slice (some ab) sb.length vd), (5, .bool true), (6, .pointer (some ⟨b_s, 0, none⟩)), (7, .pointer (some ⟨b_t, 0, none⟩)), (8, .slice ax ((flat (sa.take i)).length) cx), (9, .slice ay ((flat (sb.take i)).length) cy), (10, .int .i64 ((i : Nat) : Int)), (55, .bool true)]) (by kernel_rfl) (by kernel_rfl) ?_
    clear hF; clear a; intro a hF
    show C Tryd.prog (sub b5 [1, 1, 1, 1, 1, 1, 1, 1, 0, 1, 0, 0, 1, 0, 0, 1, 1]) _ a h14
    refine C.condT 55 [1, 1, 1, 1, 1, 1, 1, 1, 0, 1, 0, 0, 1, 0, 0, 1, 1, 0] [1, 1, 1, 1, 1, 1, 1, 1, 0, 1, 0, 0, 1, 0, 0, 1, 1, 1] (by kernel_rfl) hF (fun _ => rfl) ?_
    refine C.seq [1, 1, 1, 1, 1, 1, 1, 1, 0, 1, 0, 0, 1, 0, 0, 1, 1, 0, 0] [1, 1, 1, 1, 1, 1, 1, 1, 0, 1, 0, 0, 1, 0, 0, 1, 1, 0, 1] (by kernel_rfl) ?_
    refine C.plain 17 (by kernel_rfl) hF (by kernel_rfl) ?_
    refine SeqK.pures (k' := 3) [.pointer (some ⟨b_t, 0, none⟩), .slice (some ab) sb.length vd, .int .i64 ((i : Nat) : Int)] (by kernel_rfl) rfl ?_
    refine SeqK.calm (k' := 4) (v := .pointer (some (Addr.add ab i))) ((Calm.indexA (a := ab) (len := sb.length) (sz := 1) (k := ((i : Nat) : Int)) i i (by kernel_rfl) rfl (by omega) (by omega)) _) rfl ?_
    refine SeqK.calm (k' := 5) (v := .slice tb.1 tb.2.2.length tb.2.1) (Calm.load (T := 22) (p := (Addr.add ab i)) (by kernel_rfl) (Loads.one (k := 1) (by kernel_rfl) (e0.cell cb))) rfl ?_
    refine SeqK.eff (k' := 6) (Does.call (f := 11) (args := #[.pointer (some ⟨b_t, 0, none⟩), .slice tb.1 tb.2.2.length tb.2.1]) (by kernel_rfl) (write_l _ b_t o2 (flat (sb.take i)) tb.2.2 _ _ hs_t (hrb.ext e0) (hlb.imp id fun hl e => by have := hl _ e; have := sep.low 3 rfl _ rfl; omega) (by have := sep.low 3 rfl _ rfl; omega) (fun e => sep.zero 2 rfl h0s e.symm) kt (by omega))) rfl ?_
    rintro _ h31 ⟨o30, hs', ho', g⟩
    have hlo := e0.size
    replace e0 := Gr.toExt e0 g (sep.lowF 3 2 rfl rfl)
    replace kt := kt.gr g (sep.zeroF 3 2 rfl rfl h0s)
    replace hs_s := hs_s.gr g ((sep.gF 5 3 2 rfl rfl rfl (by decide) (by decide)) _ rfl) (sep.gF 4 3 2 rfl rfl rfl (by decide) (by decide))
    replace hs_t : StL h31 b_t o30 (flat (sb.take i) ++ tb.2.2) := (by first | exact hs' | simpa using hs')
    replace own_x := g.own own_x (fun k e => (sep.gF 1 3 2 rfl rfl rfl (by decide) (by decide)) k (by rw [blkOf_slice] at e; exact e))
    replace own_y := g.own own_y (fun k e => (sep.gF 0 3 2 rfl rfl rfl (by decide) (by decide)) k (by rw [blkOf_slice] at e; exact e))
    replace sep := sep.set g.1 hlo 2 (y := o30) rfl (ho'.imp id .inr) (fun k e => hs'.lt.2 k e)
    replace sep : Sep h.size h31.size [ay.map (·.block), ax.map (·.block), o30, b_t, o1, b_s] := sep
    clear hs' ho' g hlo
    refine SeqK.done [0, 1, 5, 6, 7, 8, 9, 10] (L := [(0, .slice va sa.length vc), (1, .slice (some ab) sb.length vd), (5, .bool true), (6, .pointer (some ⟨b_s, 0, none⟩)), (7, .pointer (some ⟨b_t, 0, none⟩)), (8, .slice ax ((flat (sa.take i)).length) cx), (9, .slice ay ((flat (sb.take i)).length) cy), (10, .int .i64 ((i : Nat) : Int))]) (by kernel_rfl) (by kernel_rfl) ?_
    clear hF; clear a; intro a hF
    show C Tryd.prog (sub b5 [1, 1, 1, 1, 1, 1, 1, 1, 0, 1, 0, 0, 1, 0, 0, 1, 1, 0, 1]) _ a h31
    refine C.plain 18 (by kernel_rfl) hF (by kernel_rfl) ?_
    refine SeqK.pures (k' := 3) [.slice ay ((flat (sb.take i)).length) cy, .slice (some ab) sb.length vd, .int .i64 ((i : Nat) : Int)] (by kernel_rfl) rfl ?_
    refine SeqK.calm (k' := 4) (v := .pointer (some (Addr.add ab i))) ((Calm.indexA (a := ab) (len := sb.length) (sz := 1) (k := ((i : Nat) : Int)) i i (by kernel_rfl) rfl (by omega) (by omega)) _) rfl ?_
    refine SeqK.calm (k' := 5) (v := .slice tb.1 tb.2.2.length tb.2.1) (Calm.load (T := 22) (p := (Addr.add ab i)) (by kernel_rfl) (Loads.one (k := 1) (by kernel_rfl) (e0.cell cb))) rfl ?_
    refine SeqK.eff (k' := 6) (Does.append2 (t := 22) (E := 5) (sz := 1) (by_ := 1) (n := (flat (sb.take i)).length) (m := tb.2.2.length) (v := .slice ay ((flat (sb.take i)).length) cy) (x := .slice tb.1 tb.2.2.length tb.2.1) (xs := (flat (sb.take i)).map bv) (ys := tb.2.2.map bv) (by kernel_rfl) (by kernel_rfl) own_y (hrb.ext e0) (ones_map _) (by unfold maxLen; omega) (by omega)) rfl ?_
    rintro _ h34 ⟨ad32, cap33, rfl, ownx, g, hb⟩
    rw [blkOf_slice] at g hb
    have hlo := e0.size
    have sepo := sep
    replace e0 := e0.grew g (sep.low 0 rfl)
    replace kt := kt.grew g (sep.zero 0 rfl h0s)
    replace hs_s := hs_s.put g (sep.bp 5 0 rfl rfl (by decide)) (sep.ap 4 0 rfl rfl (by decide))
    replace hs_t := hs_t.put g (sep.bp 3 0 rfl rfl (by decide)) (sep.ap 2 0 rfl rfl (by decide))
    replace own_x := own_x.kept g (by rw [blkOf_slice]; exact (sep.ap 1 0 rfl rfl (by decide)))
    replace sep := sep.up g.size
    replace sep : Sep h.size h34.size [ad32.map (·.block), ax.map (·.block), o30, b_t, o1, b_s] := sepo.set g.size hlo 0 (y := ad32.map (fun (x : Addr) => x.block)) rfl (hb.imp id fun e => .inr ⟨_, e, Nat.le_refl _⟩) (fun k e => ownx.lt (by rw [blkOf_slice]; exact e))
    replace own_y : Own h34 (.slice ad32 (flat (sb.take i) ++ tb.2.2).length cap33) 5 (flat (sb.take i) ++ tb.2.2).length 1 ((flat (sb.take i) ++ tb.2.2).map bv) := Own.app ownx (by first | rfl | simp) (by first | (simp; done) | (simp; omega))
    clear ownx g hb hlo sepo
    refine SeqK.pures (k' := 7) [.slice ad32 (((flat (sb.take i)).length) + tb.2.2.length) cap33] (by kernel_rfl) rfl ?_
    refine SeqK.done [0, 1, 5, 6, 7, 8, 9, 10] (L := [(0, .slice va sa.length vc), (1, .slice (some ab) sb.length vd), (5, .bool true), (6, .pointer (some ⟨b_s, 0, none⟩)), (7, .pointer (some ⟨b_t, 0, none⟩)), (8, .slice ax ((flat (sa.take i)).length) cx), (9, .slice ad32 (((flat (sb.take i)).length) + tb.2.2.length) cap33), (10, .int .i64 ((i : Nat) : Int))]) (by kernel_rfl) (by kernel_rfl) ?_
    clear hF; clear a; intro a hF
    have hcan : (((flat (sb.take i)).length) + tb.2.2.length : Nat) = (flat (sb.take i) ++ tb.2.2).length := by first | (simp; done) | (simp; omega)
    rw [hcan] at hF; clear hcan
    show C Tryd.prog (sub b5 [1, 1, 1, 1, 1, 1, 1, 1, 0, 1, 0, 0, 1, 1]) _ a h34
    refine C.plain 12 (by kernel_rfl) hF (by kernel_rfl) ?_
    refine SeqK.pures (k' := 1) [.int .i64 ((i : Nat) : Int)] (by kernel_rfl) rfl ?_
    refine SeqK.pure1 (k' := 2) (v := .int .i64 ((i + 1 : Nat) : Int)) (v' := .int .i64 (IntKind.i64.wrap (((i : Nat) : Int) + 1))) (by kernel_rfl) (congrArg (Value.int .i64) (w64' (by omega) (by omega) (by omega))) rfl ?_
    refine SeqK.pures (k' := 3) [.int .i64 ((i + 1 : Nat) : Int)] (by kernel_rfl) rfl ?_
    refine SeqK.done [0, 1, 5, 6, 7, 8, 9, 10] (L := [(0, .slice va sa.length vc), (1, .slice (some ab) sb.length vd), (5, .bool true), (6, .pointer (some ⟨b_s, 0, none⟩)), (7, .pointer (some ⟨b_t, 0, none⟩)), (8, .slice ax ((flat (sa.take i)).length) cx), (9, .slice ad32 ((flat (sb.take i) ++ tb.2.2).length) cap33), (10, .int .i64 ((i + 1 : Nat) : Int))]) (by kernel_rfl) (by kernel_rfl) ?_
    clear hF; clear a; intro a hF
    rw [← hfa] at hs_s own_x hF
    rw [← hfb] at hs_t own_y hF
    show ∃ m', m' < _ ∧ _
    refine ⟨_, ?_, i + 1, o1, o30, ax, cx, ad32, cap33, rfl, e0, kt, hs_s, hs_t, own_x, own_y, sep, hF⟩
    omega
  · skip
    have hfa := flat_over hia
    have hfb := flat_over hib
    refine C.seq [1, 1, 1, 1, 1, 1, 1, 1, 0, 1, 0, 0, 0] [1, 1, 1, 1, 1, 1, 1, 1, 0, 1, 0, 0, 1] (by kernel_rfl) ?_
    refine C.seq [1, 1, 1, 1, 1, 1, 1, 1, 0, 1, 0, 0, 0, 0] [1, 1, 1, 1, 1, 1, 1, 1, 0, 1, 0, 0, 0, 1] (by kernel_rfl) ?_
    refine C.plain 11 (by kernel_rfl) hF (by kernel_rfl) ?_
    refine SeqK.pures (k' := 3) [.int .i64 ((i : Nat) : Int), .slice va sa.length vc, .int .i64 ((sa.length : Nat) : Int)] (by kernel_rfl) rfl ?_
    refine SeqK.pure1 (k' := 4) (v := .bool false) (v' := .bool (decide (((i : Nat) : Int) < ((sa.length : Nat) : Int)))) (by kernel_rfl) (congrArg Value.bool (decide_eq_false (by omega))) rfl ?_
    refine SeqK.pures (k' := 8) [.bool false, .int .i64 ((i : Nat) : Int), .slice vb sb.length vd, .int .i64 ((sb.length : Nat) : Int)] (by kernel_rfl) rfl ?_
    refine SeqK.pure1 (k' := 9) (v := .bool false) (v' := .bool (decide (((i : Nat) : Int) < ((sb.length : Nat) : Int)))) (by kernel_rfl) (congrArg Value.bool (decide_eq_false (by omega))) rfl ?_
    refine SeqK.pures (k' := 10) [.bool false] (by kernel_rfl) rfl ?_
    refine SeqK.done [0, 1, 5, 6, 7, 8, 9, 10, 33] (L := [(0, .slice va sa.length vc), (1, .slice vb sb.length vd), (5, .bool true), (6, .pointer (some ⟨b_s, 0, none⟩)), (7, .pointer (some ⟨b_t, 0, none⟩)), (8, .slice ax ((flat (sa.take i)).length) cx), (9, .slice ay ((flat (sb.take i)).length) cy), (10, .int .i64 ((i : Nat) : Int)), (33, .bool false)]) (by kernel_rfl) (by kernel_rfl) ?_
    clear hF; clear a; intro a hF
    show C Tryd.prog (sub b5 [1, 1, 1, 1, 1, 1, 1, 1, 0, 1, 0, 0, 0, 1]) _ a h14
    refine C.condF 33 [1, 1, 1, 1, 1, 1, 1, 1, 0, 1, 0, 0, 0, 1, 0] [1, 1, 1, 1, 1, 1, 1, 1, 0, 1, 0, 0, 0, 1, 1] (by kernel_rfl) hF (fun _ => rfl) ?_
    refine C.exit 0 (by kernel_rfl) ?_
    show C Tryd.prog (sub b5 [1, 1, 1, 1, 1, 1, 1, 1, 1]) _ a h14
    refine C.seq [1, 1, 1, 1, 1, 1, 1, 1, 1, 0] [1, 1, 1, 1, 1, 1, 1, 1, 1, 1] (by kernel_rfl) ?_
    refine C.plain 19 (by kernel_rfl) hF (by kernel_rfl) ?_
    refine SeqK.pures (k' := 3) [.bool true, .bool true, .pointer (some ⟨b_s, 0, none⟩)] (by kernel_rfl) rfl ?_
    refine SeqK.eff (k' := 4) (Does.call (f := 12) (args := #[.pointer (some ⟨b_s, 0, none⟩)]) (by kernel_rfl) (sum_l _ b_s o1 (flat (sa.take i)) hs_s kt (by have := flat_le sa i; omega))) rfl ?_
    rintro _ h35 ⟨rfl, g⟩
    replace e0 := e0.ext g
    replace kt := kt.ext g
    replace hs_s := hs_s.ext g
    replace hs_t := hs_t.ext g
    replace own_x := own_x.ext g
    replace own_y := own_y.ext g
    replace sep := sep.up g.size
    clear g
    refine SeqK.pures (k' := 5) [.slice ax ((flat (sa.take i)).length) cx] (by kernel_rfl) rfl ?_
    refine SeqK.eff (k' := 6) (Does.call (f := 7) (args := #[.slice ax ((flat (sa.take i)).length) cx]) (by kernel_rfl) (sha_sat _ (flat (sa.take i)) _ _ own_x.row (.inr fun k e => own_x.lt e) kt (by have := flat_le sa i; omega))) rfl ?_
    rintro _ h36 ⟨rfl, g⟩
    replace e0 := e0.ext g
    replace kt := kt.ext g
    replace hs_s := hs_s.ext g
    replace hs_t := hs_t.ext g
    replace own_x := own_x.ext g
    replace own_y := own_y.ext g
    replace sep := sep.up g.size
    clear g
    refine SeqK.calm (k' := 7) (v := .bool true) ((eqHT (q := true) (l := sha (flat (sa.take i))) (r := sha (flat (sa.take i))) (n := 32) (by kernel_rfl) rfl rfl rfl) _) rfl ?_
    refine SeqK.pures (k' := 10) [.bool true, .bool true, .pointer (some ⟨b_t, 0, none⟩)] (by kernel_rfl) rfl ?_
    refine SeqK.eff (k' := 11) (Does.call (f := 12) (args := #[.pointer (some ⟨b_t, 0, none⟩)]) (by kernel_rfl) (sum_l _ b_t o2 (flat (sb.take i)) hs_t kt (by have := flat_le sb i; omega))) rfl ?_
    rintro _ h37 ⟨rfl, g⟩
    replace e0 := e0.ext g
    replace kt := kt.ext g
    replace hs_s := hs_s.ext g
    replace hs_t := hs_t.ext g
    replace own_x := own_x.ext g
    replace own_y := own_y.ext g
    replace sep := sep.up g.size
    clear g
    refine SeqK.pures (k' := 12) [.slice ay ((flat (sb.take i)).length) cy] (by kernel_rfl) rfl ?_
    refine SeqK.eff (k' := 13) (Does.call (f := 7) (args := #[.slice ay ((flat (sb.take i)).length) cy]) (by kernel_rfl) (sha_sat _ (flat (sb.take i)) _ _ own_y.row (.inr fun k e => own_y.lt e) kt (by have := flat_le sb i; omega))) rfl ?_
    rintro _ h38 ⟨rfl, g⟩
    replace e0 := e0.ext g
    replace kt := kt.ext g
    replace hs_s := hs_s.ext g
    replace hs_t := hs_t.ext g
    replace own_x := own_x.ext g
    replace own_y := own_y.ext g
    replace sep := sep.up g.size
    clear g
    refine SeqK.calm (k' := 14) (v := .bool true) ((eqHT (q := true) (l := sha (flat (sb.take i))) (r := sha (flat (sb.take i))) (n := 32) (by kernel_rfl) rfl rfl rfl) _) rfl ?_
    refine SeqK.pures (k' := 16) [.bool true, .bool true] (by kernel_rfl) rfl ?_
    refine SeqK.done [4] (L := [(4, .bool true)]) (by kernel_rfl) (by kernel_rfl) ?_
    clear hF; clear a; intro a hF
    show C Tryd.prog (sub b5 [1, 1, 1, 1, 1, 1, 1, 1, 1, 1]) _ a h38
    refine C.ret (by kernel_rfl) ?_
    refine ret_ok [.tmp 4] [.bool true] (.bool true) rfl hF ⟨rfl, trivial⟩ rfl ?_
    exact ⟨rfl, e0⟩
end Go.Proofs.YthllngaecibdkaaDoor
