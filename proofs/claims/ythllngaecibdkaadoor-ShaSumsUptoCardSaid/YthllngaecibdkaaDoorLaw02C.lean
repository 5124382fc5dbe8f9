/- Walks of the laws of the hashes: what each function computes, as a law of its calls. No condition but those that each theorem names. -/
import Derived.Test.YthllngaecibdkaaDoorLaw02A
import Derived.Test.YthllngaecibdkaaDoorRefC
namespace Go.Proofs.YthllngaecibdkaaDoor
open Go Go.Lane Go.Sha
noncomputable def b9 : Code := Tryd.f9.body.getD .skip
theorem same_sat (h : Heap) (l : List UInt8) (va vb : Option Addr) (vc vd : Nat) (ra : Row h (.slice va l.length vc) l.length 1 (l.map bv)) (rb : Row h (.slice vb l.length vd) l.length 1 (l.map bv)) : Sat Tryd.prog 9 #[.slice va l.length vc, .slice vb l.length vd] h fun v h' => v = .bool true ∧ h' = h := by
  refine sat_of (args := [.slice va l.length vc, .slice vb l.length vd]) (fn := Tryd.f9) (B := b9) (n := 10) (L := [(0, .slice va l.length vc), (1, .slice vb l.length vd)]) Tryd.func9 rfl (by kernel_rfl) rfl ?_
  intro a hF
  refine C.seq [0] [1] (by kernel_rfl) ?_
  refine C.plain 0 (by kernel_rfl) hF (by kernel_rfl) ?_
  refine SeqK.pures (k' := 1) [.bool false] (by kernel_rfl) rfl ?_
  refine SeqK.done [0, 1] (L := [(0, .slice va l.length vc), (1, .slice vb l.length vd)]) (by kernel_rfl) (by kernel_rfl) ?_
  clear hF; clear a; intro a hF
  show C Tryd.prog (sub b9 [1]) _ a h
  refine C.seq [1, 0] [1, 1] (by kernel_rfl) ?_
  refine C.plain 1 (by kernel_rfl) hF (by kernel_rfl) ?_
  refine SeqK.pures (k' := 1) [.slice va l.length vc] (by kernel_rfl) rfl ?_
  refine SeqK.calm (k' := 2) (v := .string (⟨l.toArray⟩)) (Calm.str (l := l) (by kernel_rfl) ra) rfl ?_
  refine SeqK.pures (k' := 3) [.slice vb l.length vd] (by kernel_rfl) rfl ?_
  refine SeqK.calm (k' := 4) (v := .string (⟨l.toArray⟩)) (Calm.str (l := l) (by kernel_rfl) rb) rfl ?_
  refine SeqK.pure1 (k' := 5) (v := .bool true) (v' := .bool ((⟨l.toArray⟩ : ByteArray).toList == (⟨l.toArray⟩ : ByteArray).toList)) (by kernel_rfl) (congrArg Value.bool (beq_self_eq_true _)) rfl ?_
  refine SeqK.pures (k' := 6) [.bool true] (by kernel_rfl) rfl ?_
  refine SeqK.done [4] (L := [(4, .bool true)]) (by kernel_rfl) (by kernel_rfl) ?_
  clear hF; clear a; intro a hF
  show C Tryd.prog (sub b9 [1, 1]) _ a h
  refine C.ret (by kernel_rfl) ?_
  refine ret_ok [.tmp 4] [.bool true] (.bool true) rfl hF ⟨rfl, trivial⟩ rfl ?_
  exact ⟨rfl, rfl⟩
noncomputable def b3 : Code := Tryd.f3.body.getD .skip
theorem sums_sat (h : Heap) (l : List UInt8) (va : Option Addr) (vc : Nat) (hr : Row h (.slice va l.length vc) l.length 1 (l.map bv)) (hn : l.length ≤ 1048576) (kt : Ktab h) : Sat Tryd.prog 3 #[.slice va l.length vc] h fun v h' => v = .bool true ∧ Ext h h' := by
  have e0 := Ext.refl h
  have h0s := kt.lt
  have sep : Sep h.size h.size [] := Sep.nil _ _
  refine sat_of (args := [.slice va l.length vc]) (fn := Tryd.f3) (B := b3) (n := 21) (L := [(0, .slice va l.length vc)]) Tryd.func3 rfl (by kernel_rfl) rfl ?_
  intro a hF
  refine C.seq [0] [1] (by kernel_rfl) ?_
  refine C.plain 0 (by kernel_rfl) hF (by kernel_rfl) ?_
  refine SeqK.pures (k' := 1) [.bool false] (by kernel_rfl) rfl ?_
  refine SeqK.done [0] (L := [(0, .slice va l.length vc)]) (by kernel_rfl) (by kernel_rfl) ?_
  clear hF; clear a; intro a hF
  show C Tryd.prog (sub b3 [1]) _ a h
  refine C.seq [1, 0] [1, 1] (by kernel_rfl) ?_
  refine C.plain 1 (by kernel_rfl) hF (by kernel_rfl) ?_
  refine SeqK.eff (k' := 1) (Does.call (f := 6) (args := #[]) (by kernel_rfl) (shown_sat _ kt)) rfl ?_
  rintro _ h1 ⟨rfl, g⟩
  replace e0 := e0.ext g
  replace kt := kt.ext g
  replace sep := sep.up g.size
  clear g
  refine SeqK.pures (k' := 2) [.bool true] (by kernel_rfl) rfl ?_
  refine SeqK.done [0, 3] (L := [(0, .slice va l.length vc), (3, .bool true)]) (by kernel_rfl) (by kernel_rfl) ?_
  clear hF; clear a; intro a hF
  show C Tryd.prog (sub b3 [1, 1]) _ a h1
  refine C.seq [1, 1, 0] [1, 1, 1] (by kernel_rfl) ?_
  refine C.seq [1, 1, 0, 0] [1, 1, 0, 1] (by kernel_rfl) ?_
  refine C.plain 2 (by kernel_rfl) hF (by kernel_rfl) ?_
  refine SeqK.pures (k' := 2) [.bool true, .bool false] (by kernel_rfl) rfl ?_
  refine SeqK.done [0, 7] (L := [(0, .slice va l.length vc), (7, .bool false)]) (by kernel_rfl) (by kernel_rfl) ?_
  clear hF; clear a; intro a hF
  show C Tryd.prog (sub b3 [1, 1, 0, 1]) _ a h1
  refine C.condF 7 [1, 1, 0, 1, 0] [1, 1, 0, 1, 1] (by kernel_rfl) hF (fun _ => rfl) ?_
  refine C.skip (by kernel_rfl) ?_
  show C Tryd.prog (sub b3 [1, 1, 1]) _ a h1
  refine C.seq [1, 1, 1, 0] [1, 1, 1, 1] (by kernel_rfl) ?_
  refine C.plain 4 (by kernel_rfl) hF (by kernel_rfl) ?_
  refine SeqK.eff (k' := 1) (Does.new (v := .slice (some ⟨h1.size, 0, none⟩) 0 0) (o := .cells #[] 5) (by kernel_rfl)) rfl ?_
  rintro _ h2 ⟨rfl, hh⟩
  have g3 : Ext h1 h2 := push_ext hh
  have m4 : h2[h1.size]? = some (.cells #[] 5) := push_at hh
  clear hh
  have lt5 := blk_lt m4
  have z6 := e0.size
  have hlo := e0.size
  have sepo := sep
  replace e0 := e0.ext g3
  replace kt := kt.ext g3
  replace sep := sep.up g3.size
  replace sep := sepo.new hlo (blk_lt m4)
  clear sepo hlo
  refine SeqK.pures (k' := 2) [.slice va l.length vc] (by kernel_rfl) rfl ?_
  have own_c : Own h2 (.slice (some ⟨h1.size, 0, none⟩) 0 0) 5 ([] : List UInt8).length 1 (([] : List UInt8).map bv) := Own.empty 1 m4
  replace sep : Sep h.size h2.size [(some ⟨h1.size, 0, none⟩ : Option Addr).map (·.block)] := sep
  clear m4 lt5 z6
  refine SeqK.eff (k' := 3) (Does.append2 (t := 22) (E := 5) (sz := 1) (by_ := 1) (n := 0) (m := l.length) (v := .slice (some ⟨h1.size, 0, none⟩) 0 0) (x := .slice va l.length vc) (xs := ([]).map bv) (ys := l.map bv) (by kernel_rfl) (by kernel_rfl) own_c (hr.ext e0) (ones_map _) (by unfold maxLen; omega) (by omega)) rfl ?_
  rintro _ h9 ⟨ad7, cap8, rfl, ownx, g, hb⟩
  rw [blkOf_slice] at g hb
  have hlo := e0.size
  have sepo := sep
  replace e0 := e0.grew g (sep.low 0 rfl)
  replace kt := kt.grew g (sep.zero 0 rfl h0s)
  replace sep := sep.up g.size
  replace sep : Sep h.size h9.size [ad7.map (·.block)] := sepo.set g.size hlo 0 (y := ad7.map (fun (x : Addr) => x.block)) rfl (hb.imp id fun e => .inr ⟨_, e, Nat.le_refl _⟩) (fun k e => ownx.lt (by rw [blkOf_slice]; exact e))
  replace own_c : Own h9 (.slice ad7 l.length cap8) 5 l.length 1 (l.map bv) := Own.app (L2 := l) ownx (by first | rfl | simp) (by first | rfl | (simp; done) | (simp; omega))
  clear ownx g hb hlo sepo
  refine SeqK.pures (k' := 4) [.slice ad7 (0 + l.length) cap8] (by kernel_rfl) rfl ?_
  refine SeqK.done [0, 4] (L := [(0, .slice va l.length vc), (4, .slice ad7 (0 + l.length) cap8)]) (by kernel_rfl) (by kernel_rfl) ?_
  clear hF; clear a; intro a hF
  have hcan : (0 + l.length : Nat) = l.length := by first | (simp; done) | (simp; omega)
  rw [hcan] at hF; clear hcan
  show C Tryd.prog (sub b3 [1, 1, 1, 1]) _ a h9
  refine C.seq [1, 1, 1, 1, 0] [1, 1, 1, 1, 1] (by kernel_rfl) ?_
  refine C.plain 5 (by kernel_rfl) hF (by kernel_rfl) ?_
  refine SeqK.pures (k' := 1) [.slice ad7 l.length cap8] (by kernel_rfl) rfl ?_
  refine SeqK.eff (k' := 2) (Does.call (f := 7) (args := #[.slice ad7 l.length cap8]) (by kernel_rfl) (sha_sat _ l _ _ own_c.row (.inr fun k e => own_c.lt e) kt (by omega))) rfl ?_
  rintro _ h10 ⟨rfl, g⟩
  replace e0 := e0.ext g
  replace kt := kt.ext g
  replace own_c := own_c.ext g
  replace sep := sep.up g.size
  clear g
  refine SeqK.pures (k' := 3) [.slice va l.length vc] (by kernel_rfl) rfl ?_
  refine SeqK.eff (k' := 4) (Does.call (f := 8) (args := #[.slice va l.length vc]) (by kernel_rfl) (rsum_sat _ l va vc (hr.ext e0) (by omega))) rfl ?_
  rintro _ h11 ⟨rfl, g⟩
  replace e0 := e0.ext g
  replace kt := kt.ext g
  replace own_c := own_c.ext g
  replace sep := sep.up g.size
  clear g
  refine SeqK.calm (k' := 5) (v := .bool true) ((eqHT (q := true) (l := sha l) (r := sha l) (n := 32) (by kernel_rfl) rfl rfl rfl) _) rfl ?_
  refine SeqK.pures (k' := 8) [.bool true, .slice ad7 l.length cap8, .slice va l.length vc] (by kernel_rfl) rfl ?_
  refine SeqK.calm (k' := 9) (v := .bool true) (Does.call (f := 9) (args := #[.slice ad7 l.length cap8, .slice va l.length vc]) (by kernel_rfl) (same_sat _ l _ _ _ _ own_c.row (hr.ext e0))) rfl ?_
  refine SeqK.pures (k' := 11) [.bool true, .bool true] (by kernel_rfl) rfl ?_
  refine SeqK.done [2] (L := [(2, .bool true)]) (by kernel_rfl) (by kernel_rfl) ?_
  clear hF; clear a; intro a hF
  show C Tryd.prog (sub b3 [1, 1, 1, 1, 1]) _ a h11
  refine C.ret (by kernel_rfl) ?_
  refine ret_ok [.tmp 2] [.bool true] (.bool true) rfl hF ⟨rfl, trivial⟩ rfl ?_
  exact ⟨rfl, e0⟩
end Go.Proofs.YthllngaecibdkaaDoor
