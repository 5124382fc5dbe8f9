/- Walks of chunks: what each function computes, as a law of its calls. No condition but those that each theorem names. -/
import Derived.Test.YtkjlafiefgbjpaaDoorChkD
namespace Go.Proofs.YtkjlafiefgbjpaaDoor
open Go Go.Lane Go.Sha
noncomputable def b6 : Code := Tryd.f6.body.getD .skip
set_option maxHeartbeats 2000000 in
theorem binds7_sat (h : Heap) (l1 l2 : List UInt8) (va vb : Option Addr) (vc vd : Nat) (hr1 : Row h (.slice va l1.length vc) l1.length 1 (l1.map bv)) (hr2 : Row h (.slice vb l2.length vd) l2.length 1 (l2.map bv)) (h1l : l1.length ≤ 1048576) (h2l : l2.length ≤ 1048576) (kt : Ktab h) : Sat Tryd.prog 6 #[.slice va l1.length vc,.slice vb l2.length vd] h fun v h' => v = .bool true ∧ Ext h h' := by
 have e0 := Ext.refl h
 have h0s := kt.lt
 have sep : Sep h.size h.size [] := Sep.nil _ _
 refine sat_of (args := [.slice va l1.length vc,.slice vb l2.length vd]) (fn := Tryd.f6) (B := b6) (n := 98) (L := [(0,.slice va l1.length vc),(1,.slice vb l2.length vd)]) Tryd.func6 rfl (by kernel_rfl) rfl ?_
 intro a hF
 refine cS ?_
 refine cP 0 hF ?_
 refine sP 1 [.bool false] ?_
 refine sD [(0,.slice va l1.length vc),(1,.slice vb l2.length vd)] ?_
 clear hF a; intro a hF
 refine tK ?_
 refine cS ?_
 refine cP 1 hF ?_
 refine SeqK.eff (k' := 1) (Does.call (f := 7) (args := #[]) (by kernel_rfl) (shown7_sat _ kt)) rfl ?_
 rintro _ h1 ⟨rfl,g⟩
 replace e0 := e0.ext g
 replace kt := kt.ext g
 replace sep := sep.up g.size
 clear g
 refine sP 2 [.bool true] ?_
 refine sD [(0,.slice va l1.length vc),(1,.slice vb l2.length vd),(5,.bool true)] ?_
 clear hF a; intro a hF
 refine tK ?_
 refine cS ?_
 refine cP 2 hF ?_
 refine sP 4 [.slice va l1.length vc,nV l1.length,.slice vb l2.length vd,nV l2.length] ?_
 refine s1 5 (.int .i64 ((min l1.length l2.length : Nat) : Int)) (.int .i64 (if ((l2.length : Nat) : Int) < ((l1.length : Nat) : Int) then ((l2.length : Nat) : Int) else ((l1.length : Nat) : Int))) (congrArg (Value.int .i64) (by rw [Nat.min_def]; split <;> split <;> omega)) ?_
 refine sP 6 [nV (min l1.length l2.length)] ?_
 refine sD [(0,.slice va l1.length vc),(1,.slice vb l2.length vd),(5,.bool true),(6,nV (min l1.length l2.length))] ?_
 clear hF a; intro a hF
 obtain ⟨n,hnn⟩ : ∃ n,min l1.length l2.length = n := ⟨_,rfl⟩
 rw [hnn] at hF
 obtain ⟨A,hA⟩ : ∃ A,l1.take n = A := ⟨_,rfl⟩
 obtain ⟨B,hB⟩ : ∃ B,l2.take n = B := ⟨_,rfl⟩
 have hAl : A.length = n := by rw [← hA,List.length_take]; omega
 have hBl : B.length = n := by rw [← hB,List.length_take]; omega
 have hrA := hr1.takeB (n := n) (by omega) hA
 have hrB := hr2.takeB (n := n) (by omega) hB
 have hcA := hr1.caple; have hcB := hr2.caple
 obtain ⟨N,hN⟩ : ∃ N,nch n = N := ⟨_,rfl⟩
 have hNn : N ≤ n := hN ▸ nch_le n
 refine tK ?_
 refine cS ?_
 refine cP 3 hF ?_
 refine sP 2 [.slice va l1.length vc,nV n] ?_
 refine sC 3 (.slice va n vc) ((fun h => Calm.sliceO (a := va) (len := l1.length) (cap := vc) (sz := 1) (x := va) 0 n vc n vc (by kernel_rfl) (.inl ⟨rfl,rfl⟩) (.inr rfl) (.inl ⟨rfl,rfl⟩) (by omega) (by omega) (opt_add0 _ 1) (by first | rfl | omega) (by first | rfl | omega) h) _) ?_
 refine sP 4 [.slice va n vc] ?_
 refine sD [(0,.slice va n vc),(1,.slice vb l2.length vd),(5,.bool true),(6,nV n)] ?_
 clear hF a; intro a hF
 refine tK ?_
 refine cS ?_
 refine cP 4 hF ?_
 refine sP 2 [.slice vb l2.length vd,nV n] ?_
 refine sC 3 (.slice vb n vd) ((fun h => Calm.sliceO (a := vb) (len := l2.length) (cap := vd) (sz := 1) (x := vb) 0 n vd n vd (by kernel_rfl) (.inl ⟨rfl,rfl⟩) (.inr rfl) (.inl ⟨rfl,rfl⟩) (by omega) (by omega) (opt_add0 _ 1) (by first | rfl | omega) (by first | rfl | omega) h) _) ?_
 refine sP 4 [.slice vb n vd] ?_
 refine sD [(0,.slice va n vc),(1,.slice vb n vd),(5,.bool true)] ?_
 clear hF a; intro a hF
 refine tK ?_
 refine cS ?_
 refine cP 5 hF ?_
 refine sP 1 [.slice va n vc] ?_
 refine SeqK.eff (k' := 2) (Does.call (f := 12) (args := #[.slice va n vc]) (by kernel_rfl) (root7_n _ A n hAl _ _ (hrA.ext e0) (by omega) N hN kt)) rfl ?_
 rintro _ h2 ⟨rfl,g⟩
 replace e0 := e0.ext g
 replace kt := kt.ext g
 replace sep := sep.up g.size
 clear g
 refine SeqK.eff (k' := 3) (Does.new (v := .pointer (some ⟨h2.size,0,none⟩)) (o := .cells (z32.map bv).toArray 31) (by kernel_rfl)) rfl ?_
 rintro _ h3 ⟨rfl,hh⟩
 have g4 : Ext h2 h3 := push_ext hh
 have m5 : h3[h2.size]? = some (.cells (z32.map bv).toArray 31) := push_at hh
 clear hh
 have lt6 := blk_lt m5
 have zs7 := e0.size
 have hlo := e0.size
 have sepo := sep
 replace e0 := e0.ext g4
 replace kt := kt.ext g4
 replace sep := sep.up g4.size
 replace sep := sepo.new hlo (blk_lt m5)
 clear sepo hlo
 refine SeqK.eff (k' := 4) (Does.store (b := h2.size) (off := 0) (vs := (root (lch A N)).map bv) (l := z32.map bv) (storeOp_of (by kernel_rfl) (hlm (root_len (lch_32 _ _)))) m5 (hfit rfl (root_len (lch_32 _ _))) (ones_map _)) rfl ?_
 rintro _ h8 ⟨rfl,hh⟩
 have g9 : Grew (some (h2.size)) h3 h8 := hput_gr hh
 replace m5 : h8[h2.size]? = some (.cells ((root (lch A N)).map bv).toArray 31) := hput_at (off := 0) (vs := (root (lch A N)).map bv) (l := (z32.map bv)) hh (hsplice rfl (root_len (lch_32 _ _))) m5
 clear hh
 replace e0 := e0.grew g9 (sep.low 0 rfl)
 replace kt := kt.grew g9 (sep.zero 0 rfl h0s)
 replace sep := sep.up g9.size
 refine sD [(0,.slice va n vc),(1,.slice vb n vd),(5,.bool true),(7,pV h2.size)] ?_
 clear hF a; intro a hF
 refine tK ?_
 refine cS ?_
 refine cP 6 hF ?_
 refine sP 1 [.slice vb n vd] ?_
 refine SeqK.eff (k' := 2) (Does.call (f := 12) (args := #[.slice vb n vd]) (by kernel_rfl) (root7_n _ B n hBl _ _ (hrB.ext e0) (by omega) N hN kt)) rfl ?_
 rintro _ h10 ⟨rfl,g⟩
 replace e0 := e0.ext g
 replace kt := kt.ext g
 replace m5 := Ext.blk g m5
 replace sep := sep.up g.size
 clear g
 refine SeqK.eff (k' := 3) (Does.new (v := .pointer (some ⟨h10.size,0,none⟩)) (o := .cells (z32.map bv).toArray 31) (by kernel_rfl)) rfl ?_
 rintro _ h11 ⟨rfl,hh⟩
 have g12 : Ext h10 h11 := push_ext hh
 have m13 : h11[h10.size]? = some (.cells (z32.map bv).toArray 31) := push_at hh
 clear hh
 have lt14 := blk_lt m13
 have zs15 := e0.size
 have hlo := e0.size
 have sepo := sep
 replace e0 := e0.ext g12
 replace kt := kt.ext g12
 replace m5 := Ext.blk g12 m5
 replace sep := sep.up g12.size
 replace sep := sepo.new hlo (blk_lt m13)
 clear sepo hlo
 refine SeqK.eff (k' := 4) (Does.store (b := h10.size) (off := 0) (vs := (root (lch B N)).map bv) (l := z32.map bv) (storeOp_of (by kernel_rfl) (hlm (root_len (lch_32 _ _)))) m13 (hfit rfl (root_len (lch_32 _ _))) (ones_map _)) rfl ?_
 rintro _ h16 ⟨rfl,hh⟩
 have g17 : Grew (some (h10.size)) h11 h16 := hput_gr hh
 replace m13 : h16[h10.size]? = some (.cells ((root (lch B N)).map bv).toArray 31) := hput_at (off := 0) (vs := (root (lch B N)).map bv) (l := (z32.map bv)) hh (hsplice rfl (root_len (lch_32 _ _))) m13
 clear hh
 replace e0 := e0.grew g17 (sep.low 0 rfl)
 replace kt := kt.grew g17 (sep.zero 0 rfl h0s)
 replace m5 := Grew.blk g17 m5 ((sep.bp 1 0))
 replace sep := sep.up g17.size
 refine sD [(0,.slice va n vc),(1,.slice vb n vd),(5,.bool true),(7,pV h2.size),(8,pV h10.size)] ?_
 clear hF a; intro a hF
 refine tK ?_
 refine cS ?_
 refine cS ?_
 rcases Decidable.em (A = B) with hAB | hAB
 ·skip
  refine cP 7 hF ?_
  refine sP 1 [.slice va n vc] ?_
  refine sC 2 (.string (ByteArray.mk A.toArray)) (Calm.strN (l := A) hAl (by kernel_rfl) (hrA.ext e0)) ?_
  refine sP 3 [.slice vb n vd] ?_
  refine sC 4 (.string (ByteArray.mk B.toArray)) (Calm.strN (l := B) hBl (by kernel_rfl) (hrB.ext e0)) ?_
  refine s1 5 (.bool true) (.bool ((ByteArray.mk A.toArray).toList == (ByteArray.mk B.toArray).toList)) (congrArg Value.bool (str_eq hAB)) ?_
  refine sD [(0,.slice va n vc),(1,.slice vb n vd),(5,.bool true),(7,pV h2.size),(8,pV h10.size),(35,.bool true)] ?_
  clear hF a; intro a hF
  refine tK ?_
  refine cT 35 hF ?_
  refine cS ?_
  refine cP 8 hF ?_
  refine sP 2 [.bool true,.bool true] ?_
  refine sC 3 (.agg ((root (lch A N)).map bv).toArray) (Calm.load (T := 31) (p := ⟨h2.size,0,none⟩) (by kernel_rfl) (Loads.hash (by kernel_rfl) (root_len (lch_32 _ _)) m5)) ?_
  refine sC 4 (.agg ((root (lch B N)).map bv).toArray) (Calm.load (T := 31) (p := ⟨h10.size,0,none⟩) (by kernel_rfl) (Loads.hash (by kernel_rfl) (root_len (lch_32 _ _)) m13)) ?_
  refine sC 5 (.bool true) ((eqHT (q := true) (l := root (lch A N)) (r := root (lch B N)) (n := 32) (by kernel_rfl) (root_len (lch_32 _ _)) (root_len (lch_32 _ _)) (by rw [hAB])) _) ?_
  refine sP 7 [.bool true,.bool true] ?_
  refine sD [(4,.bool true)] ?_
  clear hF a; intro a hF
  refine tK ?_
  refine cR ?_
  show retK Tryd.prog Tryd.f6 (fun v h' => v = .bool true ∧ Ext h h') .ret a h16
  refine ret_ok [.tmp 4] [.bool true] (.bool true) rfl hF ⟨rfl,trivial⟩ rfl ?_
  exact ⟨rfl,e0⟩
 ·skip
  refine cP 7 hF ?_
  refine sP 1 [.slice va n vc] ?_
  refine sC 2 (.string (ByteArray.mk A.toArray)) (Calm.strN (l := A) hAl (by kernel_rfl) (hrA.ext e0)) ?_
  refine sP 3 [.slice vb n vd] ?_
  refine sC 4 (.string (ByteArray.mk B.toArray)) (Calm.strN (l := B) hBl (by kernel_rfl) (hrB.ext e0)) ?_
  refine s1 5 (.bool false) (.bool ((ByteArray.mk A.toArray).toList == (ByteArray.mk B.toArray).toList)) (congrArg Value.bool (str_ne hAB)) ?_
  refine sD [(0,.slice va n vc),(1,.slice vb n vd),(5,.bool true),(7,pV h2.size),(8,pV h10.size),(35,.bool false)] ?_
  clear hF a; intro a hF
  refine tK ?_
  refine cF 35 hF ?_
  refine cN ?_
  refine tK ?_
  refine cS ?_
  refine cS ?_
  rcases Decidable.em (root (lch A N) = root (lch B N)) with hrr | hrr
  ·skip
   refine cP 9 hF ?_
   refine sC 1 (.agg ((root (lch A N)).map bv).toArray) (Calm.load (T := 31) (p := ⟨h2.size,0,none⟩) (by kernel_rfl) (Loads.hash (by kernel_rfl) (root_len (lch_32 _ _)) m5)) ?_
   refine sC 2 (.agg ((root (lch B N)).map bv).toArray) (Calm.load (T := 31) (p := ⟨h10.size,0,none⟩) (by kernel_rfl) (Loads.hash (by kernel_rfl) (root_len (lch_32 _ _)) m13)) ?_
   refine sC 3 (.bool false) ((eqHT (q := false) (l := root (lch A N)) (r := root (lch B N)) (n := 32) (by kernel_rfl) (root_len (lch_32 _ _)) (root_len (lch_32 _ _)) hrr) _) ?_
   refine sD [(0,.slice va n vc),(1,.slice vb n vd),(5,.bool true),(44,.bool false)] ?_
   clear hF a; intro a hF
   refine tK ?_
   refine cF 44 hF ?_
   refine cN ?_
   refine tK ?_
   refine cS ?_
   refine cP 11 hF ?_
   refine sP 1 [.slice va n vc] ?_
   refine SeqK.eff (k' := 2) (Does.call (f := 8) (args := #[.slice va n vc]) (by kernel_rfl) (split7_n _ A n hAl _ _ (hrA.ext e0) (by omega) N hN)) rfl ?_
   rintro _ h22 ⟨va18,vc19,dat20,dc21,rfl,ownx,owny,sepn,g⟩
   have hlo := e0.size
   have sepo := sep
   replace e0 := e0.ext g
   replace kt := kt.ext g
   replace m5 := Ext.blk g m5
   replace m13 := Ext.blk g m13
   replace sep := sep.up g.size
   replace sep := sepo.app sepn g.size hlo
   have own_x := ownx; have own_xd := owny; clear ownx owny sepn sepo hlo g
   refine sP 3 [.slice va18 N vc19] ?_
   refine sD [(1,.slice vb n vd),(5,.bool true),(9,.slice va18 N vc19)] ?_
   clear hF a; intro a hF
   refine tK ?_
   refine cS ?_
   refine cP 12 hF ?_
   refine sP 1 [.slice vb n vd] ?_
   refine SeqK.eff (k' := 2) (Does.call (f := 8) (args := #[.slice vb n vd]) (by kernel_rfl) (split7_n _ B n hBl _ _ (hrB.ext e0) (by omega) N hN)) rfl ?_
   rintro _ h27 ⟨va23,vc24,dat25,dc26,rfl,ownx,owny,sepn,g⟩
   have hlo := e0.size
   have sepo := sep
   replace e0 := e0.ext g
   replace kt := kt.ext g
   replace own_x := own_x.ext g
   replace own_xd := own_xd.ext g
   replace m5 := Ext.blk g m5
   replace m13 := Ext.blk g m13
   replace sep := sep.up g.size
   replace sep := sepo.app sepn g.size hlo
   have own_y := ownx; have own_yd := owny; clear ownx owny sepn sepo hlo g
   refine sP 3 [.slice va23 N vc24] ?_
   refine sD [(5,.bool true),(9,.slice va18 N vc19),(10,.slice va23 N vc24)] ?_
   clear hF a; intro a hF
   refine tK ?_
   refine cS ?_
   refine cS ?_
   refine cP 13 hF ?_
   refine sP 4 [.slice va18 N vc19,nV N,.slice va23 N vc24,nV N] ?_
   refine s1 5 (.bool false) (.bool (!(((N : Nat) : Int) == ((N : Nat) : Int)))) (congrArg (fun b => Value.bool (!b)) (beq_iff_eq.2 (by omega))) ?_
   refine sD [(5,.bool true),(9,.slice va18 N vc19),(10,.slice va23 N vc24),(54,.bool false)] ?_
   clear hF a; intro a hF
   refine tK ?_
   refine cF 54 hF ?_
   refine cN ?_
   refine tK ?_
   refine cS ?_
   refine cP 15 hF ?_
   refine sP 1 [.bool false] ?_
   refine sD [(5,.bool true),(9,.slice va18 N vc19),(10,.slice va23 N vc24),(11,.bool false)] ?_
   clear hF a; intro a hF
   refine tK ?_
   refine cS ?_
   refine cS ?_
   refine cP 16 hF ?_
   refine sP 1 [.int .i64 0] ?_
   refine sD [(5,.bool true),(9,.slice va18 N vc19),(10,.slice va23 N vc24),(11,.bool false),(12,.int .i64 0)] ?_
   clear hF a; intro a hF
   refine tK ?_
   refine cB 0 ?_
   clear m5 lt6 zs7
   clear m13 lt14 zs15
   replace sep := sep.sub (l' := [va23.map (·.block),dat25.map (·.block),va18.map (·.block),dat20.map (·.block)]) (.cons_cons _ (.cons_cons _ (.cons_cons _ (.cons_cons _ (.cons _ (.cons _ (.slnil)))))))
   refine C.loop (fun m a h' => ∃ i : Nat,∃ un : Bool,m = N - i ∧ (Ext h h') ∧ (Ktab h') ∧ (i ≤ N) ∧ ((∀ j,j < i → ck A j = ck B j) ∨ un = true) ∧ (Own h' (.slice va18 N vc19) 22 N 1 (sls dat20 A N)) ∧ (Own h' (.slice dat20 n dc21) 5 n 1 (A.map bv)) ∧ (Own h' (.slice va23 N vc24) 22 N 1 (sls dat25 B N)) ∧ (Own h' (.slice dat25 n dc26) 5 n 1 (B.map bv)) ∧ (Sep h.size h'.size [va23.map (·.block),dat25.map (·.block),va18.map (·.block),dat20.map (·.block)]) ∧ (Fr a 98 [(5,.bool true),(9,.slice va18 N vc19),(10,.slice va23 N vc24),(11,.bool un),(12,.int .i64 ((i : Nat) : Int))])) (N - 0) [1,1,1,1,1,1,1,1,1,1,1,1,1,0,1,0,0] (by kernel_rfl) ⟨0,false,rfl,e0,kt,(by omega),(.inl fun j hj => by omega),own_x,own_xd,own_y,own_yd,sep,hF⟩ ?_
   clear hF a
   clear e0
   clear kt
   clear own_x
   clear own_xd
   clear own_y
   clear own_yd
   clear sep
   rintro m a h28 ⟨i,un,rfl,e0,kt,hi,hun,own_x,own_xd,own_y,own_yd,sep,hF⟩
   refine cS ?_
   refine cS ?_
   refine cP 17 hF ?_
   refine sP 4 [nV i,.slice va18 N vc19,nV N,.bool (decide (((i : Nat) : Int) < ((N : Nat) : Int)))] ?_
   refine sD [(5,.bool true),(9,.slice va18 N vc19),(10,.slice va23 N vc24),(11,.bool un),(12,nV i),(58,.bool (decide (((i : Nat) : Int) < ((N : Nat) : Int))))] ?_
   clear hF a; intro a hF
   refine tK ?_
   refine cC 58 (decide (((i : Nat) : Int) < ((N : Nat) : Int))) hF (fun hc29 => ?_) (fun hc29 => ?_)
   ·skip
    replace hc29 := of_decide_eq_true hc29
    have hia : i < N := by omega
    obtain ⟨ax,rfl,_⟩ := own_x.someA (by omega)
    obtain ⟨ay,rfl,_⟩ := own_y.someA (by omega)
    refine cN ?_
    refine tK ?_
    refine cS ?_
    refine cB 1 ?_
    refine cS ?_
    refine cP 19 hF ?_
    refine sP 2 [.slice (some ax) N vc19,nV i] ?_
    refine sC 3 (.pointer (some (Addr.add ax i))) ((Calm.indexA (a := ax) (len := N) (sz := 1) (k := ((i : Nat) : Int)) i i (by kernel_rfl) rfl (by omega) (by omega)) _) ?_
    refine sC 4 (.slice (cad dat20 i) ((ck A i).length) ((ck A i).length)) (Calm.load (T := 22) (p := (Addr.add ax i)) (by kernel_rfl) (Loads.one (k := 1) (by kernel_rfl) (sls_cell (i := i) own_x rfl (by omega)))) ?_
    refine SeqK.eff (k' := 5) (Does.call (f := 16) (args := #[.slice (cad dat20 i) ((ck A i).length) ((ck A i).length)]) (by kernel_rfl) (rleaf_sat _ (ck A i) (cad dat20 i) ((ck A i).length) (ck_rowN hAl hN own_xd.row hia) (by rw [ck_len]; omega))) rfl ?_
    rintro _ h30 ⟨rfl,g⟩
    replace e0 := e0.ext g
    replace kt := kt.ext g
    replace own_x := own_x.ext g
    replace own_xd := own_xd.ext g
    replace own_y := own_y.ext g
    replace own_yd := own_yd.ext g
    replace sep := sep.up g.size
    clear g
    refine SeqK.eff (k' := 6) (Does.new (v := .pointer (some ⟨h30.size,0,none⟩)) (o := .cells (z32.map bv).toArray 31) (by kernel_rfl)) rfl ?_
    rintro _ h31 ⟨rfl,hh⟩
    have g32 : Ext h30 h31 := push_ext hh
    have m33 : h31[h30.size]? = some (.cells (z32.map bv).toArray 31) := push_at hh
    clear hh
    have lt34 := blk_lt m33
    have zs35 := e0.size
    have hlo := e0.size
    have sepo := sep
    replace e0 := e0.ext g32
    replace kt := kt.ext g32
    replace own_x := own_x.ext g32
    replace own_xd := own_xd.ext g32
    replace own_y := own_y.ext g32
    replace own_yd := own_yd.ext g32
    replace sep := sep.up g32.size
    replace sep := sepo.new hlo (blk_lt m33)
    clear sepo hlo
    refine SeqK.eff (k' := 7) (Does.store (b := h30.size) (off := 0) (vs := (leafH (ck A i)).map bv) (l := z32.map bv) (storeOp_of (by kernel_rfl) (hlm (leaf_len _))) m33 (hfit rfl (leaf_len _)) (ones_map _)) rfl ?_
    rintro _ h36 ⟨rfl,hh⟩
    have g37 : Grew (some (h30.size)) h31 h36 := hput_gr hh
    replace m33 : h36[h30.size]? = some (.cells ((leafH (ck A i)).map bv).toArray 31) := hput_at (off := 0) (vs := (leafH (ck A i)).map bv) (l := (z32.map bv)) hh (hsplice rfl (leaf_len _)) m33
    clear hh
    replace e0 := e0.grew g37 (sep.low 0 rfl)
    replace kt := kt.grew g37 (sep.zero 0 rfl h0s)
    replace own_x := own_x.kept g37 (by rw [blkOf_slice]; exact (sep.ap 3 0))
    replace own_xd := own_xd.kept g37 (by rw [blkOf_slice]; exact (sep.ap 4 0))
    replace own_y := own_y.kept g37 (by rw [blkOf_slice]; exact (sep.ap 1 0))
    replace own_yd := own_yd.kept g37 (by rw [blkOf_slice]; exact (sep.ap 2 0))
    replace sep := sep.up g37.size
    refine sD [(5,.bool true),(9,.slice (some ax) N vc19),(10,.slice (some ay) N vc24),(11,.bool un),(12,nV i),(13,pV h30.size)] ?_
    clear hF a; intro a hF
    refine tK ?_
    refine cS ?_
    refine cP 20 hF ?_
    refine sP 2 [.slice (some ay) N vc24,nV i] ?_
    refine sC 3 (.pointer (some (Addr.add ay i))) ((Calm.indexA (a := ay) (len := N) (sz := 1) (k := ((i : Nat) : Int)) i i (by kernel_rfl) rfl (by omega) (by omega)) _) ?_
    refine sC 4 (.slice (cad dat25 i) ((ck B i).length) ((ck B i).length)) (Calm.load (T := 22) (p := (Addr.add ay i)) (by kernel_rfl) (Loads.one (k := 1) (by kernel_rfl) (sls_cell (i := i) own_y rfl (by omega)))) ?_
    refine SeqK.eff (k' := 5) (Does.call (f := 16) (args := #[.slice (cad dat25 i) ((ck B i).length) ((ck B i).length)]) (by kernel_rfl) (rleaf_sat _ (ck B i) (cad dat25 i) ((ck B i).length) (ck_rowN hBl hN own_yd.row hia) (by rw [ck_len]; omega))) rfl ?_
    rintro _ h38 ⟨rfl,g⟩
    replace e0 := e0.ext g
    replace kt := kt.ext g
    replace own_x := own_x.ext g
    replace own_xd := own_xd.ext g
    replace own_y := own_y.ext g
    replace own_yd := own_yd.ext g
    replace m33 := Ext.blk g m33
    replace sep := sep.up g.size
    clear g
    refine SeqK.eff (k' := 6) (Does.new (v := .pointer (some ⟨h38.size,0,none⟩)) (o := .cells (z32.map bv).toArray 31) (by kernel_rfl)) rfl ?_
    rintro _ h39 ⟨rfl,hh⟩
    have g40 : Ext h38 h39 := push_ext hh
    have m41 : h39[h38.size]? = some (.cells (z32.map bv).toArray 31) := push_at hh
    clear hh
    have lt42 := blk_lt m41
    have zs43 := e0.size
    have hlo := e0.size
    have sepo := sep
    replace e0 := e0.ext g40
    replace kt := kt.ext g40
    replace own_x := own_x.ext g40
    replace own_xd := own_xd.ext g40
    replace own_y := own_y.ext g40
    replace own_yd := own_yd.ext g40
    replace m33 := Ext.blk g40 m33
    replace sep := sep.up g40.size
    replace sep := sepo.new hlo (blk_lt m41)
    clear sepo hlo
    refine SeqK.eff (k' := 7) (Does.store (b := h38.size) (off := 0) (vs := (leafH (ck B i)).map bv) (l := z32.map bv) (storeOp_of (by kernel_rfl) (hlm (leaf_len _))) m41 (hfit rfl (leaf_len _)) (ones_map _)) rfl ?_
    rintro _ h44 ⟨rfl,hh⟩
    have g45 : Grew (some (h38.size)) h39 h44 := hput_gr hh
    replace m41 : h44[h38.size]? = some (.cells ((leafH (ck B i)).map bv).toArray 31) := hput_at (off := 0) (vs := (leafH (ck B i)).map bv) (l := (z32.map bv)) hh (hsplice rfl (leaf_len _)) m41
    clear hh
    replace e0 := e0.grew g45 (sep.low 0 rfl)
    replace kt := kt.grew g45 (sep.zero 0 rfl h0s)
    replace own_x := own_x.kept g45 (by rw [blkOf_slice]; exact (sep.ap 4 0))
    replace own_xd := own_xd.kept g45 (by rw [blkOf_slice]; exact (sep.ap 5 0))
    replace own_y := own_y.kept g45 (by rw [blkOf_slice]; exact (sep.ap 2 0))
    replace own_yd := own_yd.kept g45 (by rw [blkOf_slice]; exact (sep.ap 3 0))
    replace m33 := Grew.blk g45 m33 ((sep.bp 1 0))
    replace sep := sep.up g45.size
    refine sD [(5,.bool true),(9,.slice (some ax) N vc19),(10,.slice (some ay) N vc24),(11,.bool un),(12,nV i),(13,pV h30.size),(14,pV h38.size)] ?_
    clear hF a; intro a hF
    refine tK ?_
    refine cS ?_
    refine cS ?_
    rcases Decidable.em (ck A i = ck B i) with hck | hck
    rotate_left 1
    rcases Decidable.em (leafH (ck A i) = leafH (ck B i)) with hlf | hlf
    rotate_left 2
    ·skip
     refine cD [0,0,3,7,15,0,0,96,224,480,1023,2047,4095,4095,16383,32767] 21 mixed hF ?_
     refine mP 3 [0,1] [.slice (some ax) N vc19,nV i] ?_
     refine mF 7 2 (.pointer (some (Addr.add ax i))) (Calm.indexA (a := ax) (len := N) (sz := 1) (k := ((i : Nat) : Int)) i i (by kernel_rfl) rfl (by omega) (by omega)) ?_
     refine mL 15 8 3 (.slice (cad dat20 i) ((ck A i).length) ((ck A i).length)) (Calm.load (T := 22) (p := (Addr.add ax i)) (by kernel_rfl) (Loads.one (k := 1) (by kernel_rfl) (sls_cell (i := i) own_x rfl (by omega)))) ?_
     refine mL 31 24 4 (.string (ByteArray.mk (ck A i).toArray)) (Calm.strN (l := ck A i) rfl (by kernel_rfl) (ck_rowN hAl hN own_xd.row hia)) ?_
     refine mP 127 [5,6] [.slice (some ay) N vc24,nV i] ?_
     refine mF 255 7 (.pointer (some (Addr.add ay i))) (Calm.indexA (a := ay) (len := N) (sz := 1) (k := ((i : Nat) : Int)) i i (by kernel_rfl) rfl (by omega) (by omega)) ?_
     refine mL 511 280 8 (.slice (cad dat25 i) ((ck B i).length) ((ck B i).length)) (Calm.load (T := 22) (p := (Addr.add ay i)) (by kernel_rfl) (Loads.one (k := 1) (by kernel_rfl) (sls_cell (i := i) own_y rfl (by omega)))) ?_
     refine mL 1023 792 9 (.string (ByteArray.mk (ck B i).toArray)) (Calm.strN (l := ck B i) rfl (by kernel_rfl) (ck_rowN hBl hN own_yd.row hia)) ?_
     refine m1 2047 10 (.bool false) (.bool (!((ByteArray.mk (ck A i).toArray).toList == (ByteArray.mk (ck B i).toArray).toList))) (congrArg (fun z => Value.bool (!z)) (str_eq hck)) ?_
     refine mP 65535 [11,12,13,14,15] [.bool false,undef,undef,undef,.bool false] ?_
     refine mD [(5,.bool true),(9,.slice (some ax) N vc19),(10,.slice (some ay) N vc24),(11,.bool un),(12,nV i),(13,pV h30.size),(14,pV h38.size),(86,.bool false)] ?_
     clear hF a; intro a hF
     refine tK ?_
     refine cF 86 hF ?_
     refine cN ?_
     refine tK ?_
     cases un
     ·skip
      have hun2 : (∀ j,j < i + 1 → ck A j = ck B j) ∨ false = true := .inl fun j hj => by
       rcases Nat.lt_or_ge j i with z | z
       ·exact (hun.resolve_right (by decide)) j z
       ·rw [show j = i by omega]; exact hck
      refine cP 23 hF ?_
      refine sP 2 [.bool false,.bool false] ?_
      refine sC 3 (.agg ((leafH (ck A i)).map bv).toArray) (Calm.load (T := 31) (p := ⟨h30.size,0,none⟩) (by kernel_rfl) (Loads.hash (by kernel_rfl) (leaf_len _) m33)) ?_
      refine sC 4 (.agg ((leafH (ck B i)).map bv).toArray) (Calm.load (T := 31) (p := ⟨h38.size,0,none⟩) (by kernel_rfl) (Loads.hash (by kernel_rfl) (leaf_len _) m41)) ?_
      refine sC 5 (.bool false) ((eqHT (q := false) (l := leafH (ck A i)) (r := leafH (ck B i)) (n := 32) (by kernel_rfl) (leaf_len _) (leaf_len _) (by rw [hck])) _) ?_
      refine sP 7 [.bool false,.bool false] ?_
      refine sD [(5,.bool true),(9,.slice (some ax) N vc19),(10,.slice (some ay) N vc24),(11,.bool false),(12,nV i)] ?_
      clear hF a; intro a hF
      show C Tryd.prog (sub b6 [1,1,1,1,1,1,1,1,1,1,1,1,1,0,1,0,0,1,1]) _ a h44
      refine cP 18 hF ?_
      refine sP 1 [nV i] ?_
      refine s1 2 (.int .i64 ((i + 1 : Nat) : Int)) (.int .i64 (IntKind.i64.wrap (((i : Nat) : Int) + 1))) (congrArg (Value.int .i64) (w64' (by omega) (by omega) (by omega))) ?_
      refine sP 3 [nV (i + 1)] ?_
      refine sD [(5,.bool true),(9,.slice (some ax) N vc19),(10,.slice (some ay) N vc24),(11,.bool false),(12,nV (i + 1))] ?_
      clear hF a; intro a hF
      clear m33 lt34 zs35
      clear m41 lt42 zs43
      replace sep := sep.sub (l' := [(some ay).map (·.block),dat25.map (·.block),(some ax).map (·.block),dat20.map (·.block)]) (.cons _ (.cons _ (.cons_cons _ (.cons_cons _ (.cons_cons _ (.cons_cons _ (.slnil)))))))
      show ∃ m',m' < _ ∧ _
      refine ⟨_,?_,(i + 1),false,rfl,e0,kt,(by omega),hun2,own_x,own_xd,own_y,own_yd,sep,hF⟩
      omega
     ·skip
      have hun2 : (∀ j,j < i + 1 → ck A j = ck B j) ∨ true = true := .inr rfl
      refine cP 23 hF ?_
      refine sP 7 [.bool true,.bool true,undef,undef,undef,.bool true,.bool true] ?_
      refine sD [(5,.bool true),(9,.slice (some ax) N vc19),(10,.slice (some ay) N vc24),(11,.bool true),(12,nV i)] ?_
      clear hF a; intro a hF
      show C Tryd.prog (sub b6 [1,1,1,1,1,1,1,1,1,1,1,1,1,0,1,0,0,1,1]) _ a h44
      refine cP 18 hF ?_
      refine sP 1 [nV i] ?_
      refine s1 2 (.int .i64 ((i + 1 : Nat) : Int)) (.int .i64 (IntKind.i64.wrap (((i : Nat) : Int) + 1))) (congrArg (Value.int .i64) (w64' (by omega) (by omega) (by omega))) ?_
      refine sP 3 [nV (i + 1)] ?_
      refine sD [(5,.bool true),(9,.slice (some ax) N vc19),(10,.slice (some ay) N vc24),(11,.bool true),(12,nV (i + 1))] ?_
      clear hF a; intro a hF
      clear m33 lt34 zs35
      clear m41 lt42 zs43
      replace sep := sep.sub (l' := [(some ay).map (·.block),dat25.map (·.block),(some ax).map (·.block),dat20.map (·.block)]) (.cons _ (.cons _ (.cons_cons _ (.cons_cons _ (.cons_cons _ (.cons_cons _ (.slnil)))))))
      show ∃ m',m' < _ ∧ _
      refine ⟨_,?_,(i + 1),true,rfl,e0,kt,(by omega),hun2,own_x,own_xd,own_y,own_yd,sep,hF⟩
      omega
    ·skip
     refine cD [0,0,3,7,15,0,0,96,224,480,1023,2047,4095,4095,16383,32767] 21 mixed hF ?_
     refine mP 3 [0,1] [.slice (some ax) N vc19,nV i] ?_
     refine mF 7 2 (.pointer (some (Addr.add ax i))) (Calm.indexA (a := ax) (len := N) (sz := 1) (k := ((i : Nat) : Int)) i i (by kernel_rfl) rfl (by omega) (by omega)) ?_
     refine mL 15 8 3 (.slice (cad dat20 i) ((ck A i).length) ((ck A i).length)) (Calm.load (T := 22) (p := (Addr.add ax i)) (by kernel_rfl) (Loads.one (k := 1) (by kernel_rfl) (sls_cell (i := i) own_x rfl (by omega)))) ?_
     refine mL 31 24 4 (.string (ByteArray.mk (ck A i).toArray)) (Calm.strN (l := ck A i) rfl (by kernel_rfl) (ck_rowN hAl hN own_xd.row hia)) ?_
     refine mP 127 [5,6] [.slice (some ay) N vc24,nV i] ?_
     refine mF 255 7 (.pointer (some (Addr.add ay i))) (Calm.indexA (a := ay) (len := N) (sz := 1) (k := ((i : Nat) : Int)) i i (by kernel_rfl) rfl (by omega) (by omega)) ?_
     refine mL 511 280 8 (.slice (cad dat25 i) ((ck B i).length) ((ck B i).length)) (Calm.load (T := 22) (p := (Addr.add ay i)) (by kernel_rfl) (Loads.one (k := 1) (by kernel_rfl) (sls_cell (i := i) own_y rfl (by omega)))) ?_
     refine mL 1023 792 9 (.string (ByteArray.mk (ck B i).toArray)) (Calm.strN (l := ck B i) rfl (by kernel_rfl) (ck_rowN hBl hN own_yd.row hia)) ?_
     refine m1 2047 10 (.bool true) (.bool (!((ByteArray.mk (ck A i).toArray).toList == (ByteArray.mk (ck B i).toArray).toList))) (congrArg (fun z => Value.bool (!z)) (str_ne hck)) ?_
     refine mP 4095 [11] [.bool true] ?_
     refine mL 8191 4888 12 (.agg ((leafH (ck A i)).map bv).toArray) (Calm.load (T := 31) (p := ⟨h30.size,0,none⟩) (by kernel_rfl) (Loads.hash (by kernel_rfl) (leaf_len _) m33)) ?_
     refine mL 16383 13080 13 (.agg ((leafH (ck B i)).map bv).toArray) (Calm.load (T := 31) (p := ⟨h38.size,0,none⟩) (by kernel_rfl) (Loads.hash (by kernel_rfl) (leaf_len _) m41)) ?_
     refine mF 32767 14 (.bool true) (eqHT (q := true) (l := leafH (ck A i)) (r := leafH (ck B i)) (n := 32) (by kernel_rfl) (leaf_len _) (leaf_len _) hlf) ?_
     refine mP 65535 [15] [.bool true] ?_
     refine mD [(5,.bool true),(9,.slice (some ax) N vc19),(10,.slice (some ay) N vc24),(11,.bool un),(12,nV i),(13,pV h30.size),(14,pV h38.size),(86,.bool true)] ?_
     clear hF a; intro a hF
     refine tK ?_
     refine cT 86 hF ?_
     refine cS ?_
     refine cP 22 hF ?_
     refine sP 2 [.bool true,.bool true] ?_
     refine sD [(4,.bool true)] ?_
     clear hF a; intro a hF
     refine tK ?_
     refine cR ?_
     show retK Tryd.prog Tryd.f6 (fun v h' => v = .bool true ∧ Ext h h') .ret a h44
     refine ret_ok [.tmp 4] [.bool true] (.bool true) rfl hF ⟨rfl,trivial⟩ rfl ?_
     exact ⟨rfl,e0⟩
    ·skip
     refine cD [0,0,3,7,15,0,0,96,224,480,1023,2047,4095,4095,16383,32767] 21 mixed hF ?_
     refine mP 3 [0,1] [.slice (some ax) N vc19,nV i] ?_
     refine mF 7 2 (.pointer (some (Addr.add ax i))) (Calm.indexA (a := ax) (len := N) (sz := 1) (k := ((i : Nat) : Int)) i i (by kernel_rfl) rfl (by omega) (by omega)) ?_
     refine mL 15 8 3 (.slice (cad dat20 i) ((ck A i).length) ((ck A i).length)) (Calm.load (T := 22) (p := (Addr.add ax i)) (by kernel_rfl) (Loads.one (k := 1) (by kernel_rfl) (sls_cell (i := i) own_x rfl (by omega)))) ?_
     refine mL 31 24 4 (.string (ByteArray.mk (ck A i).toArray)) (Calm.strN (l := ck A i) rfl (by kernel_rfl) (ck_rowN hAl hN own_xd.row hia)) ?_
     refine mP 127 [5,6] [.slice (some ay) N vc24,nV i] ?_
     refine mF 255 7 (.pointer (some (Addr.add ay i))) (Calm.indexA (a := ay) (len := N) (sz := 1) (k := ((i : Nat) : Int)) i i (by kernel_rfl) rfl (by omega) (by omega)) ?_
     refine mL 511 280 8 (.slice (cad dat25 i) ((ck B i).length) ((ck B i).length)) (Calm.load (T := 22) (p := (Addr.add ay i)) (by kernel_rfl) (Loads.one (k := 1) (by kernel_rfl) (sls_cell (i := i) own_y rfl (by omega)))) ?_
     refine mL 1023 792 9 (.string (ByteArray.mk (ck B i).toArray)) (Calm.strN (l := ck B i) rfl (by kernel_rfl) (ck_rowN hBl hN own_yd.row hia)) ?_
     refine m1 2047 10 (.bool true) (.bool (!((ByteArray.mk (ck A i).toArray).toList == (ByteArray.mk (ck B i).toArray).toList))) (congrArg (fun z => Value.bool (!z)) (str_ne hck)) ?_
     refine mP 4095 [11] [.bool true] ?_
     refine mL 8191 4888 12 (.agg ((leafH (ck A i)).map bv).toArray) (Calm.load (T := 31) (p := ⟨h30.size,0,none⟩) (by kernel_rfl) (Loads.hash (by kernel_rfl) (leaf_len _) m33)) ?_
     refine mL 16383 13080 13 (.agg ((leafH (ck B i)).map bv).toArray) (Calm.load (T := 31) (p := ⟨h38.size,0,none⟩) (by kernel_rfl) (Loads.hash (by kernel_rfl) (leaf_len _) m41)) ?_
     refine mF 32767 14 (.bool false) (eqHF (q := true) (l := leafH (ck A i)) (r := leafH (ck B i)) (n := 32) (by kernel_rfl) (leaf_len _) (leaf_len _) hlf) ?_
     refine mP 65535 [15] [.bool false] ?_
     refine mD [(5,.bool true),(9,.slice (some ax) N vc19),(10,.slice (some ay) N vc24),(11,.bool un),(12,nV i),(13,pV h30.size),(14,pV h38.size),(86,.bool false)] ?_
     clear hF a; intro a hF
     refine tK ?_
     refine cF 86 hF ?_
     refine cN ?_
     refine tK ?_
     cases un
     ·skip
      have hun2 : (∀ j,j < i + 1 → ck A j = ck B j) ∨ true = true := .inr rfl
      refine cP 23 hF ?_
      refine sP 2 [.bool false,.bool false] ?_
      refine sC 3 (.agg ((leafH (ck A i)).map bv).toArray) (Calm.load (T := 31) (p := ⟨h30.size,0,none⟩) (by kernel_rfl) (Loads.hash (by kernel_rfl) (leaf_len _) m33)) ?_
      refine sC 4 (.agg ((leafH (ck B i)).map bv).toArray) (Calm.load (T := 31) (p := ⟨h38.size,0,none⟩) (by kernel_rfl) (Loads.hash (by kernel_rfl) (leaf_len _) m41)) ?_
      refine sC 5 (.bool true) ((eqHF (q := false) (l := leafH (ck A i)) (r := leafH (ck B i)) (n := 32) (by kernel_rfl) (leaf_len _) (leaf_len _) hlf) _) ?_
      refine sP 7 [.bool true,.bool true] ?_
      refine sD [(5,.bool true),(9,.slice (some ax) N vc19),(10,.slice (some ay) N vc24),(11,.bool true),(12,nV i)] ?_
      clear hF a; intro a hF
      show C Tryd.prog (sub b6 [1,1,1,1,1,1,1,1,1,1,1,1,1,0,1,0,0,1,1]) _ a h44
      refine cP 18 hF ?_
      refine sP 1 [nV i] ?_
      refine s1 2 (.int .i64 ((i + 1 : Nat) : Int)) (.int .i64 (IntKind.i64.wrap (((i : Nat) : Int) + 1))) (congrArg (Value.int .i64) (w64' (by omega) (by omega) (by omega))) ?_
      refine sP 3 [nV (i + 1)] ?_
      refine sD [(5,.bool true),(9,.slice (some ax) N vc19),(10,.slice (some ay) N vc24),(11,.bool true),(12,nV (i + 1))] ?_
      clear hF a; intro a hF
      clear m33 lt34 zs35
      clear m41 lt42 zs43
      replace sep := sep.sub (l' := [(some ay).map (·.block),dat25.map (·.block),(some ax).map (·.block),dat20.map (·.block)]) (.cons _ (.cons _ (.cons_cons _ (.cons_cons _ (.cons_cons _ (.cons_cons _ (.slnil)))))))
      show ∃ m',m' < _ ∧ _
      refine ⟨_,?_,(i + 1),true,rfl,e0,kt,(by omega),hun2,own_x,own_xd,own_y,own_yd,sep,hF⟩
      omega
     ·skip
      have hun2 : (∀ j,j < i + 1 → ck A j = ck B j) ∨ true = true := .inr rfl
      refine cP 23 hF ?_
      refine sP 7 [.bool true,.bool true,undef,undef,undef,.bool true,.bool true] ?_
      refine sD [(5,.bool true),(9,.slice (some ax) N vc19),(10,.slice (some ay) N vc24),(11,.bool true),(12,nV i)] ?_
      clear hF a; intro a hF
      show C Tryd.prog (sub b6 [1,1,1,1,1,1,1,1,1,1,1,1,1,0,1,0,0,1,1]) _ a h44
      refine cP 18 hF ?_
      refine sP 1 [nV i] ?_
      refine s1 2 (.int .i64 ((i + 1 : Nat) : Int)) (.int .i64 (IntKind.i64.wrap (((i : Nat) : Int) + 1))) (congrArg (Value.int .i64) (w64' (by omega) (by omega) (by omega))) ?_
      refine sP 3 [nV (i + 1)] ?_
      refine sD [(5,.bool true),(9,.slice (some ax) N vc19),(10,.slice (some ay) N vc24),(11,.bool true),(12,nV (i + 1))] ?_
      clear hF a; intro a hF
      clear m33 lt34 zs35
      clear m41 lt42 zs43
      replace sep := sep.sub (l' := [(some ay).map (·.block),dat25.map (·.block),(some ax).map (·.block),dat20.map (·.block)]) (.cons _ (.cons _ (.cons_cons _ (.cons_cons _ (.cons_cons _ (.cons_cons _ (.slnil)))))))
      show ∃ m',m' < _ ∧ _
      refine ⟨_,?_,(i + 1),true,rfl,e0,kt,(by omega),hun2,own_x,own_xd,own_y,own_yd,sep,hF⟩
      omega
   ·skip
    replace hc29 := of_decide_eq_false hc29
    obtain rfl : i = N := by omega
    obtain rfl := binds_end hAl hBl hN hAB hun
    refine cX 0 ?_
    show C Tryd.prog (sub b6 [1,1,1,1,1,1,1,1,1,1,1,1,1,1]) _ a h28
    refine cS ?_
    refine cP 24 hF ?_
    refine sP 5 [.bool true,.bool true,.bool true,.bool true,.bool true] ?_
    refine sD [(4,.bool true)] ?_
    clear hF a; intro a hF
    refine tK ?_
    refine cR ?_
    show retK Tryd.prog Tryd.f6 (fun v h' => v = .bool true ∧ Ext h h') .ret a h28
    refine ret_ok [.tmp 4] [.bool true] (.bool true) rfl hF ⟨rfl,trivial⟩ rfl ?_
    exact ⟨rfl,e0⟩
  ·skip
   refine cP 9 hF ?_
   refine sC 1 (.agg ((root (lch A N)).map bv).toArray) (Calm.load (T := 31) (p := ⟨h2.size,0,none⟩) (by kernel_rfl) (Loads.hash (by kernel_rfl) (root_len (lch_32 _ _)) m5)) ?_
   refine sC 2 (.agg ((root (lch B N)).map bv).toArray) (Calm.load (T := 31) (p := ⟨h10.size,0,none⟩) (by kernel_rfl) (Loads.hash (by kernel_rfl) (root_len (lch_32 _ _)) m13)) ?_
   refine sC 3 (.bool true) ((eqHF (q := false) (l := root (lch A N)) (r := root (lch B N)) (n := 32) (by kernel_rfl) (root_len (lch_32 _ _)) (root_len (lch_32 _ _)) hrr) _) ?_
   refine sD [(0,.slice va n vc),(1,.slice vb n vd),(5,.bool true),(44,.bool true)] ?_
   clear hF a; intro a hF
   refine tK ?_
   refine cT 44 hF ?_
   refine cS ?_
   refine cP 10 hF ?_
   refine sP 2 [.bool true,.bool true] ?_
   refine sD [(4,.bool true)] ?_
   clear hF a; intro a hF
   refine tK ?_
   refine cR ?_
   show retK Tryd.prog Tryd.f6 (fun v h' => v = .bool true ∧ Ext h h') .ret a h16
   refine ret_ok [.tmp 4] [.bool true] (.bool true) rfl hF ⟨rfl,trivial⟩ rfl ?_
   exact ⟨rfl,e0⟩
end Go.Proofs.YtkjlafiefgbjpaaDoor
