/- the law of what is due of any records: what it comes to. Conditions: those that each theorem names. -/
import Derived.Test.YtlghdimpgfhmcaaRetH
import Derived.Test.YtlghdimpgfhmcaaRetU
import Derived.Test.YtlghdimpgfhmcaaRetN
namespace Go.Proofs.Ytlghdimpgfhmcaa
open Go Go.Lane Go.Sha
theorem same_any (h : Heap) (r : Rec) (ok : RecOk h r) : Sat Try.prog 14 #[.agg (rcs r).toArray,.agg (rcs r).toArray] h fun v h' => v = .bool true ∧ Ext h h' := by
 obtain ⟨P,hP,hr,hn⟩ := ok
 obtain ⟨x,e,ho,go,ad,n,cap⟩ := r
 simp only at hP hr hn
 subst hP
 exact same_sat h x e ho go P ad cap hr hn ad cap hr
noncomputable def b6 : Code := Try.f6.body.getD .skip
set_option maxHeartbeats 1000000 in
theorem duelaw_sat (h : Heap) (L : List Rec) (va : Option Addr) (vc : Nat) (hr : Row h (.slice va L.length vc) L.length 39 (rrow L)) (hok : ∀ r ∈ L,RecOk h r) (hL : L.length ≤ 1099511627) (u : Int) : Sat Try.prog 6 #[.slice va L.length vc,.int .i64 u] h fun v h' => v = .bool true ∧ Ext h h' := by
 have e0 := Ext.refl h
 have sep : Sep h.size h.size [] := Sep.nil _ _
 refine sat_of (args := [.slice va L.length vc,.int .i64 u]) (fn := Try.f6) (B := b6) (n := 60) (L := [(0,.slice va L.length vc),(1,.int .i64 u)]) Try.func6 rfl (by kernel_rfl) rfl ?_
 intro a hF
 refine cS ?_
 refine cP 0 hF ?_
 refine sP 1 [.bool false] ?_
 refine sD [(0,.slice va L.length vc),(1,.int .i64 u)] ?_
 clear hF a; intro a hF
 refine tK ?_
 refine cS ?_
 refine cP 1 hF ?_
 refine SeqK.eff (k' := 1) (Does.call (f := 10) (args := #[]) (by kernel_rfl) (shown_sat _)) rfl ?_
 rintro _ h1 ⟨rfl,g⟩
 replace e0 := e0.ext g
 replace sep := sep.up g.size
 clear g
 refine sP 2 [.bool true] ?_
 refine sD [(0,.slice va L.length vc),(1,.int .i64 u),(5,.bool true)] ?_
 clear hF a; intro a hF
 refine tK ?_
 refine cS ?_
 refine cS ?_
 refine cP 2 hF ?_
 refine sP 2 [.bool true,.bool false] ?_
 refine sD [(0,.slice va L.length vc),(1,.int .i64 u),(5,.bool true),(13,.bool false)] ?_
 clear hF a; intro a hF
 refine tK ?_
 refine cF 13 hF ?_
 refine cN ?_
 refine tK ?_
 refine cS ?_
 refine cP 4 hF ?_
 refine SeqK.eff (k' := 1) (Does.new (v := .slice (some ⟨h1.size,0,none⟩) 0 0) (o := .cells #[] 26) (by kernel_rfl)) rfl ?_
 rintro _ h2 ⟨rfl,hh⟩
 have g3 : Ext h1 h2 := push_ext hh
 have m4 : h2[h1.size]? = some (.cells #[] 26) := push_at hh
 clear hh
 have lt5 := blk_lt m4
 have zs6 := e0.size
 have hlo := e0.size
 have sepo := sep
 replace e0 := e0.ext g3
 replace sep := sep.up g3.size
 replace sep := sepo.new hlo (blk_lt m4)
 clear sepo hlo
 have own_c : Own h2 (.slice (some ⟨h1.size,0,none⟩) 0 0) 26 ([] : List Rec).length 39 (rrow []) := Own.empty 39 m4
 replace sep : Sep h.size h2.size [(some ⟨h1.size,0,none⟩ : Option Addr).map (·.block)] := sep
 clear m4 lt5 zs6
 refine sP 2 [.slice va L.length vc] ?_
 refine SeqK.eff (k' := 3) (Does.append2 (t := 37) (E := 26) (sz := 39) (by_ := 104) (n := 0) (m := L.length) (v := .slice (some ⟨h1.size,0,none⟩) 0 0) (x := .slice va L.length vc) (xs := (rrow ([]))) (ys := (rrow L)) (by kernel_rfl) (by kernel_rfl) own_c (hr.ext e0) (rrow_one _) (by unfold maxLen; omega) (by omega)) rfl ?_
 rintro _ h9 ⟨ad7,cap8,rfl,ownx,g,hb⟩
 rw [blkOf_slice] at g hb
 have hlo := e0.size
 have sepo := sep
 replace e0 := e0.grew g (sep.low 0 rfl)
 replace sep := sep.up g.size
 replace sep : Sep h.size h9.size [ad7.map (·.block)] := sepo.set g.size hlo 0 (y := ad7.map (fun (x : Addr) => x.block)) rfl (hb.imp id fun e => .inr ⟨_,e,Nat.le_refl _⟩) (fun k e => ownx.lt (by rw [blkOf_slice]; exact e))
 replace own_c : Own h9 (.slice ad7 L.length cap8) 26 L.length 39 (rrow L) := Own.appG ownx (by first | rfl | exact List.flatMap_append.symm | simp [rrow]) (by first | rfl | (simp; done) | (simp; omega))
 clear ownx g hb hlo sepo
 refine sP 4 [.slice ad7 (0 + L.length) cap8] ?_
 refine sD [(0,.slice va L.length vc),(1,.int .i64 u),(5,.bool true),(6,.slice ad7 (0 + L.length) cap8)] ?_
 clear hF a; intro a hF
 have hcan : (0 + L.length : Nat) = L.length := by first | (simp; done) | (simp; omega)
 rw [hcan] at hF; clear hcan
 refine tK ?_
 refine cS ?_
 refine cP 5 hF ?_
 refine sP 2 [.slice ad7 L.length cap8,.int .i64 u] ?_
 refine SeqK.eff (k' := 3) (Does.call (f := 20) (args := #[.slice ad7 L.length cap8,.int .i64 u]) (by kernel_rfl) (due_sat _ L _ _ u 1099511627776 sorts_all own_c.row (by omega) (fun r hm => (hok r hm).ext e0) (Nat.le_trans (List.length_filter_le _ _) (by omega)))) rfl ?_
 rintro _ h12 ⟨M,ad10,cap11,hP,hS,rfl,ownx,hge,g⟩
 have hlo := e0.size
 have sepo := sep
 replace e0 := e0.ext g
 replace own_c := own_c.ext g
 replace sep := sep.up g.size
 replace sep := sepo.cons (x := ad10.map (fun (x : Addr) => x.block)) g.size hlo (fun k e => ⟨hge k e,ownx.lt (by rw [blkOf_slice]; exact e)⟩)
 have own_a := ownx; clear ownx sepo hlo hge g
 refine sP 4 [.slice ad10 M.length cap11] ?_
 refine sD [(0,.slice va L.length vc),(1,.int .i64 u),(5,.bool true),(6,.slice ad7 L.length cap8),(7,.slice ad10 M.length cap11)] ?_
 clear hF a; intro a hF
 refine tK ?_
 refine cS ?_
 refine cP 6 hF ?_
 refine sP 2 [.slice va L.length vc,.int .i64 u] ?_
 refine SeqK.eff (k' := 3) (Does.call (f := 21) (args := #[.slice va L.length vc,.int .i64 u]) (by kernel_rfl) (rdue_sat _ L _ _ u (hr.ext e0) (by omega))) rfl ?_
 rintro _ h15 ⟨K,ad13,cap14,hP2,hS2,rfl,ownx,hge,g⟩
 have hlo := e0.size
 have sepo := sep
 replace e0 := e0.ext g
 replace own_c := own_c.ext g
 replace own_a := own_a.ext g
 replace sep := sep.up g.size
 replace sep := sepo.cons (x := ad13.map (fun (x : Addr) => x.block)) g.size hlo (fun k e => ⟨hge k e,ownx.lt (by rw [blkOf_slice]; exact e)⟩)
 have own_b := ownx; clear ownx sepo hlo hge g
 refine sP 4 [.slice ad13 K.length cap14] ?_
 refine sD [(0,.slice va L.length vc),(5,.bool true),(6,.slice ad7 L.length cap8),(7,.slice ad10 M.length cap11),(8,.slice ad13 K.length cap14)] ?_
 clear hF a; intro a hF
 have hids := ids_eq (hP.trans hP2.symm) hS hS2
 have hlen : K.length = M.length := (hP2.trans hP.symm).length_eq
 rw [hlen] at own_b hF; rw [← hids] at own_b
 have hMl : M.length ≤ L.length := by rw [hP.length_eq]; exact List.length_filter_le _ _
 refine tK ?_
 refine cS ?_
 refine cS ?_
 refine cP 7 hF ?_
 refine sP 4 [.slice ad10 M.length cap11,nV M.length,.slice ad13 M.length cap14,nV M.length] ?_
 refine s1 5 (.bool false) (.bool (!(((M.length : Nat) : Int) == ((M.length : Nat) : Int)))) (congrArg (fun b => Value.bool (!b)) (beq_iff_eq.2 (by omega))) ?_
 refine sD [(0,.slice va L.length vc),(5,.bool true),(6,.slice ad7 L.length cap8),(7,.slice ad10 M.length cap11),(8,.slice ad13 M.length cap14),(27,.bool false)] ?_
 clear hF a; intro a hF
 refine tK ?_
 refine cF 27 hF ?_
 refine cN ?_
 refine tK ?_
 refine cS ?_
 refine cS ?_
 refine cP 9 hF ?_
 refine sP 1 [.int .i64 0] ?_
 refine sD [(0,.slice va L.length vc),(5,.bool true),(6,.slice ad7 L.length cap8),(7,.slice ad10 M.length cap11),(8,.slice ad13 M.length cap14),(9,.int .i64 0)] ?_
 clear hF a; intro a hF
 refine tK ?_
 refine cB 0 ?_
 replace sep := sep.sub (l' := [ad13.map (·.block),ad10.map (·.block),ad7.map (·.block)]) (.cons_cons _ (.cons_cons _ (.cons_cons _ (.slnil))))
 refine C.loop (fun m a h' => ∃ i : Nat,m = M.length - i ∧ (Ext h h') ∧ (i ≤ M.length) ∧ (Own h' (.slice ad10 M.length cap11) 9 M.length 1 ((ids M).map Value.string)) ∧ (Own h' (.slice ad13 M.length cap14) 9 M.length 1 ((ids M).map Value.string)) ∧ (Own h' (.slice ad7 L.length cap8) 26 L.length 39 (rrow L)) ∧ (Sep h.size h'.size [ad13.map (·.block),ad10.map (·.block),ad7.map (·.block)]) ∧ (Fr a 60 [(0,.slice va L.length vc),(5,.bool true),(6,.slice ad7 L.length cap8),(7,.slice ad10 M.length cap11),(8,.slice ad13 M.length cap14),(9,.int .i64 ((i : Nat) : Int))])) (M.length - 0) [1,1,1,1,1,1,1,0,1,0,0] (by kernel_rfl) ⟨0,rfl,e0,(by omega),own_a,own_b,own_c,sep,hF⟩ ?_
 clear hF a
 clear e0
 clear own_a
 clear own_b
 clear own_c
 clear sep
 rintro m a h16 ⟨i,rfl,e0,hi,own_a,own_b,own_c,sep,hF⟩
 refine cS ?_
 refine cS ?_
 refine cP 10 hF ?_
 refine sP 4 [nV i,.slice ad10 M.length cap11,nV M.length,.bool (decide (((i : Nat) : Int) < ((M.length : Nat) : Int)))] ?_
 refine sD [(0,.slice va L.length vc),(5,.bool true),(6,.slice ad7 L.length cap8),(7,.slice ad10 M.length cap11),(8,.slice ad13 M.length cap14),(9,nV i),(31,.bool (decide (((i : Nat) : Int) < ((M.length : Nat) : Int))))] ?_
 clear hF a; intro a hF
 refine tK ?_
 refine cC 31 (decide (((i : Nat) : Int) < ((M.length : Nat) : Int))) hF (fun hc17 => ?_) (fun hc17 => ?_)
 ·skip
  replace hc17 := of_decide_eq_true hc17
  have hia : i < M.length := by omega
  obtain ⟨aa,rfl,hcap_aa⟩ := own_a.someA (by omega)
  obtain ⟨ab,rfl,hcap_ab⟩ := own_b.someA (by omega)
  refine cN ?_
  refine tK ?_
  refine cS ?_
  refine cB 1 ?_
  refine cS ?_
  refine cD [0,0,3,7,0,0,48,112,255] 12 mixed hF ?_
  refine mP 3 [0,1] [.slice (some aa) M.length cap11,nV i] ?_
  refine mF 7 2 (.pointer (some (Addr.add aa i))) (Calm.indexA (a := aa) (len := M.length) (sz := 1) (k := ((i : Nat) : Int)) i i (by kernel_rfl) rfl (by omega) (by omega)) ?_
  refine mL 15 8 3 (.string ((ids M).getD i ByteArray.empty)) (Calm.load (T := 9) (p := (Addr.add aa i)) (by kernel_rfl) (Loads.one (k := 1) (by kernel_rfl) (Row.str own_a.row (by rw [ids_len]; omega)))) ?_
  refine mP 63 [4,5] [.slice (some ab) M.length cap14,nV i] ?_
  refine mF 127 6 (.pointer (some (Addr.add ab i))) (Calm.indexA (a := ab) (len := M.length) (sz := 1) (k := ((i : Nat) : Int)) i i (by kernel_rfl) rfl (by omega) (by omega)) ?_
  refine mL 255 136 7 (.string ((ids M).getD i ByteArray.empty)) (Calm.load (T := 9) (p := (Addr.add ab i)) (by kernel_rfl) (Loads.one (k := 1) (by kernel_rfl) (Row.str own_b.row (by rw [ids_len]; omega)))) ?_
  refine m1 511 8 (.bool false) (.bool (!(((ids M).getD i ByteArray.empty).toList == ((ids M).getD i ByteArray.empty).toList))) (congrArg Value.bool (by simp)) ?_
  refine mD [(0,.slice va L.length vc),(5,.bool true),(6,.slice ad7 L.length cap8),(7,.slice (some aa) M.length cap11),(8,.slice (some ab) M.length cap14),(9,nV i),(42,.bool false)] ?_
  clear hF a; intro a hF
  refine tK ?_
  refine cF 42 hF ?_
  refine cN ?_
  show C Try.prog (sub b6 [1,1,1,1,1,1,1,0,1,0,0,1,1]) _ a h16
  refine cP 11 hF ?_
  refine sP 1 [nV i] ?_
  refine s1 2 (.int .i64 ((i + 1 : Nat) : Int)) (.int .i64 (IntKind.i64.wrap (((i : Nat) : Int) + 1))) (congrArg (Value.int .i64) (w64' (by omega) (by omega) (by omega))) ?_
  refine sP 3 [nV (i + 1)] ?_
  refine sD [(0,.slice va L.length vc),(5,.bool true),(6,.slice ad7 L.length cap8),(7,.slice (some aa) M.length cap11),(8,.slice (some ab) M.length cap14),(9,nV (i + 1))] ?_
  clear hF a; intro a hF
  show ∃ m',m' < _ ∧ _
  refine ⟨_,?_,(i + 1),rfl,e0,(by omega),own_a,own_b,own_c,sep,hF⟩
  omega
 ·skip
  replace hc17 := of_decide_eq_false hc17
  refine cX 0 ?_
  show C Try.prog (sub b6 [1,1,1,1,1,1,1,1]) _ a h16
  refine cS ?_
  refine cS ?_
  refine cP 14 hF ?_
  refine sP 1 [.int .i64 0] ?_
  refine sD [(0,.slice va L.length vc),(5,.bool true),(6,.slice ad7 L.length cap8),(10,.int .i64 0)] ?_
  clear hF a; intro a hF
  refine tK ?_
  refine cB 2 ?_
  replace sep := sep.sub (l' := [ad7.map (·.block)]) (.cons _ (.cons _ (.cons_cons _ (.slnil))))
  refine C.loop (fun m a h' => ∃ i : Nat,m = L.length - i ∧ (Ext h h') ∧ (i ≤ L.length) ∧ (Own h' (.slice ad7 L.length cap8) 26 L.length 39 (rrow L)) ∧ (Sep h.size h'.size [ad7.map (·.block)]) ∧ (Fr a 60 [(0,.slice va L.length vc),(5,.bool true),(6,.slice ad7 L.length cap8),(10,.int .i64 ((i : Nat) : Int))])) (L.length - 0) [1,1,1,1,1,1,1,1,0,1,0,0] (by kernel_rfl) ⟨0,rfl,e0,(by omega),own_c,sep,hF⟩ ?_
  clear hF a
  clear e0
  clear own_c
  clear sep
  rintro m a h18 ⟨i,rfl,e0,hi,own_c,sep,hF⟩
  refine cS ?_
  refine cS ?_
  refine cP 15 hF ?_
  refine sP 4 [nV i,.slice va L.length vc,nV L.length,.bool (decide (((i : Nat) : Int) < ((L.length : Nat) : Int)))] ?_
  refine sD [(0,.slice va L.length vc),(5,.bool true),(6,.slice ad7 L.length cap8),(10,nV i),(46,.bool (decide (((i : Nat) : Int) < ((L.length : Nat) : Int))))] ?_
  clear hF a; intro a hF
  refine tK ?_
  refine cC 46 (decide (((i : Nat) : Int) < ((L.length : Nat) : Int))) hF (fun hc19 => ?_) (fun hc19 => ?_)
  ·skip
   replace hc19 := of_decide_eq_true hc19
   have hia : i < L.length := by omega
   obtain ⟨ac,rfl,hcap_ac⟩ := own_c.someA (by omega)
   obtain ⟨av,rfl,hcap_av⟩ := hr.someA (by omega)
   refine cN ?_
   refine tK ?_
   refine cS ?_
   refine cB 3 ?_
   refine cS ?_
   refine cD [0,0,3,7,0,0,48,112,255,511] 17 mixed hF ?_
   refine mP 3 [0,1] [.slice (some ac) L.length cap8,nV i] ?_
   refine mF 7 2 (.pointer (some (Addr.add ac (i * 39)))) (Calm.indexA (a := ac) (len := L.length) (sz := 39) (k := ((i : Nat) : Int)) i (i * 39) (by kernel_rfl) rfl (by omega) (by omega)) ?_
   refine mL 15 8 3 (.agg (rcs (L.getD i rec0)).toArray) (Calm.load (T := 26) (p := (Addr.add ac (i * 39))) (by kernel_rfl) (Row.fm (d := rec0) (i := i) rcs_len (own_c.row) (by kernel_rfl) (by omega) (by omega))) ?_
   refine mP 63 [4,5] [.slice (some av) L.length vc,nV i] ?_
   refine mF 127 6 (.pointer (some (Addr.add av (i * 39)))) (Calm.indexA (a := av) (len := L.length) (sz := 39) (k := ((i : Nat) : Int)) i (i * 39) (by kernel_rfl) rfl (by omega) (by omega)) ?_
   refine mL 255 136 7 (.agg (rcs (L.getD i rec0)).toArray) (Calm.load (T := 26) (p := (Addr.add av (i * 39))) (by kernel_rfl) (Row.fm (d := rec0) (i := i) rcs_len (hr.ext e0) (by kernel_rfl) (by omega) (by omega))) ?_
   refine SimK.eff0 (i := 8) (D' := 511) (X' := 511) (by kernel_rfl) (by kernel_rfl) (by kernel_rfl) (by kernel_rfl) (Does.call (f := 14) (args := #[.agg (rcs (L.getD i rec0)).toArray,.agg (rcs (L.getD i rec0)).toArray]) (by kernel_rfl) (same_any _ (L.getD i rec0) ((hok _ (getD_mem hia)).ext e0))) ?_
   rintro _ h20 ⟨rfl,g⟩
   replace e0 := e0.ext g
   replace own_c := own_c.ext g
   replace sep := sep.up g.size
   clear g
   refine mP 1023 [9] [.bool false] ?_
   refine mD [(0,.slice (some av) L.length vc),(5,.bool true),(6,.slice (some ac) L.length cap8),(10,nV i),(58,.bool false)] ?_
   clear hF a; intro a hF
   refine tK ?_
   refine cF 58 hF ?_
   refine cN ?_
   show C Try.prog (sub b6 [1,1,1,1,1,1,1,1,0,1,0,0,1,1]) _ a h20
   refine cP 16 hF ?_
   refine sP 1 [nV i] ?_
   refine s1 2 (.int .i64 ((i + 1 : Nat) : Int)) (.int .i64 (IntKind.i64.wrap (((i : Nat) : Int) + 1))) (congrArg (Value.int .i64) (w64' (by omega) (by omega) (by omega))) ?_
   refine sP 3 [nV (i + 1)] ?_
   refine sD [(0,.slice (some av) L.length vc),(5,.bool true),(6,.slice (some ac) L.length cap8),(10,nV (i + 1))] ?_
   clear hF a; intro a hF
   show ∃ m',m' < _ ∧ _
   refine ⟨_,?_,(i + 1),rfl,e0,(by omega),own_c,sep,hF⟩
   omega
  ·skip
   replace hc19 := of_decide_eq_false hc19
   refine cX 2 ?_
   show C Try.prog (sub b6 [1,1,1,1,1,1,1,1,1]) _ a h18
   refine cS ?_
   refine cP 19 hF ?_
   refine sP 2 [.bool true,.bool true] ?_
   refine sD [(4,.bool true)] ?_
   clear hF a; intro a hF
   refine tK ?_
   refine cR ?_
   show retK Try.prog Try.f6 (fun v h' => v = .bool true ∧ Ext h h') .ret a h18
   refine ret_ok [.tmp 4] [.bool true] (.bool true) rfl hF ⟨rfl,trivial⟩ rfl ?_
   exact ⟨rfl,e0⟩
end Go.Proofs.Ytlghdimpgfhmcaa
