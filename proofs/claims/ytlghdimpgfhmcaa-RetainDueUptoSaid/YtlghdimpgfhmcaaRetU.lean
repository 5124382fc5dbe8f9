/- the document's Due: what it comes to. Conditions: those that each theorem names. -/
import Derived.Test.YtlghdimpgfhmcaaRetE
import Derived.Test.YtlghdimpgfhmcaaRetDue
namespace Go.Proofs.Ytlghdimpgfhmcaa
open Go Go.Lane Go.Sha
noncomputable def b21 : Code := Try.f21.body.getD .skip
set_option maxHeartbeats 2000000 in
theorem rdue_sat (h : Heap) (L : List Rec) (va : Option Addr) (vc : Nat) (now : Int) (hr : Row h (.slice va L.length vc) L.length 39 (rrow L)) (hL : L.length ≤ 1099511627) : Sat Try.prog 21 #[.slice va L.length vc,.int .i64 now] h fun v h' => ∃ (M : List Rec) (ad : Option Addr) (cap : Nat),M.Perm (L.filter (dueB now)) ∧ M.Pairwise leR ∧ v = .slice ad M.length cap ∧ Own h' (.slice ad M.length cap) 9 M.length 1 ((ids M).map Value.string) ∧ (∀ k,ad.map (fun (x : Addr) => x.block) = some k → h.size ≤ k) ∧ Ext h h' := by
 have e0 := Ext.refl h
 have sep : Sep h.size h.size [] := Sep.nil _ _
 refine sat_of (args := [.slice va L.length vc,.int .i64 now]) (fn := Try.f21) (B := b21) (n := 114) (L := [(0,.slice va L.length vc),(1,.int .i64 now)]) Try.func21 rfl (by kernel_rfl) rfl ?_
 intro a hF
 refine cS ?_
 refine cP 0 hF ?_
 refine sP 1 [.slice none 0 0] ?_
 refine sD [(0,.slice va L.length vc),(1,.int .i64 now)] ?_
 clear hF a; intro a hF
 refine tK ?_
 refine cS ?_
 refine cP 1 hF ?_
 refine SeqK.eff (k' := 1) (Does.new (v := .slice (some ⟨h.size,0,none⟩) 0 0) (o := .cells #[] 26) (by kernel_rfl)) rfl ?_
 rintro _ h1 ⟨rfl,hh⟩
 have g2 : Ext h h1 := push_ext hh
 have m3 : h1[h.size]? = some (.cells #[] 26) := push_at hh
 clear hh
 have lt4 := blk_lt m3
 have zs5 := e0.size
 have hlo := e0.size
 have sepo := sep
 replace e0 := e0.ext g2
 replace sep := sep.up g2.size
 replace sep := sepo.new hlo (blk_lt m3)
 clear sepo hlo
 have own_o : Own h1 (.slice (some ⟨h.size,0,none⟩) 0 0) 26 ([] : List Rec).length 39 (rrow []) := Own.empty 39 m3
 replace sep : Sep h.size h1.size [(some ⟨h.size,0,none⟩ : Option Addr).map (·.block)] := sep
 clear m3 lt4 zs5
 refine sP 2 [.slice (some ⟨h.size,0,none⟩) 0 0] ?_
 refine sD [(0,.slice va L.length vc),(1,.int .i64 now),(5,.slice (some ⟨h.size,0,none⟩) 0 0)] ?_
 clear hF a; intro a hF
 refine tK ?_
 refine cS ?_
 refine cS ?_
 refine cP 2 hF ?_
 refine sP 1 [.int .i64 0] ?_
 refine sD [(0,.slice va L.length vc),(1,.int .i64 now),(5,.slice (some ⟨h.size,0,none⟩) 0 0),(6,.int .i64 0)] ?_
 clear hF a; intro a hF
 refine tK ?_
 refine cB 0 ?_
 refine C.loop (fun m a h' => ∃ i : Nat,∃ D : List Rec,∃ ad : Option Addr,∃ cap : Nat,m = L.length - i ∧ (Ext h h') ∧ (i ≤ L.length) ∧ ((L.take i).filter (dueB now) = D) ∧ (Own h' (.slice ad D.length cap) 26 D.length 39 (rrow D)) ∧ (Sep h.size h'.size [ad.map (·.block)]) ∧ (Fr a 114 [(0,.slice va L.length vc),(1,.int .i64 now),(5,.slice ad D.length cap),(6,.int .i64 ((i : Nat) : Int))])) (L.length - 0) [1,1,0,1,0,0] (by kernel_rfl) ⟨0,[],(some ⟨h.size,0,none⟩),0,rfl,e0,(by omega),rfl,own_o,sep,hF⟩ ?_
 clear hF a
 clear e0
 clear own_o
 clear sep
 rintro m a h6 ⟨i,D,ad,cap,rfl,e0,hi,hD,own_o,sep,hF⟩
 refine cS ?_
 refine cS ?_
 refine cP 3 hF ?_
 refine sP 4 [nV i,.slice va L.length vc,nV L.length,.bool (decide (((i : Nat) : Int) < ((L.length : Nat) : Int)))] ?_
 refine sD [(0,.slice va L.length vc),(1,.int .i64 now),(5,.slice ad D.length cap),(6,nV i),(16,.bool (decide (((i : Nat) : Int) < ((L.length : Nat) : Int))))] ?_
 clear hF a; intro a hF
 refine tK ?_
 refine cC 16 (decide (((i : Nat) : Int) < ((L.length : Nat) : Int))) hF (fun hc7 => ?_) (fun hc7 => ?_)
 ·skip
  replace hc7 := of_decide_eq_true hc7
  have hia : i < L.length := by omega
  have hDl := filt_le hD
  obtain ⟨aa,rfl,hcap_aa⟩ := hr.someA (by omega)
  refine cN ?_
  refine tK ?_
  refine cS ?_
  refine cB 1 ?_
  refine cS ?_
  rcases Bool.eq_false_or_eq_true (L.getD i rec0).go with hgo | hgo
  rotate_left 1
  rcases Bool.eq_false_or_eq_true (L.getD i rec0).ho with hho | hho
  rotate_left 1
  rcases Int.lt_or_le 0 (L.getD i rec0).e with hpos | hpos
  rcases Int.lt_or_le now (L.getD i rec0).e with hnow | hnow
  rotate_left 1
  ·skip
   have hD2 := tf_yes hia hD (dueB_iff.2 ⟨hpos,hgo,hho,hnow⟩)
   refine cP 5 hF ?_
   refine sP 2 [.slice (some aa) L.length vc,nV i] ?_
   refine sC 3 (.pointer (some (Addr.add aa (i * 39)))) ((Calm.indexA (a := aa) (len := L.length) (sz := 39) (k := ((i : Nat) : Int)) i (i * 39) (by kernel_rfl) rfl (by omega) (by omega)) _) ?_
   refine s1 4 (.pointer (some (Addr.add aa ((i * 39) + 37)))) (.pointer (some ((Addr.add aa (i * 39)).add 37))) (by rw [add_add]) ?_
   refine sC 5 (.bool false) (Calm.load (T := 4) (p := (Addr.add aa ((i * 39) + 37))) (by kernel_rfl) (Loads.one (k := 1) (by kernel_rfl) ((Row.fld (i := i) (j := 37) (u := .bool ((L.getD i rec0).go)) (hr.ext e0) (by omega) rfl).trans (by rw [hgo])))) ?_
   refine sP 9 [.bool true,.bool true,.slice (some aa) L.length vc,nV i] ?_
   refine sC 10 (.pointer (some (Addr.add aa (i * 39)))) ((Calm.indexA (a := aa) (len := L.length) (sz := 39) (k := ((i : Nat) : Int)) i (i * 39) (by kernel_rfl) rfl (by omega) (by omega)) _) ?_
   refine s1 11 (.pointer (some (Addr.add aa ((i * 39) + 36)))) (.pointer (some ((Addr.add aa (i * 39)).add 36))) (by rw [add_add]) ?_
   refine sC 12 (.bool false) (Calm.load (T := 4) (p := (Addr.add aa ((i * 39) + 36))) (by kernel_rfl) (Loads.one (k := 1) (by kernel_rfl) ((Row.fld (i := i) (j := 36) (u := .bool ((L.getD i rec0).ho)) (hr.ext e0) (by omega) rfl).trans (by rw [hho])))) ?_
   refine sP 17 [.bool true,.bool true,.bool true,.slice (some aa) L.length vc,nV i] ?_
   refine sC 18 (.pointer (some (Addr.add aa (i * 39)))) ((Calm.indexA (a := aa) (len := L.length) (sz := 39) (k := ((i : Nat) : Int)) i (i * 39) (by kernel_rfl) rfl (by omega) (by omega)) _) ?_
   refine s1 19 (.pointer (some (Addr.add aa ((i * 39) + 35)))) (.pointer (some ((Addr.add aa (i * 39)).add 35))) (by rw [add_add]) ?_
   refine sC 20 (.int .i64 ((L.getD i rec0).e)) (Calm.load (T := 3) (p := (Addr.add aa ((i * 39) + 35))) (by kernel_rfl) (Loads.one (k := 1) (by kernel_rfl) (Row.fld (i := i) (j := 35) (u := .int .i64 ((L.getD i rec0).e)) (hr.ext e0) (by omega) rfl))) ?_
   refine s1 21 (.bool true) (.bool (decide ((0 : Int) < ((L.getD i rec0).e)))) (congrArg Value.bool (decide_eq_true (by omega))) ?_
   refine sP 25 [.bool true,.bool true,.slice (some aa) L.length vc,nV i] ?_
   refine sC 26 (.pointer (some (Addr.add aa (i * 39)))) ((Calm.indexA (a := aa) (len := L.length) (sz := 39) (k := ((i : Nat) : Int)) i (i * 39) (by kernel_rfl) rfl (by omega) (by omega)) _) ?_
   refine s1 27 (.pointer (some (Addr.add aa ((i * 39) + 35)))) (.pointer (some ((Addr.add aa (i * 39)).add 35))) (by rw [add_add]) ?_
   refine sC 28 (.int .i64 ((L.getD i rec0).e)) (Calm.load (T := 3) (p := (Addr.add aa ((i * 39) + 35))) (by kernel_rfl) (Loads.one (k := 1) (by kernel_rfl) (Row.fld (i := i) (j := 35) (u := .int .i64 ((L.getD i rec0).e)) (hr.ext e0) (by omega) rfl))) ?_
   refine sP 29 [.int .i64 now] ?_
   refine s1 30 (.bool true) (.bool (decide (((L.getD i rec0).e) ≤ now))) (congrArg Value.bool (decide_eq_true (by omega))) ?_
   refine sP 31 [.bool true] ?_
   refine sD [(0,.slice (some aa) L.length vc),(1,.int .i64 now),(5,.slice ad D.length cap),(6,nV i),(49,.bool true)] ?_
   clear hF a; intro a hF
   refine tK ?_
   refine cT 49 hF ?_
   refine cP 6 hF ?_
   refine sP 3 [.slice ad D.length cap,.slice (some aa) L.length vc,nV i] ?_
   refine sC 4 (.pointer (some (Addr.add aa (i * 39)))) ((Calm.indexA (a := aa) (len := L.length) (sz := 39) (k := ((i : Nat) : Int)) i (i * 39) (by kernel_rfl) rfl (by omega) (by omega)) _) ?_
   refine sC 5 (.agg (rcs (L.getD i rec0)).toArray) (Calm.load (T := 26) (p := (Addr.add aa (i * 39))) (by kernel_rfl) (Row.fm (d := rec0) (i := i) rcs_len (hr.ext e0) (by kernel_rfl) (by omega) (by omega))) ?_
   refine SeqK.eff (k' := 6) (Does.new (v := .slice (some ⟨h6.size,0,none⟩) 1 1) (o := .cells (rrow [L.getD i rec0]).toArray 26) (by kernel_rfl)) rfl ?_
   rintro _ h8 ⟨rfl,hh⟩
   have g9 : Ext h6 h8 := push_ext hh
   have m10 : h8[h6.size]? = some (.cells (rrow [L.getD i rec0]).toArray 26) := push_at hh
   clear hh
   have lt11 := blk_lt m10
   have zs12 := e0.size
   have hlo := e0.size
   have sepo := sep
   replace e0 := e0.ext g9
   replace own_o := own_o.ext g9
   replace sep := sep.up g9.size
   replace sep := sepo.new hlo (blk_lt m10)
   clear sepo hlo
   refine SeqK.eff (k' := 7) (Does.append2 (t := 37) (E := 26) (sz := 39) (by_ := 104) (n := D.length) (m := 1) (v := .slice ad D.length cap) (x := .slice (some ⟨h6.size,0,none⟩) 1 1) (xs := (rrow D)) (ys := (rrow ([L.getD i rec0]))) (by kernel_rfl) (by kernel_rfl) own_o (Row.blk (n := 1) (sz := 39) (l := rrow [L.getD i rec0]) m10 rfl) (rrow_one _) (by unfold maxLen; omega) (by omega)) rfl ?_
   rintro _ h15 ⟨ad13,cap14,rfl,ownx,g,hb⟩
   rw [blkOf_slice] at g hb
   have hlo := e0.size
   have sepo := sep
   replace e0 := e0.grew g (sep.low 1 rfl)
   replace m10 := Grew.blk g m10 ((sep.bp 0 1))
   replace sep := sep.up g.size
   replace sep : Sep h.size h15.size [some (h6.size),ad13.map (·.block)] := sepo.set g.size hlo 1 (y := ad13.map (fun (x : Addr) => x.block)) rfl (hb.imp id fun e => .inr ⟨_,e,Nat.le_refl _⟩) (fun k e => ownx.lt (by rw [blkOf_slice]; exact e))
   replace own_o : Own h15 (.slice ad13 ((D ++ [L.getD i rec0]).length) cap14) 26 ((D ++ [L.getD i rec0]).length) 39 (rrow (D ++ [L.getD i rec0])) := Own.appG ownx (by first | rfl | exact List.flatMap_append.symm | simp [rrow]) (by first | rfl | (simp; done) | (simp; omega))
   clear ownx g hb hlo sepo
   refine sP 8 [.slice ad13 (D.length + 1) cap14] ?_
   refine sD [(0,.slice (some aa) L.length vc),(1,.int .i64 now),(5,.slice ad13 (D.length + 1) cap14),(6,nV i)] ?_
   clear hF a; intro a hF
   have hcan : (D.length + 1 : Nat) = (D ++ [L.getD i rec0]).length := by first | (simp; done) | (simp; omega)
   rw [hcan] at hF; clear hcan
   show C Try.prog (sub b21 [1,1,0,1,0,0,1,1]) _ a h15
   refine cP 4 hF ?_
   refine sP 1 [nV i] ?_
   refine s1 2 (.int .i64 ((i + 1 : Nat) : Int)) (.int .i64 (IntKind.i64.wrap (((i : Nat) : Int) + 1))) (congrArg (Value.int .i64) (w64' (by omega) (by omega) (by omega))) ?_
   refine sP 3 [nV (i + 1)] ?_
   refine sD [(0,.slice (some aa) L.length vc),(1,.int .i64 now),(5,.slice ad13 ((D ++ [L.getD i rec0]).length) cap14),(6,nV (i + 1))] ?_
   clear hF a; intro a hF
   clear m10 lt11 zs12
   replace sep := sep.sub (l' := [ad13.map (·.block)]) (.cons _ (.cons_cons _ (.slnil)))
   show ∃ m',m' < _ ∧ _
   refine ⟨_,?_,(i + 1),(D ++ [L.getD i rec0]),ad13,cap14,rfl,e0,(by omega),hD2,own_o,sep,hF⟩
   omega
  ·skip
   have hD2 := tf_no hia hD (now := now) (dueB_early (by omega))
   refine cP 5 hF ?_
   refine sP 2 [.slice (some aa) L.length vc,nV i] ?_
   refine sC 3 (.pointer (some (Addr.add aa (i * 39)))) ((Calm.indexA (a := aa) (len := L.length) (sz := 39) (k := ((i : Nat) : Int)) i (i * 39) (by kernel_rfl) rfl (by omega) (by omega)) _) ?_
   refine s1 4 (.pointer (some (Addr.add aa ((i * 39) + 37)))) (.pointer (some ((Addr.add aa (i * 39)).add 37))) (by rw [add_add]) ?_
   refine sC 5 (.bool false) (Calm.load (T := 4) (p := (Addr.add aa ((i * 39) + 37))) (by kernel_rfl) (Loads.one (k := 1) (by kernel_rfl) ((Row.fld (i := i) (j := 37) (u := .bool ((L.getD i rec0).go)) (hr.ext e0) (by omega) rfl).trans (by rw [hgo])))) ?_
   refine sP 9 [.bool true,.bool true,.slice (some aa) L.length vc,nV i] ?_
   refine sC 10 (.pointer (some (Addr.add aa (i * 39)))) ((Calm.indexA (a := aa) (len := L.length) (sz := 39) (k := ((i : Nat) : Int)) i (i * 39) (by kernel_rfl) rfl (by omega) (by omega)) _) ?_
   refine s1 11 (.pointer (some (Addr.add aa ((i * 39) + 36)))) (.pointer (some ((Addr.add aa (i * 39)).add 36))) (by rw [add_add]) ?_
   refine sC 12 (.bool false) (Calm.load (T := 4) (p := (Addr.add aa ((i * 39) + 36))) (by kernel_rfl) (Loads.one (k := 1) (by kernel_rfl) ((Row.fld (i := i) (j := 36) (u := .bool ((L.getD i rec0).ho)) (hr.ext e0) (by omega) rfl).trans (by rw [hho])))) ?_
   refine sP 17 [.bool true,.bool true,.bool true,.slice (some aa) L.length vc,nV i] ?_
   refine sC 18 (.pointer (some (Addr.add aa (i * 39)))) ((Calm.indexA (a := aa) (len := L.length) (sz := 39) (k := ((i : Nat) : Int)) i (i * 39) (by kernel_rfl) rfl (by omega) (by omega)) _) ?_
   refine s1 19 (.pointer (some (Addr.add aa ((i * 39) + 35)))) (.pointer (some ((Addr.add aa (i * 39)).add 35))) (by rw [add_add]) ?_
   refine sC 20 (.int .i64 ((L.getD i rec0).e)) (Calm.load (T := 3) (p := (Addr.add aa ((i * 39) + 35))) (by kernel_rfl) (Loads.one (k := 1) (by kernel_rfl) (Row.fld (i := i) (j := 35) (u := .int .i64 ((L.getD i rec0).e)) (hr.ext e0) (by omega) rfl))) ?_
   refine s1 21 (.bool false) (.bool (decide ((0 : Int) < ((L.getD i rec0).e)))) (congrArg Value.bool (decide_eq_false (by omega))) ?_
   refine sP 31 [.bool false,.bool false,undef,undef,undef,undef,undef,undef,undef,.bool false] ?_
   refine sD [(0,.slice (some aa) L.length vc),(1,.int .i64 now),(5,.slice ad D.length cap),(6,nV i),(49,.bool false)] ?_
   clear hF a; intro a hF
   refine tK ?_
   refine cF 49 hF ?_
   refine cN ?_
   show C Try.prog (sub b21 [1,1,0,1,0,0,1,1]) _ a h6
   refine cP 4 hF ?_
   refine sP 1 [nV i] ?_
   refine s1 2 (.int .i64 ((i + 1 : Nat) : Int)) (.int .i64 (IntKind.i64.wrap (((i : Nat) : Int) + 1))) (congrArg (Value.int .i64) (w64' (by omega) (by omega) (by omega))) ?_
   refine sP 3 [nV (i + 1)] ?_
   refine sD [(0,.slice (some aa) L.length vc),(1,.int .i64 now),(5,.slice ad D.length cap),(6,nV (i + 1))] ?_
   clear hF a; intro a hF
   replace sep := sep.sub (l' := [ad.map (·.block)]) (.cons_cons _ (.slnil))
   show ∃ m',m' < _ ∧ _
   refine ⟨_,?_,(i + 1),D,ad,cap,rfl,e0,(by omega),hD2,own_o,sep,hF⟩
   omega
  ·skip
   have hD2 := tf_no hia hD (now := now) (dueB_no (fun hb => absurd (hgo.symm.trans hb.1) (by decide)))
   refine cP 5 hF ?_
   refine sP 2 [.slice (some aa) L.length vc,nV i] ?_
   refine sC 3 (.pointer (some (Addr.add aa (i * 39)))) ((Calm.indexA (a := aa) (len := L.length) (sz := 39) (k := ((i : Nat) : Int)) i (i * 39) (by kernel_rfl) rfl (by omega) (by omega)) _) ?_
   refine s1 4 (.pointer (some (Addr.add aa ((i * 39) + 37)))) (.pointer (some ((Addr.add aa (i * 39)).add 37))) (by rw [add_add]) ?_
   refine sC 5 (.bool true) (Calm.load (T := 4) (p := (Addr.add aa ((i * 39) + 37))) (by kernel_rfl) (Loads.one (k := 1) (by kernel_rfl) ((Row.fld (i := i) (j := 37) (u := .bool ((L.getD i rec0).go)) (hr.ext e0) (by omega) rfl).trans (by rw [hgo])))) ?_
   refine sP 31 [.bool false,.bool false,undef,undef,undef,undef,undef,undef,.bool false,.bool false,undef,undef,undef,undef,undef,undef,.bool false,.bool false,undef,undef,undef,undef,undef,undef,undef,.bool false] ?_
   refine sD [(0,.slice (some aa) L.length vc),(1,.int .i64 now),(5,.slice ad D.length cap),(6,nV i),(49,.bool false)] ?_
   clear hF a; intro a hF
   refine tK ?_
   refine cF 49 hF ?_
   refine cN ?_
   show C Try.prog (sub b21 [1,1,0,1,0,0,1,1]) _ a h6
   refine cP 4 hF ?_
   refine sP 1 [nV i] ?_
   refine s1 2 (.int .i64 ((i + 1 : Nat) : Int)) (.int .i64 (IntKind.i64.wrap (((i : Nat) : Int) + 1))) (congrArg (Value.int .i64) (w64' (by omega) (by omega) (by omega))) ?_
   refine sP 3 [nV (i + 1)] ?_
   refine sD [(0,.slice (some aa) L.length vc),(1,.int .i64 now),(5,.slice ad D.length cap),(6,nV (i + 1))] ?_
   clear hF a; intro a hF
   replace sep := sep.sub (l' := [ad.map (·.block)]) (.cons_cons _ (.slnil))
   show ∃ m',m' < _ ∧ _
   refine ⟨_,?_,(i + 1),D,ad,cap,rfl,e0,(by omega),hD2,own_o,sep,hF⟩
   omega
  ·skip
   have hD2 := tf_no hia hD (now := now) (dueB_no (fun hb => absurd (hho.symm.trans hb.2.1) (by decide)))
   refine cP 5 hF ?_
   refine sP 2 [.slice (some aa) L.length vc,nV i] ?_
   refine sC 3 (.pointer (some (Addr.add aa (i * 39)))) ((Calm.indexA (a := aa) (len := L.length) (sz := 39) (k := ((i : Nat) : Int)) i (i * 39) (by kernel_rfl) rfl (by omega) (by omega)) _) ?_
   refine s1 4 (.pointer (some (Addr.add aa ((i * 39) + 37)))) (.pointer (some ((Addr.add aa (i * 39)).add 37))) (by rw [add_add]) ?_
   refine sC 5 (.bool false) (Calm.load (T := 4) (p := (Addr.add aa ((i * 39) + 37))) (by kernel_rfl) (Loads.one (k := 1) (by kernel_rfl) ((Row.fld (i := i) (j := 37) (u := .bool ((L.getD i rec0).go)) (hr.ext e0) (by omega) rfl).trans (by rw [hgo])))) ?_
   refine sP 9 [.bool true,.bool true,.slice (some aa) L.length vc,nV i] ?_
   refine sC 10 (.pointer (some (Addr.add aa (i * 39)))) ((Calm.indexA (a := aa) (len := L.length) (sz := 39) (k := ((i : Nat) : Int)) i (i * 39) (by kernel_rfl) rfl (by omega) (by omega)) _) ?_
   refine s1 11 (.pointer (some (Addr.add aa ((i * 39) + 36)))) (.pointer (some ((Addr.add aa (i * 39)).add 36))) (by rw [add_add]) ?_
   refine sC 12 (.bool true) (Calm.load (T := 4) (p := (Addr.add aa ((i * 39) + 36))) (by kernel_rfl) (Loads.one (k := 1) (by kernel_rfl) ((Row.fld (i := i) (j := 36) (u := .bool ((L.getD i rec0).ho)) (hr.ext e0) (by omega) rfl).trans (by rw [hho])))) ?_
   refine sP 31 [.bool false,.bool false,.bool false,undef,undef,undef,undef,undef,undef,.bool false,.bool false,undef,undef,undef,undef,undef,undef,undef,.bool false] ?_
   refine sD [(0,.slice (some aa) L.length vc),(1,.int .i64 now),(5,.slice ad D.length cap),(6,nV i),(49,.bool false)] ?_
   clear hF a; intro a hF
   refine tK ?_
   refine cF 49 hF ?_
   refine cN ?_
   show C Try.prog (sub b21 [1,1,0,1,0,0,1,1]) _ a h6
   refine cP 4 hF ?_
   refine sP 1 [nV i] ?_
   refine s1 2 (.int .i64 ((i + 1 : Nat) : Int)) (.int .i64 (IntKind.i64.wrap (((i : Nat) : Int) + 1))) (congrArg (Value.int .i64) (w64' (by omega) (by omega) (by omega))) ?_
   refine sP 3 [nV (i + 1)] ?_
   refine sD [(0,.slice (some aa) L.length vc),(1,.int .i64 now),(5,.slice ad D.length cap),(6,nV (i + 1))] ?_
   clear hF a; intro a hF
   replace sep := sep.sub (l' := [ad.map (·.block)]) (.cons_cons _ (.slnil))
   show ∃ m',m' < _ ∧ _
   refine ⟨_,?_,(i + 1),D,ad,cap,rfl,e0,(by omega),hD2,own_o,sep,hF⟩
   omega
  ·skip
   have hD2 := tf_no hia hD (now := now) (dueB_no (fun hb => by have := hb.2.2; omega))
   refine cP 5 hF ?_
   refine sP 2 [.slice (some aa) L.length vc,nV i] ?_
   refine sC 3 (.pointer (some (Addr.add aa (i * 39)))) ((Calm.indexA (a := aa) (len := L.length) (sz := 39) (k := ((i : Nat) : Int)) i (i * 39) (by kernel_rfl) rfl (by omega) (by omega)) _) ?_
   refine s1 4 (.pointer (some (Addr.add aa ((i * 39) + 37)))) (.pointer (some ((Addr.add aa (i * 39)).add 37))) (by rw [add_add]) ?_
   refine sC 5 (.bool false) (Calm.load (T := 4) (p := (Addr.add aa ((i * 39) + 37))) (by kernel_rfl) (Loads.one (k := 1) (by kernel_rfl) ((Row.fld (i := i) (j := 37) (u := .bool ((L.getD i rec0).go)) (hr.ext e0) (by omega) rfl).trans (by rw [hgo])))) ?_
   refine sP 9 [.bool true,.bool true,.slice (some aa) L.length vc,nV i] ?_
   refine sC 10 (.pointer (some (Addr.add aa (i * 39)))) ((Calm.indexA (a := aa) (len := L.length) (sz := 39) (k := ((i : Nat) : Int)) i (i * 39) (by kernel_rfl) rfl (by omega) (by omega)) _) ?_
   refine s1 11 (.pointer (some (Addr.add aa ((i * 39) + 36)))) (.pointer (some ((Addr.add aa (i * 39)).add 36))) (by rw [add_add]) ?_
   refine sC 12 (.bool false) (Calm.load (T := 4) (p := (Addr.add aa ((i * 39) + 36))) (by kernel_rfl) (Loads.one (k := 1) (by kernel_rfl) ((Row.fld (i := i) (j := 36) (u := .bool ((L.getD i rec0).ho)) (hr.ext e0) (by omega) rfl).trans (by rw [hho])))) ?_
   refine sP 17 [.bool true,.bool true,.bool true,.slice (some aa) L.length vc,nV i] ?_
   refine sC 18 (.pointer (some (Addr.add aa (i * 39)))) ((Calm.indexA (a := aa) (len := L.length) (sz := 39) (k := ((i : Nat) : Int)) i (i * 39) (by kernel_rfl) rfl (by omega) (by omega)) _) ?_
   refine s1 19 (.pointer (some (Addr.add aa ((i * 39) + 35)))) (.pointer (some ((Addr.add aa (i * 39)).add 35))) (by rw [add_add]) ?_
   refine sC 20 (.int .i64 ((L.getD i rec0).e)) (Calm.load (T := 3) (p := (Addr.add aa ((i * 39) + 35))) (by kernel_rfl) (Loads.one (k := 1) (by kernel_rfl) (Row.fld (i := i) (j := 35) (u := .int .i64 ((L.getD i rec0).e)) (hr.ext e0) (by omega) rfl))) ?_
   refine s1 21 (.bool true) (.bool (decide ((0 : Int) < ((L.getD i rec0).e)))) (congrArg Value.bool (decide_eq_true (by omega))) ?_
   refine sP 25 [.bool true,.bool true,.slice (some aa) L.length vc,nV i] ?_
   refine sC 26 (.pointer (some (Addr.add aa (i * 39)))) ((Calm.indexA (a := aa) (len := L.length) (sz := 39) (k := ((i : Nat) : Int)) i (i * 39) (by kernel_rfl) rfl (by omega) (by omega)) _) ?_
   refine s1 27 (.pointer (some (Addr.add aa ((i * 39) + 35)))) (.pointer (some ((Addr.add aa (i * 39)).add 35))) (by rw [add_add]) ?_
   refine sC 28 (.int .i64 ((L.getD i rec0).e)) (Calm.load (T := 3) (p := (Addr.add aa ((i * 39) + 35))) (by kernel_rfl) (Loads.one (k := 1) (by kernel_rfl) (Row.fld (i := i) (j := 35) (u := .int .i64 ((L.getD i rec0).e)) (hr.ext e0) (by omega) rfl))) ?_
   refine sP 29 [.int .i64 now] ?_
   refine s1 30 (.bool false) (.bool (decide (((L.getD i rec0).e) ≤ now))) (congrArg Value.bool (decide_eq_false (by omega))) ?_
   refine sP 31 [.bool false] ?_
   refine sD [(0,.slice (some aa) L.length vc),(1,.int .i64 now),(5,.slice ad D.length cap),(6,nV i),(49,.bool false)] ?_
   clear hF a; intro a hF
   refine tK ?_
   refine cF 49 hF ?_
   refine cN ?_
   show C Try.prog (sub b21 [1,1,0,1,0,0,1,1]) _ a h6
   refine cP 4 hF ?_
   refine sP 1 [nV i] ?_
   refine s1 2 (.int .i64 ((i + 1 : Nat) : Int)) (.int .i64 (IntKind.i64.wrap (((i : Nat) : Int) + 1))) (congrArg (Value.int .i64) (w64' (by omega) (by omega) (by omega))) ?_
   refine sP 3 [nV (i + 1)] ?_
   refine sD [(0,.slice (some aa) L.length vc),(1,.int .i64 now),(5,.slice ad D.length cap),(6,nV (i + 1))] ?_
   clear hF a; intro a hF
   replace sep := sep.sub (l' := [ad.map (·.block)]) (.cons_cons _ (.slnil))
   show ∃ m',m' < _ ∧ _
   refine ⟨_,?_,(i + 1),D,ad,cap,rfl,e0,(by omega),hD2,own_o,sep,hF⟩
   omega
 ·skip
  replace hc7 := of_decide_eq_false hc7
  obtain rfl : i = L.length := by omega
  have hDl := filt_le hD
  rw [List.take_length] at hD
  refine cX 0 ?_
  show C Try.prog (sub b21 [1,1,1]) _ a h6
  refine cS ?_
  refine cP 7 hF ?_
  refine SeqK.eff (k' := 1) (Does.new (v := .slice (some ⟨h6.size,0,none⟩) 0 0) (o := .cells #[] 9) (by kernel_rfl)) rfl ?_
  rintro _ h16 ⟨rfl,hh⟩
  have g17 : Ext h6 h16 := push_ext hh
  have m18 : h16[h6.size]? = some (.cells #[] 9) := push_at hh
  clear hh
  have lt19 := blk_lt m18
  have zs20 := e0.size
  have hlo := e0.size
  have sepo := sep
  replace e0 := e0.ext g17
  replace own_o := own_o.ext g17
  replace sep := sep.up g17.size
  replace sep := sepo.new hlo (blk_lt m18)
  clear sepo hlo
  have own_s : Own h16 (.slice (some ⟨h6.size,0,none⟩) 0 0) 9 ([] : List ByteArray).length 1 (([] : List ByteArray).map Value.string) := Own.empty 1 m18
  replace sep : Sep h.size h16.size [(some ⟨h6.size,0,none⟩ : Option Addr).map (·.block),ad.map (·.block)] := sep
  clear m18 lt19 zs20
  refine sP 2 [.slice (some ⟨h6.size,0,none⟩) 0 0] ?_
  refine sD [(5,.slice ad D.length cap),(7,.slice (some ⟨h6.size,0,none⟩) 0 0)] ?_
  clear hF a; intro a hF
  refine tK ?_
  refine cS ?_
  refine cB 2 ?_
  replace sep := sep.pick (l' := [ad.map (·.block),(some ⟨h6.size,0,none⟩ : Option Addr).map (·.block)]) [1,0] rfl (by decide)
  refine C.loop (fun m a h' => ∃ U : List Rec,∃ Q : List Rec,∃ ad : Option Addr,∃ cap : Nat,∃ ad2 : Option Addr,∃ cap2 : Nat,m = Q.length ∧ (Ext h h') ∧ (Sel D U Q) ∧ (Own h' (.slice ad Q.length cap) 26 Q.length 39 (rrow Q)) ∧ (Own h' (.slice ad2 U.length cap2) 9 U.length 1 ((ids U).map Value.string)) ∧ (Sep h.size h'.size [ad.map (·.block),ad2.map (·.block)]) ∧ (Fr a 114 [(5,.slice ad Q.length cap),(7,.slice ad2 U.length cap2)])) (D.length) [1,1,1,1,0,0,0] (by kernel_rfl) ⟨[],D,ad,cap,(some ⟨h6.size,0,none⟩),0,rfl,e0,(Sel.start _),own_o,own_s,sep,hF⟩ ?_
  clear hF a
  clear e0
  clear own_o
  clear own_s
  clear sep
  rintro m a h21 ⟨U,Q,ad,cap,ad2,cap2,rfl,e0,hsel,own_o,own_s,sep,hF⟩
  have hsl := hsel.len
  refine cS ?_
  refine cS ?_
  refine cP 8 hF ?_
  refine sP 3 [.slice ad Q.length cap,nV Q.length,.bool (decide ((0 : Int) < ((Q.length : Nat) : Int)))] ?_
  refine sD [(5,.slice ad Q.length cap),(7,.slice ad2 U.length cap2),(60,.bool (decide ((0 : Int) < ((Q.length : Nat) : Int))))] ?_
  clear hF a; intro a hF
  refine tK ?_
  refine cC 60 (decide ((0 : Int) < ((Q.length : Nat) : Int))) hF (fun hc22 => ?_) (fun hc22 => ?_)
  ·skip
   replace hc22 := of_decide_eq_true hc22
   have hQ0 : 0 < Q.length := by omega
   obtain ⟨ab,rfl,hcap_ab⟩ := own_o.someA (by omega)
   refine cN ?_
   refine tK ?_
   refine cB 3 ?_
   refine cS ?_
   refine cP 9 hF ?_
   refine sP 1 [.int .i64 0] ?_
   refine sD [(5,.slice (some ab) Q.length cap),(7,.slice ad2 U.length cap2),(8,.int .i64 0)] ?_
   clear hF a; intro a hF
   refine tK ?_
   refine cS ?_
   refine cS ?_
   refine cP 10 hF ?_
   refine sP 1 [.int .i64 1] ?_
   refine sD [(5,.slice (some ab) Q.length cap),(7,.slice ad2 U.length cap2),(8,.int .i64 0),(9,.int .i64 1)] ?_
   clear hF a; intro a hF
   refine tK ?_
   refine cB 4 ?_
   refine C.loop (fun m a h' => ∃ k : Nat,∃ f : Nat,m = Q.length - k ∧ (Ext h h') ∧ (f < k ∧ k ≤ Q.length) ∧ (∀ j,j < k → leR (Q.getD f rec0) (Q.getD j rec0)) ∧ (Own h' (.slice (some ab) Q.length cap) 26 Q.length 39 (rrow Q)) ∧ (Own h' (.slice ad2 U.length cap2) 9 U.length 1 ((ids U).map Value.string)) ∧ (Sep h.size h'.size [(some ab : Option Addr).map (·.block),ad2.map (·.block)]) ∧ (Fr a 114 [(5,.slice (some ab) Q.length cap),(7,.slice ad2 U.length cap2),(8,.int .i64 ((f : Nat) : Int)),(9,.int .i64 ((k : Nat) : Int))])) (Q.length - 1) [1,1,1,1,0,0,0,1,0,1,0,1,0,0] (by kernel_rfl) ⟨1,0,rfl,e0,(by omega),(fun j hj => by rw [show j = 0 by omega]; exact leR_self _),own_o,own_s,sep,hF⟩ ?_
   clear hF a
   clear e0
   clear own_o
   clear own_s
   clear sep
   rintro m a h23 ⟨k,f,rfl,e0,hfk,hmin,own_o,own_s,sep,hF⟩
   refine cS ?_
   refine cS ?_
   refine cP 11 hF ?_
   refine sP 4 [nV k,.slice (some ab) Q.length cap,nV Q.length,.bool (decide (((k : Nat) : Int) < ((Q.length : Nat) : Int)))] ?_
   refine sD [(5,.slice (some ab) Q.length cap),(7,.slice ad2 U.length cap2),(8,nV f),(9,nV k),(64,.bool (decide (((k : Nat) : Int) < ((Q.length : Nat) : Int))))] ?_
   clear hF a; intro a hF
   refine tK ?_
   refine cC 64 (decide (((k : Nat) : Int) < ((Q.length : Nat) : Int))) hF (fun hc24 => ?_) (fun hc24 => ?_)
   ·skip
    replace hc24 := of_decide_eq_true hc24
    have hkQ : k < Q.length := by omega
    refine cN ?_
    refine tK ?_
    refine cS ?_
    refine cB 5 ?_
    refine cS ?_
    refine cP 13 hF ?_
    refine sP 2 [.slice (some ab) Q.length cap,nV k] ?_
    refine sC 3 (.pointer (some (Addr.add ab (k * 39)))) ((Calm.indexA (a := ab) (len := Q.length) (sz := 39) (k := ((k : Nat) : Int)) k (k * 39) (by kernel_rfl) rfl (by omega) (by omega)) _) ?_
    refine sC 4 (.agg (rcs (Q.getD k rec0)).toArray) (Calm.load (T := 26) (p := (Addr.add ab (k * 39))) (by kernel_rfl) (Row.fm (d := rec0) (i := k) rcs_len (own_o.row) (by kernel_rfl) (by omega) (by omega))) ?_
    refine SeqK.eff (k' := 5) (Does.new (v := .pointer (some ⟨h23.size,0,none⟩)) (o := .cells (rc rb0 (0 : Int) false false (.slice none 0 0)).toArray 26) (by kernel_rfl)) rfl ?_
    rintro _ h25 ⟨rfl,hh⟩
    have g26 : Ext h23 h25 := push_ext hh
    have m27 : h25[h23.size]? = some (.cells (rc rb0 (0 : Int) false false (.slice none 0 0)).toArray 26) := push_at hh
    clear hh
    have lt28 := blk_lt m27
    have zs29 := e0.size
    have hlo := e0.size
    have sepo := sep
    replace e0 := e0.ext g26
    replace own_o := own_o.ext g26
    replace own_s := own_s.ext g26
    replace sep := sep.up g26.size
    replace sep := sepo.new hlo (blk_lt m27)
    clear sepo hlo
    refine SeqK.eff (k' := 6) (Does.store (b := h23.size) (off := 0) (vs := rcs (Q.getD k rec0)) (l := rc rb0 (0 : Int) false false (.slice none 0 0)) (by kernel_rfl) m27 (of_decide_eq_true (by kernel_rfl)) (List.all_eq_true.1 (by kernel_rfl))) rfl ?_
    rintro _ h30 ⟨rfl,hh⟩
    have g31 : Grew (some (h23.size)) h25 h30 := hput_gr hh
    replace m27 : h30[h23.size]? = some (.cells (rcs (Q.getD k rec0)).toArray 26) := hput_at (off := 0) (vs := rcs (Q.getD k rec0)) (l := (rc rb0 (0 : Int) false false (.slice none 0 0))) hh (by kernel_rfl) m27
    clear hh
    replace e0 := e0.grew g31 (sep.low 0 rfl)
    replace own_o := own_o.kept g31 (by rw [blkOf_slice]; exact (sep.ap 1 0))
    replace own_s := own_s.kept g31 (by rw [blkOf_slice]; exact (sep.ap 2 0))
    replace sep := sep.up g31.size
    refine sD [(5,.slice (some ab) Q.length cap),(7,.slice ad2 U.length cap2),(8,nV f),(9,nV k),(10,pV h23.size)] ?_
    clear hF a; intro a hF
    refine tK ?_
    refine cS ?_
    refine cP 14 hF ?_
    refine sP 2 [.slice (some ab) Q.length cap,nV f] ?_
    refine sC 3 (.pointer (some (Addr.add ab (f * 39)))) ((Calm.indexA (a := ab) (len := Q.length) (sz := 39) (k := ((f : Nat) : Int)) f (f * 39) (by kernel_rfl) rfl (by omega) (by omega)) _) ?_
    refine sC 4 (.agg (rcs (Q.getD f rec0)).toArray) (Calm.load (T := 26) (p := (Addr.add ab (f * 39))) (by kernel_rfl) (Row.fm (d := rec0) (i := f) rcs_len (own_o.row) (by kernel_rfl) (by omega) (by omega))) ?_
    refine SeqK.eff (k' := 5) (Does.new (v := .pointer (some ⟨h30.size,0,none⟩)) (o := .cells (rc rb0 (0 : Int) false false (.slice none 0 0)).toArray 26) (by kernel_rfl)) rfl ?_
    rintro _ h32 ⟨rfl,hh⟩
    have g33 : Ext h30 h32 := push_ext hh
    have m34 : h32[h30.size]? = some (.cells (rc rb0 (0 : Int) false false (.slice none 0 0)).toArray 26) := push_at hh
    clear hh
    have lt35 := blk_lt m34
    have zs36 := e0.size
    have hlo := e0.size
    have sepo := sep
    replace e0 := e0.ext g33
    replace own_o := own_o.ext g33
    replace own_s := own_s.ext g33
    replace m27 := Ext.blk g33 m27
    replace sep := sep.up g33.size
    replace sep := sepo.new hlo (blk_lt m34)
    clear sepo hlo
    refine SeqK.eff (k' := 6) (Does.store (b := h30.size) (off := 0) (vs := rcs (Q.getD f rec0)) (l := rc rb0 (0 : Int) false false (.slice none 0 0)) (by kernel_rfl) m34 (of_decide_eq_true (by kernel_rfl)) (List.all_eq_true.1 (by kernel_rfl))) rfl ?_
    rintro _ h37 ⟨rfl,hh⟩
    have g38 : Grew (some (h30.size)) h32 h37 := hput_gr hh
    replace m34 : h37[h30.size]? = some (.cells (rcs (Q.getD f rec0)).toArray 26) := hput_at (off := 0) (vs := rcs (Q.getD f rec0)) (l := (rc rb0 (0 : Int) false false (.slice none 0 0))) hh (by kernel_rfl) m34
    clear hh
    replace e0 := e0.grew g38 (sep.low 0 rfl)
    replace own_o := own_o.kept g38 (by rw [blkOf_slice]; exact (sep.ap 2 0))
    replace own_s := own_s.kept g38 (by rw [blkOf_slice]; exact (sep.ap 3 0))
    replace m27 := Grew.blk g38 m27 ((sep.bp 1 0))
    replace sep := sep.up g38.size
    refine sD [(5,.slice (some ab) Q.length cap),(7,.slice ad2 U.length cap2),(8,nV f),(9,nV k),(10,pV h23.size),(11,pV h30.size)] ?_
    clear hF a; intro a hF
    refine tK ?_
    refine cS ?_
    rcases Int.lt_or_le (Q.getD k rec0).e (Q.getD f rec0).e with hc | hc
    rotate_left 1
    rcases Int.lt_or_le (Q.getD f rec0).e (Q.getD k rec0).e with hd | hd
    rotate_left 1
    rcases Decidable.em (Lib.compareBytes (Q.getD k rec0).b.id.data.toList (Q.getD f rec0).b.id.data.toList < 0) with hs | hs
    ·skip
     have hmin2 : ∀ j,j < k + 1 → leR (Q.getD k rec0) (Q.getD j rec0) := fun j hj => by
      rcases Nat.lt_or_ge j k with z | z
      ·exact leR_trans (leR_id (by omega) (by omega)) (hmin j z)
      ·rw [show j = k by omega]; exact leR_self _
     refine cP 15 hF ?_
     refine sP 1 [.pointer (some ⟨h23.size,35,none⟩)] ?_
     refine sC 2 (.int .i64 ((Q.getD k rec0).e)) (Calm.load (T := 3) (p := ⟨h23.size,35,none⟩) (by kernel_rfl) (Loads.one (k := 1) (by kernel_rfl) ((hcell_blk m27).trans (rfl)))) ?_
     refine sP 3 [.pointer (some ⟨h30.size,35,none⟩)] ?_
     refine sC 4 (.int .i64 ((Q.getD f rec0).e)) (Calm.load (T := 3) (p := ⟨h30.size,35,none⟩) (by kernel_rfl) (Loads.one (k := 1) (by kernel_rfl) ((hcell_blk m34).trans (rfl)))) ?_
     refine s1 5 (.bool false) (.bool (decide (((Q.getD k rec0).e) < ((Q.getD f rec0).e)))) (congrArg Value.bool (decide_eq_false (by omega))) ?_
     refine sP 7 [.bool false,.pointer (some ⟨h23.size,35,none⟩)] ?_
     refine sC 8 (.int .i64 ((Q.getD k rec0).e)) (Calm.load (T := 3) (p := ⟨h23.size,35,none⟩) (by kernel_rfl) (Loads.one (k := 1) (by kernel_rfl) ((hcell_blk m27).trans (rfl)))) ?_
     refine sP 9 [.pointer (some ⟨h30.size,35,none⟩)] ?_
     refine sC 10 (.int .i64 ((Q.getD f rec0).e)) (Calm.load (T := 3) (p := ⟨h30.size,35,none⟩) (by kernel_rfl) (Loads.one (k := 1) (by kernel_rfl) ((hcell_blk m34).trans (rfl)))) ?_
     refine s1 11 (.bool true) (.bool (((Q.getD k rec0).e) == ((Q.getD f rec0).e))) (congrArg Value.bool (beq_iff_eq.2 (by omega))) ?_
     refine sP 13 [.bool true,pV h23.size] ?_
     refine sC 14 (.string (((Q.getD k rec0).b).id)) (Calm.load (T := 9) (p := ⟨h23.size,0,none⟩) (by kernel_rfl) (Loads.one (k := 1) (by kernel_rfl) ((hcell_blk m27).trans (rfl)))) ?_
     refine sP 15 [pV h30.size] ?_
     refine sC 16 (.string (((Q.getD f rec0).b).id)) (Calm.load (T := 9) (p := ⟨h30.size,0,none⟩) (by kernel_rfl) (Loads.one (k := 1) (by kernel_rfl) ((hcell_blk m34).trans (rfl)))) ?_
     refine s1 17 (.bool true) (.bool (Op.bytesLess (((Q.getD k rec0).b).id).toList (((Q.getD f rec0).b).id).toList)) (congrArg Value.bool (str_lt hs)) ?_
     refine sP 19 [.bool true,.bool true] ?_
     refine sD [(5,.slice (some ab) Q.length cap),(7,.slice ad2 U.length cap2),(8,nV f),(9,nV k),(93,.bool true)] ?_
     clear hF a; intro a hF
     refine tK ?_
     refine cT 93 hF ?_
     refine cP 16 hF ?_
     refine sP 2 [nV k,nV k] ?_
     refine sD [(5,.slice (some ab) Q.length cap),(7,.slice ad2 U.length cap2),(8,nV k),(9,nV k)] ?_
     clear hF a; intro a hF
     show C Try.prog (sub b21 [1,1,1,1,0,0,0,1,0,1,0,1,0,0,1,1]) _ a h37
     refine cP 12 hF ?_
     refine sP 1 [nV k] ?_
     refine s1 2 (.int .i64 ((k + 1 : Nat) : Int)) (.int .i64 (IntKind.i64.wrap (((k : Nat) : Int) + 1))) (congrArg (Value.int .i64) (w64' (by omega) (by omega) (by omega))) ?_
     refine sP 3 [nV (k + 1)] ?_
     refine sD [(5,.slice (some ab) Q.length cap),(7,.slice ad2 U.length cap2),(8,nV k),(9,nV (k + 1))] ?_
     clear hF a; intro a hF
     clear m27 lt28 zs29
     clear m34 lt35 zs36
     replace sep := sep.sub (l' := [(some ab : Option Addr).map (·.block),ad2.map (·.block)]) (.cons _ (.cons _ (.cons_cons _ (.cons_cons _ (.slnil)))))
     show ∃ m',m' < _ ∧ _
     refine ⟨_,?_,(k + 1),k,rfl,e0,(by omega),hmin2,own_o,own_s,sep,hF⟩
     omega
    ·skip
     have hmin2 : ∀ j,j < k + 1 → leR (Q.getD f rec0) (Q.getD j rec0) := fun j hj => by
      rcases Nat.lt_or_ge j k with z | z
      ·exact hmin j z
      ·rw [show j = k by omega]; exact leR_id (by omega) (by rw [cb_neg]; omega)
     refine cP 15 hF ?_
     refine sP 1 [.pointer (some ⟨h23.size,35,none⟩)] ?_
     refine sC 2 (.int .i64 ((Q.getD k rec0).e)) (Calm.load (T := 3) (p := ⟨h23.size,35,none⟩) (by kernel_rfl) (Loads.one (k := 1) (by kernel_rfl) ((hcell_blk m27).trans (rfl)))) ?_
     refine sP 3 [.pointer (some ⟨h30.size,35,none⟩)] ?_
     refine sC 4 (.int .i64 ((Q.getD f rec0).e)) (Calm.load (T := 3) (p := ⟨h30.size,35,none⟩) (by kernel_rfl) (Loads.one (k := 1) (by kernel_rfl) ((hcell_blk m34).trans (rfl)))) ?_
     refine s1 5 (.bool false) (.bool (decide (((Q.getD k rec0).e) < ((Q.getD f rec0).e)))) (congrArg Value.bool (decide_eq_false (by omega))) ?_
     refine sP 7 [.bool false,.pointer (some ⟨h23.size,35,none⟩)] ?_
     refine sC 8 (.int .i64 ((Q.getD k rec0).e)) (Calm.load (T := 3) (p := ⟨h23.size,35,none⟩) (by kernel_rfl) (Loads.one (k := 1) (by kernel_rfl) ((hcell_blk m27).trans (rfl)))) ?_
     refine sP 9 [.pointer (some ⟨h30.size,35,none⟩)] ?_
     refine sC 10 (.int .i64 ((Q.getD f rec0).e)) (Calm.load (T := 3) (p := ⟨h30.size,35,none⟩) (by kernel_rfl) (Loads.one (k := 1) (by kernel_rfl) ((hcell_blk m34).trans (rfl)))) ?_
     refine s1 11 (.bool true) (.bool (((Q.getD k rec0).e) == ((Q.getD f rec0).e))) (congrArg Value.bool (beq_iff_eq.2 (by omega))) ?_
     refine sP 13 [.bool true,pV h23.size] ?_
     refine sC 14 (.string (((Q.getD k rec0).b).id)) (Calm.load (T := 9) (p := ⟨h23.size,0,none⟩) (by kernel_rfl) (Loads.one (k := 1) (by kernel_rfl) ((hcell_blk m27).trans (rfl)))) ?_
     refine sP 15 [pV h30.size] ?_
     refine sC 16 (.string (((Q.getD f rec0).b).id)) (Calm.load (T := 9) (p := ⟨h30.size,0,none⟩) (by kernel_rfl) (Loads.one (k := 1) (by kernel_rfl) ((hcell_blk m34).trans (rfl)))) ?_
     refine s1 17 (.bool false) (.bool (Op.bytesLess (((Q.getD k rec0).b).id).toList (((Q.getD f rec0).b).id).toList)) (congrArg Value.bool (str_nlt hs)) ?_
     refine sP 19 [.bool false,.bool false] ?_
     refine sD [(5,.slice (some ab) Q.length cap),(7,.slice ad2 U.length cap2),(8,nV f),(9,nV k),(93,.bool false)] ?_
     clear hF a; intro a hF
     refine tK ?_
     refine cF 93 hF ?_
     refine cN ?_
     show C Try.prog (sub b21 [1,1,1,1,0,0,0,1,0,1,0,1,0,0,1,1]) _ a h37
     refine cP 12 hF ?_
     refine sP 1 [nV k] ?_
     refine s1 2 (.int .i64 ((k + 1 : Nat) : Int)) (.int .i64 (IntKind.i64.wrap (((k : Nat) : Int) + 1))) (congrArg (Value.int .i64) (w64' (by omega) (by omega) (by omega))) ?_
     refine sP 3 [nV (k + 1)] ?_
     refine sD [(5,.slice (some ab) Q.length cap),(7,.slice ad2 U.length cap2),(8,nV f),(9,nV (k + 1))] ?_
     clear hF a; intro a hF
     clear m27 lt28 zs29
     clear m34 lt35 zs36
     replace sep := sep.sub (l' := [(some ab : Option Addr).map (·.block),ad2.map (·.block)]) (.cons _ (.cons _ (.cons_cons _ (.cons_cons _ (.slnil)))))
     show ∃ m',m' < _ ∧ _
     refine ⟨_,?_,(k + 1),f,rfl,e0,(by omega),hmin2,own_o,own_s,sep,hF⟩
     omega
    ·skip
     have hmin2 : ∀ j,j < k + 1 → leR (Q.getD k rec0) (Q.getD j rec0) := fun j hj => by
      rcases Nat.lt_or_ge j k with z | z
      ·exact leR_trans (leR_e hc) (hmin j z)
      ·rw [show j = k by omega]; exact leR_self _
     refine cP 15 hF ?_
     refine sP 1 [.pointer (some ⟨h23.size,35,none⟩)] ?_
     refine sC 2 (.int .i64 ((Q.getD k rec0).e)) (Calm.load (T := 3) (p := ⟨h23.size,35,none⟩) (by kernel_rfl) (Loads.one (k := 1) (by kernel_rfl) ((hcell_blk m27).trans (rfl)))) ?_
     refine sP 3 [.pointer (some ⟨h30.size,35,none⟩)] ?_
     refine sC 4 (.int .i64 ((Q.getD f rec0).e)) (Calm.load (T := 3) (p := ⟨h30.size,35,none⟩) (by kernel_rfl) (Loads.one (k := 1) (by kernel_rfl) ((hcell_blk m34).trans (rfl)))) ?_
     refine s1 5 (.bool true) (.bool (decide (((Q.getD k rec0).e) < ((Q.getD f rec0).e)))) (congrArg Value.bool (decide_eq_true (by omega))) ?_
     refine sP 19 [.bool true,undef,undef,undef,undef,undef,undef,undef,undef,undef,undef,undef,undef,.bool true] ?_
     refine sD [(5,.slice (some ab) Q.length cap),(7,.slice ad2 U.length cap2),(8,nV f),(9,nV k),(93,.bool true)] ?_
     clear hF a; intro a hF
     refine tK ?_
     refine cT 93 hF ?_
     refine cP 16 hF ?_
     refine sP 2 [nV k,nV k] ?_
     refine sD [(5,.slice (some ab) Q.length cap),(7,.slice ad2 U.length cap2),(8,nV k),(9,nV k)] ?_
     clear hF a; intro a hF
     show C Try.prog (sub b21 [1,1,1,1,0,0,0,1,0,1,0,1,0,0,1,1]) _ a h37
     refine cP 12 hF ?_
     refine sP 1 [nV k] ?_
     refine s1 2 (.int .i64 ((k + 1 : Nat) : Int)) (.int .i64 (IntKind.i64.wrap (((k : Nat) : Int) + 1))) (congrArg (Value.int .i64) (w64' (by omega) (by omega) (by omega))) ?_
     refine sP 3 [nV (k + 1)] ?_
     refine sD [(5,.slice (some ab) Q.length cap),(7,.slice ad2 U.length cap2),(8,nV k),(9,nV (k + 1))] ?_
     clear hF a; intro a hF
     clear m27 lt28 zs29
     clear m34 lt35 zs36
     replace sep := sep.sub (l' := [(some ab : Option Addr).map (·.block),ad2.map (·.block)]) (.cons _ (.cons _ (.cons_cons _ (.cons_cons _ (.slnil)))))
     show ∃ m',m' < _ ∧ _
     refine ⟨_,?_,(k + 1),k,rfl,e0,(by omega),hmin2,own_o,own_s,sep,hF⟩
     omega
    ·skip
     have hmin2 : ∀ j,j < k + 1 → leR (Q.getD f rec0) (Q.getD j rec0) := fun j hj => by
      rcases Nat.lt_or_ge j k with z | z
      ·exact hmin j z
      ·rw [show j = k by omega]; exact leR_e hd
     refine cP 15 hF ?_
     refine sP 1 [.pointer (some ⟨h23.size,35,none⟩)] ?_
     refine sC 2 (.int .i64 ((Q.getD k rec0).e)) (Calm.load (T := 3) (p := ⟨h23.size,35,none⟩) (by kernel_rfl) (Loads.one (k := 1) (by kernel_rfl) ((hcell_blk m27).trans (rfl)))) ?_
     refine sP 3 [.pointer (some ⟨h30.size,35,none⟩)] ?_
     refine sC 4 (.int .i64 ((Q.getD f rec0).e)) (Calm.load (T := 3) (p := ⟨h30.size,35,none⟩) (by kernel_rfl) (Loads.one (k := 1) (by kernel_rfl) ((hcell_blk m34).trans (rfl)))) ?_
     refine s1 5 (.bool false) (.bool (decide (((Q.getD k rec0).e) < ((Q.getD f rec0).e)))) (congrArg Value.bool (decide_eq_false (by omega))) ?_
     refine sP 7 [.bool false,.pointer (some ⟨h23.size,35,none⟩)] ?_
     refine sC 8 (.int .i64 ((Q.getD k rec0).e)) (Calm.load (T := 3) (p := ⟨h23.size,35,none⟩) (by kernel_rfl) (Loads.one (k := 1) (by kernel_rfl) ((hcell_blk m27).trans (rfl)))) ?_
     refine sP 9 [.pointer (some ⟨h30.size,35,none⟩)] ?_
     refine sC 10 (.int .i64 ((Q.getD f rec0).e)) (Calm.load (T := 3) (p := ⟨h30.size,35,none⟩) (by kernel_rfl) (Loads.one (k := 1) (by kernel_rfl) ((hcell_blk m34).trans (rfl)))) ?_
     refine s1 11 (.bool false) (.bool (((Q.getD k rec0).e) == ((Q.getD f rec0).e))) (congrArg Value.bool (beq_eq_false_iff_ne.2 (by omega))) ?_
     refine sP 19 [.bool false,undef,undef,undef,undef,undef,.bool false,.bool false] ?_
     refine sD [(5,.slice (some ab) Q.length cap),(7,.slice ad2 U.length cap2),(8,nV f),(9,nV k),(93,.bool false)] ?_
     clear hF a; intro a hF
     refine tK ?_
     refine cF 93 hF ?_
     refine cN ?_
     show C Try.prog (sub b21 [1,1,1,1,0,0,0,1,0,1,0,1,0,0,1,1]) _ a h37
     refine cP 12 hF ?_
     refine sP 1 [nV k] ?_
     refine s1 2 (.int .i64 ((k + 1 : Nat) : Int)) (.int .i64 (IntKind.i64.wrap (((k : Nat) : Int) + 1))) (congrArg (Value.int .i64) (w64' (by omega) (by omega) (by omega))) ?_
     refine sP 3 [nV (k + 1)] ?_
     refine sD [(5,.slice (some ab) Q.length cap),(7,.slice ad2 U.length cap2),(8,nV f),(9,nV (k + 1))] ?_
     clear hF a; intro a hF
     clear m27 lt28 zs29
     clear m34 lt35 zs36
     replace sep := sep.sub (l' := [(some ab : Option Addr).map (·.block),ad2.map (·.block)]) (.cons _ (.cons _ (.cons_cons _ (.cons_cons _ (.slnil)))))
     show ∃ m',m' < _ ∧ _
     refine ⟨_,?_,(k + 1),f,rfl,e0,(by omega),hmin2,own_o,own_s,sep,hF⟩
     omega
   ·skip
    replace hc24 := of_decide_eq_false hc24
    have hfQ : f < Q.length := by omega
    have hmin3 : ∀ j,j < Q.length → leR (Q.getD f rec0) (Q.getD j rec0) := fun j hj => hmin j (by omega)
    refine cX 4 ?_
    show C Try.prog (sub b21 [1,1,1,1,0,0,0,1,0,1,1]) _ a h23
    refine cS ?_
    refine cP 17 hF ?_
    refine sP 3 [.slice ad2 U.length cap2,.slice (some ab) Q.length cap,nV f] ?_
    refine sC 4 (.pointer (some (Addr.add ab (f * 39)))) ((Calm.indexA (a := ab) (len := Q.length) (sz := 39) (k := ((f : Nat) : Int)) f (f * 39) (by kernel_rfl) rfl (by omega) (by omega)) _) ?_
    refine s1 5 (.pointer (some (Addr.add ab (f * 39)))) (.pointer (some ((Addr.add ab (f * 39)).add 0))) (by rw [add_add,Nat.add_zero]) ?_
    refine sC 6 (.string (((Q.getD f rec0).b).id)) (Calm.load (T := 9) (p := (Addr.add ab (f * 39))) (by kernel_rfl) (Loads.one (k := 1) (by kernel_rfl) (Row.fld (i := f) (j := 0) (u := .string (((Q.getD f rec0).b).id)) (own_o.row) (by omega) rfl))) ?_
    refine SeqK.eff (k' := 7) (Does.new (v := .slice (some ⟨h23.size,0,none⟩) 1 1) (o := .cells #[.string (((Q.getD f rec0).b).id)] 9) (by kernel_rfl)) rfl ?_
    rintro _ h39 ⟨rfl,hh⟩
    have g40 : Ext h23 h39 := push_ext hh
    have m41 : h39[h23.size]? = some (.cells #[.string (((Q.getD f rec0).b).id)] 9) := push_at hh
    clear hh
    have lt42 := blk_lt m41
    have zs43 := e0.size
    have hlo := e0.size
    have sepo := sep
    replace e0 := e0.ext g40
    replace own_o := own_o.ext g40
    replace own_s := own_s.ext g40
    replace sep := sep.up g40.size
    replace sep := sepo.new hlo (blk_lt m41)
    clear sepo hlo
    refine SeqK.eff (k' := 8) (Does.append2 (t := 38) (E := 9) (sz := 1) (by_ := 16) (n := U.length) (m := 1) (v := .slice ad2 U.length cap2) (x := .slice (some ⟨h23.size,0,none⟩) 1 1) (xs := ((ids U).map Value.string)) (ys := (([((Q.getD f rec0).b).id]).map Value.string)) (by kernel_rfl) (by kernel_rfl) own_s (Row.blk (n := 1) (sz := 1) (l := [((Q.getD f rec0).b).id].map Value.string) m41 rfl) (ones_str _) (by unfold maxLen; omega) (by omega)) rfl ?_
    rintro _ h46 ⟨ad44,cap45,rfl,ownx,g,hb⟩
    rw [blkOf_slice] at g hb
    have hlo := e0.size
    have sepo := sep
    replace e0 := e0.grew g (sep.low 2 rfl)
    replace own_o := own_o.kept g (by rw [blkOf_slice]; exact (sep.ap 1 2))
    replace m41 := Grew.blk g m41 ((sep.bp 0 2))
    replace sep := sep.up g.size
    replace sep : Sep h.size h46.size [some (h23.size),(some ab : Option Addr).map (·.block),ad44.map (·.block)] := sepo.set g.size hlo 2 (y := ad44.map (fun (x : Addr) => x.block)) rfl (hb.imp id fun e => .inr ⟨_,e,Nat.le_refl _⟩) (fun k e => ownx.lt (by rw [blkOf_slice]; exact e))
    replace own_s : Own h46 (.slice ad44 ((U ++ [Q.getD f rec0]).length) cap45) 9 ((U ++ [Q.getD f rec0]).length) 1 ((ids U ++ [((Q.getD f rec0).b).id]).map Value.string) := Own.appG ownx (by first | rfl | simp) (by first | rfl | (simp; done) | (simp; omega))
    clear ownx g hb hlo sepo
    refine sP 9 [.slice ad44 (U.length + 1) cap45] ?_
    refine sD [(5,.slice (some ab) Q.length cap),(7,.slice ad44 (U.length + 1) cap45),(8,nV f)] ?_
    clear hF a; intro a hF
    have hcan : (U.length + 1 : Nat) = (U ++ [Q.getD f rec0]).length := by first | (simp; done) | (simp; omega)
    rw [hcan] at hF; clear hcan
    refine tK ?_
    refine cD [0,0,0,6,15,0,0,64,224,511,1023] 18 mixed hF ?_
    refine mP 6 [1,2] [.slice (some ab) Q.length cap,nV f] ?_
    refine mF 14 3 (.slice (some ab) f cap) (fun h => Calm.sliceO (a := (some ab)) (len := Q.length) (cap := cap) (sz := 39) (x := (some ab)) 0 f cap f cap (by kernel_rfl) (.inl ⟨rfl,rfl⟩) (.inr rfl) (.inl ⟨rfl,rfl⟩) (by omega) (by omega) (opt_add0 _ 39) (by first | rfl | omega) (by first | rfl | omega) h) ?_
    refine mP 110 [5,6] [.slice (some ab) Q.length cap,nV f] ?_
    refine m1 238 7 (.int .i64 ((f + 1 : Nat) : Int)) (.int .i64 (IntKind.i64.wrap (((f : Nat) : Int) + 1))) (congrArg (Value.int .i64) (w64' (by omega) (by omega) (by omega))) ?_
    obtain ⟨xd,hxd⟩ : ∃ x,x = if cap = f + 1 then (some ab : Option Addr) else (some ab : Option Addr).map (·.add ((f + 1) * 39)) := ⟨_,rfl⟩
    refine mF 494 8 (.slice xd (Q.length - (f + 1)) (cap - (f + 1))) (fun h => Calm.sliceO (a := (some ab)) (len := Q.length) (cap := cap) (sz := 39) (x := xd) (f + 1) Q.length cap (Q.length - (f + 1)) (cap - (f + 1)) (by kernel_rfl) (.inl ⟨rfl,rfl⟩) (.inl ⟨rfl,rfl⟩) (.inr rfl) (by omega) (by omega) hxd (by first | rfl | omega) (by first | rfl | omega) h) ?_
    refine SimK.eff0 (i := 0) (D' := 495) (X' := 1) (by kernel_rfl) (by kernel_rfl) (by kernel_rfl) (by kernel_rfl) (Does.new (v := .slice (some ⟨h46.size,0,none⟩) 0 0) (o := .cells #[] 26) (by kernel_rfl)) ?_
    rintro _ h47 ⟨rfl,hh⟩
    have g48 : Ext h46 h47 := push_ext hh
    have m49 : h47[h46.size]? = some (.cells #[] 26) := push_at hh
    clear hh
    have lt50 := blk_lt m49
    have zs51 := e0.size
    have hlo := e0.size
    have sepo := sep
    replace e0 := e0.ext g48
    replace own_o := own_o.ext g48
    replace own_s := own_s.ext g48
    replace m41 := Ext.blk g48 m41
    replace sep := sep.up g48.size
    replace sep := sepo.new hlo (blk_lt m49)
    clear sepo hlo
    have own_t : Own h47 (.slice (some ⟨h46.size,0,none⟩) 0 0) 26 ([] : List Rec).length 39 (rrow []) := Own.empty 39 m49
    replace sep : Sep h.size h47.size [(some ⟨h46.size,0,none⟩ : Option Addr).map (·.block),some (h23.size),(some ab : Option Addr).map (·.block),ad44.map (·.block)] := sep
    clear m49 lt50 zs51
    refine SimK.eff0 (i := 4) (D' := 511) (X' := 31) (by kernel_rfl) (by kernel_rfl) (by kernel_rfl) (by kernel_rfl) (Does.append2 (t := 37) (E := 26) (sz := 39) (by_ := 104) (n := 0) (m := f) (v := .slice (some ⟨h46.size,0,none⟩) 0 0) (x := .slice (some ab) f cap) (xs := (rrow ([]))) (ys := (rrow (Q.take f))) (by kernel_rfl) (by kernel_rfl) own_t (own_o.takeR (by omega)) (rrow_one _) (by unfold maxLen; omega) (by omega)) ?_
    rintro _ h54 ⟨ad52,cap53,rfl,ownx,g,hb⟩
    rw [blkOf_slice] at g hb
    have hlo := e0.size
    have sepo := sep
    replace e0 := e0.grew g (sep.low 0 rfl)
    replace own_o := own_o.kept g (by rw [blkOf_slice]; exact (sep.ap 2 0))
    replace own_s := own_s.kept g (by rw [blkOf_slice]; exact (sep.ap 3 0))
    replace m41 := Grew.blk g m41 ((sep.bp 1 0))
    replace sep := sep.up g.size
    replace sep : Sep h.size h54.size [ad52.map (·.block),some (h23.size),(some ab : Option Addr).map (·.block),ad44.map (·.block)] := sepo.set g.size hlo 0 (y := ad52.map (fun (x : Addr) => x.block)) rfl (hb.imp id fun e => .inr ⟨_,e,Nat.le_refl _⟩) (fun k e => ownx.lt (by rw [blkOf_slice]; exact e))
    replace own_t : Own h54 (.slice ad52 (0 + f) cap53) 26 (0 + f) 39 (rrow (Q.take f)) := Own.appG ownx (by first | rfl | exact List.flatMap_append.symm | simp [rrow]) (by first | rfl | (simp; done) | (simp; omega))
    clear ownx g hb hlo sepo
    refine SimK.eff0 (i := 9) (D' := 1023) (X' := 1023) (by kernel_rfl) (by kernel_rfl) (by kernel_rfl) (by kernel_rfl) (Does.append2 (t := 37) (E := 26) (sz := 39) (by_ := 104) (n := (0 + f)) (m := Q.length - (f + 1)) (v := .slice ad52 (0 + f) cap53) (x := .slice xd (Q.length - (f + 1)) (cap - (f + 1))) (xs := (rrow (Q.take f))) (ys := (rrow (Q.drop (f + 1)))) (by kernel_rfl) (by kernel_rfl) own_t (own_o.dropR (by omega) hxd) (rrow_one _) (by unfold maxLen; omega) (by omega)) ?_
    rintro _ h57 ⟨ad55,cap56,rfl,ownx,g,hb⟩
    rw [blkOf_slice] at g hb
    have hlo := e0.size
    have sepo := sep
    replace e0 := e0.grew g (sep.low 0 rfl)
    replace own_o := own_o.kept g (by rw [blkOf_slice]; exact (sep.ap 2 0))
    replace own_s := own_s.kept g (by rw [blkOf_slice]; exact (sep.ap 3 0))
    replace m41 := Grew.blk g m41 ((sep.bp 1 0))
    replace sep := sep.up g.size
    replace sep : Sep h.size h57.size [ad55.map (·.block),some (h23.size),(some ab : Option Addr).map (·.block),ad44.map (·.block)] := sepo.set g.size hlo 0 (y := ad55.map (fun (x : Addr) => x.block)) rfl (hb.imp id fun e => .inr ⟨_,e,Nat.le_refl _⟩) (fun k e => ownx.lt (by rw [blkOf_slice]; exact e))
    replace own_t : Own h57 (.slice ad55 ((Q.take f ++ Q.drop (f + 1)).length) cap56) 26 ((Q.take f ++ Q.drop (f + 1)).length) 39 (rrow (Q.take f ++ Q.drop (f + 1))) := Own.appG ownx (by first | rfl | exact List.flatMap_append.symm | simp [rrow]) (by first | rfl | (simp; done) | (simp; omega))
    clear ownx g hb hlo sepo
    refine mP 2047 [10] [.slice ad55 ((0 + f) + (Q.length - (f + 1))) cap56] ?_
    refine mD [(5,.slice ad55 ((0 + f) + (Q.length - (f + 1))) cap56),(7,.slice ad44 ((U ++ [Q.getD f rec0]).length) cap45)] ?_
    clear hF a; intro a hF
    have hcan : ((0 + f) + (Q.length - (f + 1)) : Nat) = (Q.take f ++ Q.drop (f + 1)).length := by first | (simp; done) | (simp; omega)
    rw [hcan] at hF; clear hcan
    rw [ids_snoc] at own_s
    have hlen := len_td hfQ
    clear m41 lt42 zs43
    replace sep := sep.sub (l' := [ad55.map (·.block),ad44.map (·.block)]) (.cons_cons _ (.cons _ (.cons _ (.cons_cons _ (.slnil)))))
    show ∃ m',m' < _ ∧ _
    refine ⟨_,?_,(U ++ [Q.getD f rec0]),(Q.take f ++ Q.drop (f + 1)),ad55,cap56,ad44,cap45,rfl,e0,(hsel.step hfQ hmin3),own_t,own_s,sep,hF⟩
    omega
  ·skip
   replace hc22 := of_decide_eq_false hc22
   refine cX 2 ?_
   show C Try.prog (sub b21 [1,1,1,1,1]) _ a h21
   refine cS ?_
   refine cP 19 hF ?_
   refine sP 2 [.slice ad2 U.length cap2,.slice ad2 U.length cap2] ?_
   refine sD [(4,.slice ad2 U.length cap2)] ?_
   clear hF a; intro a hF
   refine tK ?_
   refine cR ?_
   show retK Try.prog Try.f21 (fun v h' => ∃ (M : List Rec) (ad : Option Addr) (cap : Nat),M.Perm (L.filter (dueB now)) ∧ M.Pairwise leR ∧ v = .slice ad M.length cap ∧ Own h' (.slice ad M.length cap) 9 M.length 1 ((ids M).map Value.string) ∧ (∀ k,ad.map (fun (x : Addr) => x.block) = some k → h.size ≤ k) ∧ Ext h h') .ret a h21
   refine ret_ok [.tmp 4] [.slice ad2 U.length cap2] (.slice ad2 U.length cap2) rfl hF ⟨rfl,trivial⟩ rfl ?_
   exact ⟨U,ad2,cap2,by rw [hD]; exact hsel.end (by omega),hsel.srt,rfl,own_s,sep.low 1 rfl,e0⟩
end Go.Proofs.Ytlghdimpgfhmcaa
