/- Walks of trees of hashes: what each function computes, as a law of its calls. No condition but those that each theorem names. -/
import Derived.Test.YtkjlafiefgbjpaaDoorTreeD
import Derived.Test.YtkjlafiefgbjpaaDoorTreeE
import Derived.Test.YtkjlafiefgbjpaaDoorTreeG
namespace Go.Proofs.YtkjlafiefgbjpaaDoor
open Go Go.Lane Go.Sha
noncomputable def b17 : Code := Tryd.f17.body.getD .skip
set_option maxHeartbeats 1000000 in
theorem tincl_sat (h : Heap) (L : List Hs) (va : Option Addr) (vc n : Nat) (hL : HR h va vc n L) (hn : n ≤ 1099511627000) (m : Int) (kt : Ktab h) : Sat Tryd.prog 17 #[.slice va n vc,.int .i64 m] h fun v h' => ∃ s,v = .tuple #[s,.int .i64 (inclZ L m).2] ∧ OwnNew h h' 31 s (inclZ L m).1 := by
 have hLn := hL.2.2
 have e0 := Ext.refl h
 have h0s := kt.lt
 have sep : Sep h.size h.size [] := Sep.nil _ _
 refine sat_of (args := [.slice va n vc,.int .i64 m]) (fn := Tryd.f17) (B := b17) (n := 51) (L := [(0,.slice va n vc),(1,.int .i64 m)]) Tryd.func17 rfl (by kernel_rfl) rfl ?_
 intro a hF
 refine cS ?_
 refine cP 0 hF ?_
 refine sP 2 [.slice none 0 0,.int .i64 0] ?_
 refine sD [(0,.slice va n vc),(1,.int .i64 m)] ?_
 clear hF a; intro a hF
 refine tK ?_
 refine cS ?_
 refine cS ?_
 have hm3 : m < 0 ∨ (n : Int) ≤ m ∨ ∃ k : Nat,m = (k : Int) ∧ k < n := by
  rcases Int.lt_or_le m 0 with h0 | h0
  ·exact .inl h0
  ·rcases Int.lt_or_le m n with h1 | h1
   ·exact .inr (.inr ⟨m.toNat,by omega,by omega⟩)
   ·exact .inr (.inl h1)
 rcases hm3 with hm0 | hm0 | ⟨k,rfl,hk⟩
 ·skip
  refine cP 1 hF ?_
  refine sP 1 [.int .i64 m] ?_
  refine s1 2 (.bool true) (.bool (decide (m < (0 : Int)))) (congrArg Value.bool (decide_eq_true (by omega))) ?_
  refine sP 8 [.bool true,undef,undef,undef,undef,.bool true] ?_
  refine sD [(0,.slice va n vc),(1,.int .i64 m),(15,.bool true)] ?_
  clear hF a; intro a hF
  refine tK ?_
  refine cT 15 hF ?_
  refine cS ?_
  refine cP 2 hF ?_
  refine sP 2 [.slice none 0 0,.int .i64 50] ?_
  refine sD [(4,.slice none 0 0),(5,.int .i64 50)] ?_
  clear hF a; intro a hF
  refine tK ?_
  refine cR ?_
  show retK Tryd.prog Tryd.f17 (fun v h' => ∃ s,v = .tuple #[s,.int .i64 (inclZ L m).2] ∧ OwnNew h h' 31 s (inclZ L m).1) .ret a h
  refine ret_ok [.tmp 4,.tmp 5] [.slice none 0 0,.int .i64 50] (.tuple #[.slice none 0 0,.int .i64 50]) rfl hF ⟨rfl,rfl,trivial⟩ rfl ?_
  rw [inclZ_no (by omega)]; exact ⟨_,rfl,OwnNew.none e0⟩
 ·skip
  refine cP 1 hF ?_
  refine sP 1 [.int .i64 m] ?_
  refine s1 2 (.bool false) (.bool (decide (m < (0 : Int)))) (congrArg Value.bool (decide_eq_false (by omega))) ?_
  refine sP 6 [.bool false,.int .i64 m,.slice va n vc,nV n] ?_
  refine s1 7 (.bool true) (.bool (decide (((n : Nat) : Int) ≤ m))) (congrArg Value.bool (decide_eq_true (by omega))) ?_
  refine sP 8 [.bool true] ?_
  refine sD [(0,.slice va n vc),(1,.int .i64 m),(15,.bool true)] ?_
  clear hF a; intro a hF
  refine tK ?_
  refine cT 15 hF ?_
  refine cS ?_
  refine cP 2 hF ?_
  refine sP 2 [.slice none 0 0,.int .i64 50] ?_
  refine sD [(4,.slice none 0 0),(5,.int .i64 50)] ?_
  clear hF a; intro a hF
  refine tK ?_
  refine cR ?_
  show retK Tryd.prog Tryd.f17 (fun v h' => ∃ s,v = .tuple #[s,.int .i64 (inclZ L m).2] ∧ OwnNew h h' 31 s (inclZ L m).1) .ret a h
  refine ret_ok [.tmp 4,.tmp 5] [.slice none 0 0,.int .i64 50] (.tuple #[.slice none 0 0,.int .i64 50]) rfl hF ⟨rfl,rfl,trivial⟩ rfl ?_
  rw [inclZ_no (by omega)]; exact ⟨_,rfl,OwnNew.none e0⟩
 ·skip
  refine cP 1 hF ?_
  refine sP 1 [nV k] ?_
  refine s1 2 (.bool false) (.bool (decide (((k : Nat) : Int) < (0 : Int)))) (congrArg Value.bool (decide_eq_false (by omega))) ?_
  refine sP 6 [.bool false,nV k,.slice va n vc,nV n] ?_
  refine s1 7 (.bool false) (.bool (decide (((n : Nat) : Int) ≤ ((k : Nat) : Int)))) (congrArg Value.bool (decide_eq_false (by omega))) ?_
  refine sP 8 [.bool false] ?_
  refine sD [(0,.slice va n vc),(1,nV k),(15,.bool false)] ?_
  clear hF a; intro a hF
  refine tK ?_
  refine cF 15 hF ?_
  refine cN ?_
  refine tK ?_
  refine cS ?_
  refine cP 3 hF ?_
  refine sP 1 [.slice none 0 0] ?_
  refine sD [(0,.slice va n vc),(1,nV k),(6,.slice none 0 0)] ?_
  clear hF a; intro a hF
  refine tK ?_
  refine cS ?_
  refine cB 0 ?_
  have own_p : Own h (.slice none 0 0) 31 0 32 (hcs []) := Own.nil _ _ _
  have hlo := e0.size
  replace sep := sep.none hlo; clear hlo
  have hinv : incl L k = incl L k ++ ([] : List Hs).reverse := by simp
  refine C.loop (fun m a h' => ∃ L' : List Hs,∃ va' : Option Addr,∃ vc' : Nat,∃ n' : Nat,∃ m' : Nat,∃ p : List Hs,∃ ad : Option Addr,∃ cap : Nat,m = n' + 1 ∧ (Ext h h') ∧ (Ktab h') ∧ (HR h va' vc' n' L') ∧ (m' < n' ∧ n' + p.length ≤ n) ∧ (incl L k = incl L' m' ++ p.reverse) ∧ (All32 p) ∧ (Own h' (.slice ad p.length cap) 31 p.length 32 (hcs p)) ∧ (Sep h.size h'.size [ad.map (·.block)]) ∧ (Fr a 51 [(0,.slice va' n' vc'),(1,.int .i64 ((m' : Nat) : Int)),(6,.slice ad p.length cap)])) (n + 1) [1,1,1,0,0,0] (by kernel_rfl) ⟨L,va,vc,n,k,[],none,0,rfl,e0,kt,hL,(by simp; omega),hinv,All32.nil,own_p,sep,hF⟩ ?_
  clear hF a
  clear e0
  clear kt
  clear hL
  clear hinv
  clear own_p
  clear sep
  rintro m a h1 ⟨L',va',vc',n',m',p,ad,cap,rfl,e0,kt,hL',hm',hinv,h32p,own_p,sep,hF⟩
  have hln' := hL'.2.2
  refine cS ?_
  refine cS ?_
  refine cP 4 hF ?_
  refine sP 3 [.slice va' n' vc',nV (n'),.bool (decide ((1 : Int) < ((n' : Nat) : Int)))] ?_
  refine sD [(0,.slice va' n' vc'),(1,nV (m')),(6,.slice ad p.length cap),(18,.bool (decide ((1 : Int) < ((n' : Nat) : Int))))] ?_
  clear hF a; intro a hF
  refine tK ?_
  refine cC 18 (decide ((1 : Int) < ((n' : Nat) : Int))) hF (fun hc2 => ?_) (fun hc2 => ?_)
  ·skip
   replace hc2 := of_decide_eq_true hc2
   obtain ⟨aa,rfl,hcap⟩ := hL'.someA (by omega)
   have hhl := half_lt (n := n') (by omega)
   have hhp := half_pos n'
   obtain ⟨ad2,had2⟩ : ∃ x,x = if vc' = half n' then (some aa : Option Addr) else (some aa : Option Addr).map (·.add (half n' * 32)) := ⟨_,rfl⟩
   refine cN ?_
   refine tK ?_
   refine cB 1 ?_
   refine cS ?_
   refine cP 5 hF ?_
   refine sP 2 [.slice (some aa) n' vc',nV (n')] ?_
   refine sC 3 (.int .i64 ((half n' : Nat) : Int)) (Does.call (f := 27) (args := #[.int .i64 ((n' : Nat) : Int)]) (by kernel_rfl) (split_sat _ n' (by omega) (by omega))) ?_
   refine sP 4 [nV (half n')] ?_
   refine sD [(0,.slice (some aa) n' vc'),(1,nV (m')),(6,.slice ad p.length cap),(7,nV (half n'))] ?_
   clear hF a; intro a hF
   refine tK ?_
   refine cS ?_
   refine cP 6 hF ?_
   refine sP 3 [nV (m'),nV (half n'),.bool (decide (((m' : Nat) : Int) < ((half n' : Nat) : Int)))] ?_
   refine sD [(0,.slice (some aa) n' vc'),(1,nV (m')),(6,.slice ad p.length cap),(7,nV (half n')),(24,.bool (decide (((m' : Nat) : Int) < ((half n' : Nat) : Int))))] ?_
   clear hF a; intro a hF
   refine tK ?_
   refine cC 24 (decide (((m' : Nat) : Int) < ((half n' : Nat) : Int))) hF (fun hc3 => ?_) (fun hc3 => ?_)
   ·skip
    replace hc3 := of_decide_eq_true hc3
    refine cS ?_
    refine cP 7 hF ?_
    refine sP 3 [.slice ad p.length cap,.slice (some aa) n' vc',nV (half n')] ?_
    refine sC 4 (.slice ad2 (n' - half n') (vc' - half n')) ((fun h => Calm.sliceO (a := (some aa)) (len := n') (cap := vc') (sz := 32) (x := ad2) (half n') n' vc' (n' - half n') (vc' - half n') (by kernel_rfl) (.inl ⟨rfl,rfl⟩) (.inl ⟨rfl,rfl⟩) (.inr rfl) (by omega) (by omega) had2 (by first | rfl | omega) (by first | rfl | omega) h) _) ?_
    refine SeqK.eff (k' := 5) (Does.call (f := 21) (args := #[.slice ad2 (n' - half n') (vc' - half n')]) (by kernel_rfl) (troot_sat _ (L'.drop (half n')) _ _ (n' - half n') ((hL'.ext e0).drop (by omega) had2) kt (by omega))) rfl ?_
    rintro _ h4 ⟨rfl,g⟩
    replace e0 := e0.ext g
    replace kt := kt.ext g
    replace own_p := own_p.ext g
    replace sep := sep.up g.size
    clear g
    refine SeqK.eff (k' := 6) (Does.newHs (L := [root (L'.drop (half n'))]) (t := 26) (E := 31) (by_ := 32) (n := 1) (by kernel_rfl) (by kernel_rfl) (All32.cons (root_len (hL'.2.1.drop _)) All32.nil) rfl (by decide) (by decide)) rfl ?_
    rintro _ h5 ⟨rfl,hh⟩
    have g6 : Ext h4 h5 := push_ext hh
    have m7 : h5[h4.size]? = some (.cells (hcs [root (L'.drop (half n'))]).toArray 31) := push_at hh
    clear hh
    have lt8 := blk_lt m7
    have zs9 := e0.size
    have hlo := e0.size
    have sepo := sep
    replace e0 := e0.ext g6
    replace kt := kt.ext g6
    replace own_p := own_p.ext g6
    replace sep := sep.up g6.size
    replace sep := sepo.new hlo (blk_lt m7)
    clear sepo hlo
    refine SeqK.eff (k' := 7) (Does.append2 (t := 26) (E := 31) (sz := 32) (by_ := 32) (n := p.length) (m := 1) (v := .slice ad p.length cap) (x := .slice (some ⟨h4.size,0,none⟩) 1 1) (xs := (hcs p)) (ys := (hcs ([root (L'.drop (half n'))]))) (by kernel_rfl) (by kernel_rfl) own_p (hrow1 (root_len (hL'.2.1.drop _)) m7) (ones_hcs _) (by unfold maxLen; omega) (by omega)) rfl ?_
    rintro _ h12 ⟨ad10,cap11,rfl,ownx,g,hb⟩
    rw [blkOf_slice] at g hb
    have hlo := e0.size
    have sepo := sep
    replace e0 := e0.grew g (sep.low 1 rfl)
    replace kt := kt.grew g (sep.zero 1 rfl h0s)
    replace m7 := Grew.blk g m7 ((sep.bp 0 1))
    replace sep := sep.up g.size
    replace sep : Sep h.size h12.size [some (h4.size),ad10.map (·.block)] := sepo.set g.size hlo 1 (y := ad10.map (fun (x : Addr) => x.block)) rfl (hb.imp id fun e => .inr ⟨_,e,Nat.le_refl _⟩) (fun k e => ownx.lt (by rw [blkOf_slice]; exact e))
    replace own_p : Own h12 (.slice ad10 ((p ++ [root (L'.drop (half n'))]).length) cap11) 31 ((p ++ [root (L'.drop (half n'))]).length) 32 (hcs (p ++ [root (L'.drop (half n'))])) := Own.appG ownx (by first | rfl | exact (hcs_append _ _).symm | simp [hcs_append]) (by first | rfl | (simp; done) | (simp; omega))
    clear ownx g hb hlo sepo
    clear m7
    replace sep := sep.sub (l' := [ad10.map (·.block)]) (.cons _ (.cons_cons _ (.slnil)))
    refine sP 8 [.slice ad10 (p.length + 1) cap11] ?_
    refine sD [(0,.slice (some aa) n' vc'),(1,nV (m')),(6,.slice ad10 (p.length + 1) cap11),(7,nV (half n'))] ?_
    clear hF a; intro a hF
    have hcan : (p.length + 1 : Nat) = (p ++ [root (L'.drop (half n'))]).length := by first | (simp; done) | (simp; omega)
    rw [hcan] at hF; clear hcan
    refine tK ?_
    refine cP 8 hF ?_
    refine sP 2 [.slice (some aa) n' vc',nV (half n')] ?_
    refine sC 3 (.slice (some aa) (half n') vc') ((fun h => Calm.sliceO (a := (some aa)) (len := n') (cap := vc') (sz := 32) (x := (some aa)) 0 (half n') vc' (half n') vc' (by kernel_rfl) (.inl ⟨rfl,rfl⟩) (.inr rfl) (.inl ⟨rfl,rfl⟩) (by omega) (by omega) (opt_add0 _ 32) (by first | rfl | omega) (by first | rfl | omega) h) _) ?_
    refine sP 4 [.slice (some aa) (half n') vc'] ?_
    refine sD [(0,.slice (some aa) (half n') vc'),(1,nV (m')),(6,.slice ad10 ((p ++ [root (L'.drop (half n'))]).length) cap11)] ?_
    clear hF a; intro a hF
    have hL2 := hL'.take (k := half n') (by omega)
    have hinv2 : incl L k = incl (L'.take (half n')) m' ++ (p ++ [root (L'.drop (half n'))]).reverse := by rw [hinv,incl_lo (l := L') (by omega) (by rw [hln']; omega),hln']; simp
    have hm2 : m' < half n' ∧ half n' + (p ++ [root (L'.drop (half n'))]).length ≤ n := by rw [List.length_append,List.length_singleton]; omega
    have h32p2 : All32 (p ++ [root (L'.drop (half n'))]) := h32p.append (All32.one (root_len (hL'.2.1.drop _)))
    show ∃ m',m' < _ ∧ _
    refine ⟨_,?_,_,_,_,(half n'),_,_,ad10,cap11,rfl,e0,kt,hL2,hm2,hinv2,h32p2,own_p,sep,hF⟩
    omega
   ·skip
    replace hc3 := of_decide_eq_false hc3
    refine cS ?_
    refine cP 9 hF ?_
    refine sP 3 [.slice ad p.length cap,.slice (some aa) n' vc',nV (half n')] ?_
    refine sC 4 (.slice (some aa) (half n') vc') ((fun h => Calm.sliceO (a := (some aa)) (len := n') (cap := vc') (sz := 32) (x := (some aa)) 0 (half n') vc' (half n') vc' (by kernel_rfl) (.inl ⟨rfl,rfl⟩) (.inr rfl) (.inl ⟨rfl,rfl⟩) (by omega) (by omega) (opt_add0 _ 32) (by first | rfl | omega) (by first | rfl | omega) h) _) ?_
    refine SeqK.eff (k' := 5) (Does.call (f := 21) (args := #[.slice (some aa) (half n') vc']) (by kernel_rfl) (troot_sat _ (L'.take (half n')) _ _ (half n') ((hL'.ext e0).take (k := half n') (by omega)) kt (by omega))) rfl ?_
    rintro _ h13 ⟨rfl,g⟩
    replace e0 := e0.ext g
    replace kt := kt.ext g
    replace own_p := own_p.ext g
    replace sep := sep.up g.size
    clear g
    refine SeqK.eff (k' := 6) (Does.newHs (L := [root (L'.take (half n'))]) (t := 26) (E := 31) (by_ := 32) (n := 1) (by kernel_rfl) (by kernel_rfl) (All32.cons (root_len (hL'.2.1.take _)) All32.nil) rfl (by decide) (by decide)) rfl ?_
    rintro _ h14 ⟨rfl,hh⟩
    have g15 : Ext h13 h14 := push_ext hh
    have m16 : h14[h13.size]? = some (.cells (hcs [root (L'.take (half n'))]).toArray 31) := push_at hh
    clear hh
    have lt17 := blk_lt m16
    have zs18 := e0.size
    have hlo := e0.size
    have sepo := sep
    replace e0 := e0.ext g15
    replace kt := kt.ext g15
    replace own_p := own_p.ext g15
    replace sep := sep.up g15.size
    replace sep := sepo.new hlo (blk_lt m16)
    clear sepo hlo
    refine SeqK.eff (k' := 7) (Does.append2 (t := 26) (E := 31) (sz := 32) (by_ := 32) (n := p.length) (m := 1) (v := .slice ad p.length cap) (x := .slice (some ⟨h13.size,0,none⟩) 1 1) (xs := (hcs p)) (ys := (hcs ([root (L'.take (half n'))]))) (by kernel_rfl) (by kernel_rfl) own_p (hrow1 (root_len (hL'.2.1.take _)) m16) (ones_hcs _) (by unfold maxLen; omega) (by omega)) rfl ?_
    rintro _ h21 ⟨ad19,cap20,rfl,ownx,g,hb⟩
    rw [blkOf_slice] at g hb
    have hlo := e0.size
    have sepo := sep
    replace e0 := e0.grew g (sep.low 1 rfl)
    replace kt := kt.grew g (sep.zero 1 rfl h0s)
    replace m16 := Grew.blk g m16 ((sep.bp 0 1))
    replace sep := sep.up g.size
    replace sep : Sep h.size h21.size [some (h13.size),ad19.map (·.block)] := sepo.set g.size hlo 1 (y := ad19.map (fun (x : Addr) => x.block)) rfl (hb.imp id fun e => .inr ⟨_,e,Nat.le_refl _⟩) (fun k e => ownx.lt (by rw [blkOf_slice]; exact e))
    replace own_p : Own h21 (.slice ad19 ((p ++ [root (L'.take (half n'))]).length) cap20) 31 ((p ++ [root (L'.take (half n'))]).length) 32 (hcs (p ++ [root (L'.take (half n'))])) := Own.appG ownx (by first | rfl | exact (hcs_append _ _).symm | simp [hcs_append]) (by first | rfl | (simp; done) | (simp; omega))
    clear ownx g hb hlo sepo
    clear m16
    replace sep := sep.sub (l' := [ad19.map (·.block)]) (.cons _ (.cons_cons _ (.slnil)))
    refine sP 8 [.slice ad19 (p.length + 1) cap20] ?_
    refine sD [(0,.slice (some aa) n' vc'),(1,nV (m')),(6,.slice ad19 (p.length + 1) cap20),(7,nV (half n'))] ?_
    clear hF a; intro a hF
    have hcan : (p.length + 1 : Nat) = (p ++ [root (L'.take (half n'))]).length := by first | (simp; done) | (simp; omega)
    rw [hcan] at hF; clear hcan
    show C Tryd.prog (sub b17 [1,1,1,0,0,0,1,0,1,1,1,1]) _ a h21
    refine cP 10 hF ?_
    refine sP 2 [.slice (some aa) n' vc',nV (half n')] ?_
    refine sC 3 (.slice ad2 (n' - half n') (vc' - half n')) ((fun h => Calm.sliceO (a := (some aa)) (len := n') (cap := vc') (sz := 32) (x := ad2) (half n') n' vc' (n' - half n') (vc' - half n') (by kernel_rfl) (.inl ⟨rfl,rfl⟩) (.inl ⟨rfl,rfl⟩) (.inr rfl) (by omega) (by omega) had2 (by first | rfl | omega) (by first | rfl | omega) h) _) ?_
    refine sP 5 [nV (m'),nV (half n')] ?_
    refine s1 6 (.int .i64 ((m' - (half n') : Nat) : Int)) (.int .i64 (IntKind.i64.wrap (((m' : Nat) : Int) - ((half n' : Nat) : Int)))) (congrArg (Value.int .i64) (w64' (by omega) (by omega) (by omega))) ?_
    refine sP 8 [.slice ad2 (n' - half n') (vc' - half n'),nV (m' - (half n'))] ?_
    refine sD [(0,.slice ad2 (n' - half n') (vc' - half n')),(1,nV (m' - (half n'))),(6,.slice ad19 ((p ++ [root (L'.take (half n'))]).length) cap20)] ?_
    clear hF a; intro a hF
    have hL2 := hL'.drop (k := half n') (by omega) had2
    have hinv2 : incl L k = incl (L'.drop (half n')) (m' - half n') ++ (p ++ [root (L'.take (half n'))]).reverse := by rw [hinv,incl_hi (l := L') (by omega) (by rw [hln']; omega),hln']; simp
    have hm2 : m' - half n' < n' - half n' ∧ n' - half n' + (p ++ [root (L'.take (half n'))]).length ≤ n := by rw [List.length_append,List.length_singleton]; omega
    have h32p2 : All32 (p ++ [root (L'.take (half n'))]) := h32p.append (All32.one (root_len (hL'.2.1.take _)))
    show ∃ m',m' < _ ∧ _
    refine ⟨_,?_,_,_,_,(n' - half n'),_,_,ad19,cap20,rfl,e0,kt,hL2,hm2,hinv2,h32p2,own_p,sep,hF⟩
    omega
  ·skip
   replace hc2 := of_decide_eq_false hc2
   refine cX 0 ?_
   show C Tryd.prog (sub b17 [1,1,1,1]) _ a h1
   refine cS ?_
   refine cP 11 hF ?_
   refine sP 1 [.slice ad p.length cap] ?_
   refine SeqK.eff (k' := 2) (Does.call (f := 28) (args := #[.slice ad p.length cap]) (by kernel_rfl) (reverse_sat _ ad cap p.length p own_p h32p rfl (by omega))) rfl ?_
   rintro _ h22 ⟨ownx,g⟩
   replace e0 := e0.grew g (sep.low 0 rfl)
   replace kt := kt.grew g (sep.zero 0 rfl h0s)
   replace sep := sep.up g.size
   clear own_p; have own_p := ownx; clear ownx g
   refine sD [(6,.slice ad p.length cap)] ?_
   clear hF a; intro a hF
   refine tK ?_
   refine cS ?_
   refine cP 12 hF ?_
   refine sP 3 [.slice ad p.length cap,.slice ad p.length cap,.int .i64 0] ?_
   refine sD [(4,.slice ad p.length cap),(5,.int .i64 0)] ?_
   clear hF a; intro a hF
   refine tK ?_
   refine cR ?_
   show retK Tryd.prog Tryd.f17 (fun v h' => ∃ s,v = .tuple #[s,.int .i64 (inclZ L (k : Int)).2] ∧ OwnNew h h' 31 s (inclZ L (k : Int)).1) .ret a h22
   refine ret_ok [.tmp 4,.tmp 5] [.slice ad p.length cap,.int .i64 0] (.tuple #[.slice ad p.length cap,.int .i64 0]) rfl hF ⟨rfl,rfl,trivial⟩ rfl ?_
   rw [inclZ_yes (by omega)]
   exact ⟨_,rfl,OwnNew.cast (p := p.reverse) (by rw [hinv,incl_one (by omega)]; rfl) ⟨ad,cap,by rw [List.length_reverse],by rw [List.length_reverse]; exact own_p,sep.low 0 rfl,e0⟩⟩
end Go.Proofs.YtkjlafiefgbjpaaDoor
