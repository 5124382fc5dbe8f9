/- Walks of trees of hashes: what each function computes, as a law of its calls. No condition but those that each theorem names. -/
import Derived.Test.YteinikjbaaembaaDoorTreeD
import Derived.Test.YteinikjbaaembaaDoorTreeE
namespace Go.Proofs.YteinikjbaaembaaDoor
open Go Go.Lane Go.Sha
noncomputable def b43 : Code := Tryd.f43.body.getD .skip
set_option maxHeartbeats 1000000 in
theorem down_step (hz : Heap) (bw bp bd : Nat) (h0s : 0 < hz.size) (h : Heap) (L : List Hs) (va : Option Addr) (vc n m : Nat) (whole : Bool) (p : List Hs) (ad : Option Addr) (cap : Nat) (ih : ∀ (h : Heap) (L : List Hs) (va : Option Addr) (vc n' m : Nat) (whole : Bool) (p : List Hs) (ad : Option Addr) (cap : Nat),n' < n → 0 < m → m ≤ n' → HR hz va vc n' L → h[bw]? = some (.cells #[.bool whole] 4) → h[bp]? = some (.cells #[.slice ad p.length cap] 24) → h[bd]? = some (.cells #[.func (.func 43) #[] #[.pointer (some ⟨bw,0,none⟩),.pointer (some ⟨bp,0,none⟩),.pointer (some ⟨bd,0,none⟩)]] 64) → Own h (.slice ad p.length cap) 23 p.length 32 (hcs p) → Sep hz.size h.size [ad.map (·.block),some bw,some bp,some bd] → Ext hz h → Ktab h → p.length + n' ≤ 1099511627000 → Sat Tryd.prog 43 #[.slice va n' vc,.int .i64 ((m : Nat) : Int),.pointer (some ⟨bw,0,none⟩),.pointer (some ⟨bp,0,none⟩),.pointer (some ⟨bd,0,none⟩)] h (fun _ h' => ∃ ad' cap' wh',h'[bw]? = some (.cells #[.bool wh'] 4) ∧ h'[bp]? = some (.cells #[.slice ad' (p ++ cons m L whole).length cap'] 24) ∧ h'[bd]? = some (.cells #[.func (.func 43) #[] #[.pointer (some ⟨bw,0,none⟩),.pointer (some ⟨bp,0,none⟩),.pointer (some ⟨bd,0,none⟩)]] 64) ∧ Own h' (.slice ad' (p ++ cons m L whole).length cap') 23 (p ++ cons m L whole).length 32 (hcs (p ++ cons m L whole)) ∧ Sep hz.size h'.size [(ad' : Option Addr).map (·.block),some bw,some bp,some bd] ∧ Ext hz h' ∧ Ktab h')) (hm0 : 0 < m) (hm : m ≤ n) (hL : HR hz va vc n L) (hw : h[bw]? = some (.cells #[.bool whole] 4)) (hp : h[bp]? = some (.cells #[.slice ad (p).length cap] 24)) (hd : h[bd]? = some (.cells #[.func (.func 43) #[] #[.pointer (some ⟨bw,0,none⟩),.pointer (some ⟨bp,0,none⟩),.pointer (some ⟨bd,0,none⟩)]] 64)) (own_p : Own h (.slice ad (p).length cap) 23 (p).length 32 (hcs p)) (sep : Sep hz.size h.size [ad.map (·.block),some bw,some bp,some bd]) (e0 : Ext hz h) (kt : Ktab h) (hn : p.length + n ≤ 1099511627000) : Sat Tryd.prog 43 #[.slice va n vc,.int .i64 ((m : Nat) : Int),.pointer (some ⟨bw,0,none⟩),.pointer (some ⟨bp,0,none⟩),.pointer (some ⟨bd,0,none⟩)] h fun _ h' => ∃ ad' cap' wh',h'[bw]? = some (.cells #[.bool wh'] 4) ∧ h'[bp]? = some (.cells #[.slice ad' (p ++ cons m L whole).length cap'] 24) ∧ h'[bd]? = some (.cells #[.func (.func 43) #[] #[.pointer (some ⟨bw,0,none⟩),.pointer (some ⟨bp,0,none⟩),.pointer (some ⟨bd,0,none⟩)]] 64) ∧ Own h' (.slice ad' (p ++ cons m L whole).length cap') 23 (p ++ cons m L whole).length 32 (hcs (p ++ cons m L whole)) ∧ Sep hz.size h'.size [(ad' : Option Addr).map (·.block),some bw,some bp,some bd] ∧ Ext hz h' ∧ Ktab h' := by
 have hLn := hL.2.2
 refine sat_of (args := [.slice va n vc,.int .i64 ((m : Nat) : Int),.pointer (some ⟨bw,0,none⟩),.pointer (some ⟨bp,0,none⟩),.pointer (some ⟨bd,0,none⟩)]) (fn := Tryd.f43) (B := b43) (n := 53) (L := [(0,.slice va n vc),(1,.int .i64 ((m : Nat) : Int)),(2,.pointer (some ⟨bw,0,none⟩)),(3,.pointer (some ⟨bp,0,none⟩)),(4,.pointer (some ⟨bd,0,none⟩))]) Tryd.func43 rfl (by kernel_rfl) rfl ?_
 intro a hF
 refine cS ?_
 refine cS ?_
 refine cP 0 hF ?_
 refine sP 4 [nV m,.slice va n vc,nV n,.bool (decide (((m : Nat) : Int) = ((n : Nat) : Int)))] ?_
 refine sD [(0,.slice va n vc),(1,nV m),(2,pV bw),(3,pV bp),(4,pV bd),(11,.bool (decide (((m : Nat) : Int) = ((n : Nat) : Int))))] ?_
 clear hF a; intro a hF
 refine tK ?_
 refine cC 11 (decide (((m : Nat) : Int) = ((n : Nat) : Int))) hF (fun hc1 => ?_) (fun hc1 => ?_)
 ·skip
  replace hc1 := of_decide_eq_true hc1
  refine cS ?_
  refine cS ?_
  refine cP 1 hF ?_
  refine sC 1 (.bool whole) (Calm.load (T := 4) (p := ⟨bw,0,none⟩) (by kernel_rfl) (Loads.one (k := 1) (by kernel_rfl) ((hcell_blk hw).trans rfl))) ?_
  refine sP 2 [.bool (!whole)] ?_
  refine sD [(0,.slice va n vc),(3,pV bp),(13,.bool (!whole))] ?_
  clear hF a; intro a hF
  refine tK ?_
  refine cC 13 (!whole) hF (fun hc2 => ?_) (fun hc2 => ?_)
  ·skip
   have hwh : whole = false := by cases whole <;> simp_all
   refine cD [0,0,2,6,15,31] 2 mixed hF ?_
   refine mL 1 1 0 (.slice ad p.length cap) (Calm.load (T := 24) (p := ⟨bp,0,none⟩) (by kernel_rfl) (Loads.one (k := 1) (by kernel_rfl) ((hcell_blk hp).trans rfl))) ?_
   refine mP 3 [1] [.slice va n vc] ?_
   refine SimK.eff (i := 2) (D' := 7) (X' := 6) (by kernel_rfl) (by kernel_rfl) (by kernel_rfl) [0] (by kernel_rfl) (Does.call (f := 20) (args := #[.slice va n vc]) (by kernel_rfl) (troot_sat _ (L) _ _ (n) (hL.ext e0) kt (by omega))) ?_
   rintro _ h3 ⟨rfl,g⟩
   replace e0 := e0.ext g
   replace kt := kt.ext g
   replace own_p := own_p.ext g
   replace hw := Ext.blk g hw
   replace hp := Ext.blk g hp
   replace hd := Ext.blk g hd
   replace sep := sep.up g.size
   refine ⟨?_,?_⟩
   ·intro j hj
    simp only [List.mem_cons,List.not_mem_nil,or_false] at hj
    subst hj
    exact goodOf (Calm.load (T := 24) (p := ⟨bp,0,none⟩) (by kernel_rfl) (Loads.one (k := 1) (by kernel_rfl) ((hcell_blk hp).trans rfl)))
   clear g
   refine SimK.eff (i := 3) (D' := 15) (X' := 14) (by kernel_rfl) (by kernel_rfl) (by kernel_rfl) [0] (by kernel_rfl) (Does.newHs (L := [root L]) (t := 24) (E := 23) (by_ := 32) (n := 1) (by kernel_rfl) (by kernel_rfl) (All32.cons (root_len hL.2.1) All32.nil) rfl (by decide) (by decide)) ?_
   rintro _ h4 ⟨rfl,hh⟩
   have g5 : Ext h3 h4 := push_ext hh
   have m6 : h4[h3.size]? = some (.cells (hcs [root L]).toArray 23) := push_at hh
   clear hh
   have lt7 := blk_lt m6
   have zs8 := e0.size
   have hlo := e0.size
   have sepo := sep
   replace e0 := e0.ext g5
   replace kt := kt.ext g5
   replace own_p := own_p.ext g5
   replace hw := Ext.blk g5 hw
   replace hp := Ext.blk g5 hp
   replace hd := Ext.blk g5 hd
   replace sep := sep.up g5.size
   replace sep := sepo.new hlo (blk_lt m6)
   clear sepo hlo
   refine ⟨?_,?_⟩
   ·intro j hj
    simp only [List.mem_cons,List.not_mem_nil,or_false] at hj
    subst hj
    exact goodOf (Calm.load (T := 24) (p := ⟨bp,0,none⟩) (by kernel_rfl) (Loads.one (k := 1) (by kernel_rfl) ((hcell_blk hp).trans rfl)))
   refine SimK.eff0 (i := 4) (D' := 31) (X' := 31) (by kernel_rfl) (by kernel_rfl) (by kernel_rfl) (by kernel_rfl) (Does.append2 (t := 24) (E := 23) (sz := 32) (by_ := 32) (n := p.length) (m := 1) (v := .slice ad p.length cap) (x := .slice (some ⟨h3.size,0,none⟩) 1 1) (xs := (hcs p)) (ys := (hcs ([root L]))) (by kernel_rfl) (by kernel_rfl) own_p (hrow1 (root_len hL.2.1) m6) (ones_hcs _) (by unfold maxLen; first | omega | (rw [List.length_append]; omega)) (by first | omega | (rw [List.length_append]; omega))) ?_
   rintro _ h11 ⟨ad9,cap10,rfl,ownx,g,hb⟩
   rw [blkOf_slice] at g hb
   have hlo := e0.size
   have sepo := sep
   replace e0 := e0.grew g (sep.low 1 rfl)
   replace kt := kt.grew g (sep.zero 1 rfl h0s)
   replace hw := Grew.blk g hw ((sep.bp 2 1))
   replace hp := Grew.blk g hp ((sep.bp 3 1))
   replace hd := Grew.blk g hd ((sep.bp 4 1))
   replace m6 := Grew.blk g m6 ((sep.bp 0 1))
   replace sep := sep.up g.size
   replace sep : Sep hz.size h11.size [some (h3.size),ad9.map (·.block),some bw,some bp,some bd] := sepo.set g.size hlo 1 (y := ad9.map (fun (x : Addr) => x.block)) rfl (hb.imp id fun e => .inr ⟨_,e,Nat.le_refl _⟩) (fun k e => ownx.lt (by rw [blkOf_slice]; exact e))
   replace own_p : Own h11 (.slice ad9 ((p ++ [root L]).length) cap10) 23 ((p ++ [root L]).length) 32 (hcs (p ++ [root L])) := Own.appG ownx (by first | rfl | exact (hcs_append _ _).symm | simp [hcs_append]) (by first | rfl | (simp; done) | (simp; omega))
   clear ownx g hb hlo sepo
   clear m6
   replace sep := sep.sub (l' := [ad9.map (·.block),some bw,some bp,some bd]) (.cons _ (.cons_cons _ (.cons_cons _ (.cons_cons _ (.cons_cons _ (.slnil))))))
   refine SimK.eff0 (i := 5) (D' := 63) (X' := 63) (by kernel_rfl) (by kernel_rfl) (by kernel_rfl) (by kernel_rfl) (Does.store (b := bp) (off := 0) (vs := [.slice ad9 (p.length + 1) cap10]) (l := [.slice ad p.length cap]) (by kernel_rfl) hp (of_decide_eq_true (by kernel_rfl)) (List.all_eq_true.1 (by kernel_rfl))) ?_
   rintro _ h12 ⟨rfl,hh⟩
   have g13 : Grew (some (bp)) h11 h12 := hput_gr hh
   replace hp : h12[bp]? = some (.cells ([.slice ad9 (p.length + 1) cap10]).toArray 24) := hput_at (off := 0) (vs := [.slice ad9 (p.length + 1) cap10]) (l := ([.slice ad p.length cap])) hh (by kernel_rfl) hp
   clear hh
   replace e0 := e0.grew g13 (sep.low 2 rfl)
   replace kt := kt.grew g13 (sep.zero 2 rfl h0s)
   replace own_p := own_p.kept g13 (by rw [blkOf_slice]; exact (sep.ap 0 2))
   replace hw := Grew.blk g13 hw ((sep.bp 1 2))
   replace hd := Grew.blk g13 hd ((sep.bp 3 2))
   replace sep := sep.up g13.size
   refine mD [] ?_
   clear hF a; intro a hF
   refine tK ?_
   refine cR ?_
   show retK Tryd.prog Tryd.f43 (fun _ h' => ∃ ad' cap' wh',h'[bw]? = some (.cells #[.bool wh'] 4) ∧ h'[bp]? = some (.cells #[.slice ad' (p ++ cons m L whole).length cap'] 24) ∧ h'[bd]? = some (.cells #[.func (.func 43) #[] #[.pointer (some ⟨bw,0,none⟩),.pointer (some ⟨bp,0,none⟩),.pointer (some ⟨bd,0,none⟩)]] 64) ∧ Own h' (.slice ad' (p ++ cons m L whole).length cap') 23 (p ++ cons m L whole).length 32 (hcs (p ++ cons m L whole)) ∧ Sep hz.size h'.size [(ad' : Option Addr).map (·.block),some bw,some bp,some bd] ∧ Ext hz h' ∧ Ktab h') .ret a h12
   refine ret_ok [] [] (.tuple #[]) rfl hF trivial rfl ?_
   have hfin : p ++ [root L] = p ++ cons m L whole := by rw [cons_all hm0 (by omega),hwh]; rfl
   have hcl : p.length + 1 = (p ++ [root L]).length := by simp <;> omega
   rw [hcl] at hp
   rw [hfin] at own_p hp
   replace sep := sep.sub (l' := [ad9.map (·.block),some bw,some bp,some bd]) (.cons_cons _ (.cons_cons _ (.cons_cons _ (.cons_cons _ (.slnil)))))
   exact ⟨_,_,_,hw,hp,hd,own_p,sep,e0,kt⟩
  ·skip
   have hwh : whole = true := by cases whole <;> simp_all
   refine cN ?_
   refine tK ?_
   refine cR ?_
   show retK Tryd.prog Tryd.f43 (fun _ h' => ∃ ad' cap' wh',h'[bw]? = some (.cells #[.bool wh'] 4) ∧ h'[bp]? = some (.cells #[.slice ad' (p ++ cons m L whole).length cap'] 24) ∧ h'[bd]? = some (.cells #[.func (.func 43) #[] #[.pointer (some ⟨bw,0,none⟩),.pointer (some ⟨bp,0,none⟩),.pointer (some ⟨bd,0,none⟩)]] 64) ∧ Own h' (.slice ad' (p ++ cons m L whole).length cap') 23 (p ++ cons m L whole).length 32 (hcs (p ++ cons m L whole)) ∧ Sep hz.size h'.size [(ad' : Option Addr).map (·.block),some bw,some bp,some bd] ∧ Ext hz h' ∧ Ktab h') .ret a h
   refine ret_ok [] [] (.tuple #[]) rfl hF trivial rfl ?_
   have hfin : p = p ++ cons m L whole := by rw [cons_all hm0 (by omega),hwh]; simp
   have own9 : Own h (.slice ad (p ++ cons m L whole).length cap) 23 (p ++ cons m L whole).length 32 (hcs (p ++ cons m L whole)) := by rw [← hfin]; exact own_p
   have hp9 : h[bp]? = some (.cells #[.slice ad (p ++ cons m L whole).length cap] 24) := by rw [← hfin]; exact hp
   exact ⟨_,_,_,hw,hp9,hd,own9,sep,e0,kt⟩
 ·skip
  replace hc1 := of_decide_eq_false hc1
  obtain ⟨aa,rfl,hcap⟩ := hL.someA (by omega)
  have hhl := half_lt (n := n) (by omega)
  have hhp := half_pos n
  obtain ⟨ad2,had2⟩ : ∃ x,x = if vc = half n then (some aa : Option Addr) else (some aa : Option Addr).map (·.add (half n * 32)) := ⟨_,rfl⟩
  refine cN ?_
  refine tK ?_
  refine cS ?_
  refine cP 3 hF ?_
  refine sP 2 [.slice (some aa) n vc,nV n] ?_
  refine sC 3 (.int .i64 ((half n : Nat) : Int)) (Does.call (f := 41) (args := #[.int .i64 ((n : Nat) : Int)]) (by kernel_rfl) (split_sat _ n (by omega) (by omega))) ?_
  refine sP 4 [nV (half n)] ?_
  refine sD [(0,.slice (some aa) n vc),(1,nV m),(2,pV bw),(3,pV bp),(4,pV bd),(7,nV (half n))] ?_
  clear hF a; intro a hF
  refine tK ?_
  refine cS ?_
  refine cS ?_
  refine cP 4 hF ?_
  refine sP 3 [nV m,nV (half n),.bool (decide (((m : Nat) : Int) ≤ ((half n : Nat) : Int)))] ?_
  refine sD [(0,.slice (some aa) n vc),(1,nV m),(2,pV bw),(3,pV bp),(4,pV bd),(7,nV (half n)),(24,.bool (decide (((m : Nat) : Int) ≤ ((half n : Nat) : Int))))] ?_
  clear hF a; intro a hF
  refine tK ?_
  refine cC 24 (decide (((m : Nat) : Int) ≤ ((half n : Nat) : Int))) hF (fun hc14 => ?_) (fun hc14 => ?_)
  ·skip
   replace hc14 := of_decide_eq_true hc14
   refine cS ?_
   refine cD [0,0,0,6,0,31] 5 mixed hF ?_
   refine mL 1 1 0 (.func (.func 43) #[] #[.pointer (some ⟨bw,0,none⟩),.pointer (some ⟨bp,0,none⟩),.pointer (some ⟨bd,0,none⟩)]) (Calm.load (T := 64) (p := ⟨bd,0,none⟩) (by kernel_rfl) (Loads.one (k := 1) (by kernel_rfl) ((hcell_blk hd).trans rfl))) ?_
   refine mP 7 [1,2] [.slice (some aa) n vc,nV (half n)] ?_
   refine mF 15 3 (.slice (some aa) (half n) vc) (fun h => Calm.sliceO (a := (some aa)) (len := n) (cap := vc) (sz := 32) (x := (some aa)) 0 (half n) vc (half n) vc (by kernel_rfl) (.inl ⟨rfl,rfl⟩) (.inr rfl) (.inl ⟨rfl,rfl⟩) (by omega) (by omega) (opt_add0 _ 32) (by first | rfl | omega) (by first | rfl | omega) h) ?_
   refine mP 31 [4] [nV m] ?_
   have hpl := (hL.take (k := half n) (by omega)).2.2
   have hil := cons_len _ (L.take (half n)) m whole (Nat.le_refl _) (by omega) (by omega)
   refine SimK.eff0 (i := 5) (D' := 63) (X' := 63) (by kernel_rfl) (by kernel_rfl) (by kernel_rfl) (by kernel_rfl) (Does.call (f := 43) (args := #[.slice (some aa) (half n) vc,.int .i64 ((m : Nat) : Int),.pointer (some ⟨bw,0,none⟩),.pointer (some ⟨bp,0,none⟩),.pointer (some ⟨bd,0,none⟩)]) (by kernel_rfl) (ih _ (L.take (half n)) _ _ (half n) m whole p _ _ (by omega) (by omega) (by omega) (hL.take (k := half n) (by omega)) hw hp hd own_p sep e0 kt (by omega))) ?_
   rintro _ h15 ⟨ad3,cap3,wh3,hw3,hp3,hd3,own3,sep3,e3,kt3⟩
   clear hw hp hd own_p sep e0 kt
   have hw := hw3; have hp := hp3; have hd := hd3; have own_p := own3; have sep := sep3; have e0 := e3; have kt := kt3; clear hw3 hp3 hd3 own3 sep3 e3 kt3
   have hqa : (p ++ cons m (L.take (half n)) whole).length ≤ 2199023254000 := by rw [List.length_append]; omega
   refine mD [(0,.slice (some aa) n vc),(3,pV bp),(7,nV (half n))] ?_
   clear hF a; intro a hF
   refine tK ?_
   refine cS ?_
   refine cD [0,0,0,6,14,30,63,127] 6 mixed hF ?_
   refine mL 1 1 0 (.slice ad3 ((p ++ cons m (L.take (half n)) whole).length) cap3) (Calm.load (T := 24) (p := ⟨bp,0,none⟩) (by kernel_rfl) (Loads.one (k := 1) (by kernel_rfl) ((hcell_blk hp).trans rfl))) ?_
   refine mP 7 [1,2] [.slice (some aa) n vc,nV (half n)] ?_
   refine mF 15 3 (.slice ad2 (n - half n) (vc - half n)) (fun h => Calm.sliceO (a := (some aa)) (len := n) (cap := vc) (sz := 32) (x := ad2) (half n) n vc (n - half n) (vc - half n) (by kernel_rfl) (.inl ⟨rfl,rfl⟩) (.inl ⟨rfl,rfl⟩) (.inr rfl) (by omega) (by omega) had2 (by first | rfl | omega) (by first | rfl | omega) h) ?_
   refine SimK.eff (i := 4) (D' := 31) (X' := 30) (by kernel_rfl) (by kernel_rfl) (by kernel_rfl) [0] (by kernel_rfl) (Does.call (f := 20) (args := #[.slice ad2 (n - half n) (vc - half n)]) (by kernel_rfl) (troot_sat _ (L.drop (half n)) _ _ (n - half n) ((hL.ext e0).drop (by omega) had2) kt (by omega))) ?_
   rintro _ h16 ⟨rfl,g⟩
   replace e0 := e0.ext g
   replace kt := kt.ext g
   replace own_p := own_p.ext g
   replace hw := Ext.blk g hw
   replace hp := Ext.blk g hp
   replace hd := Ext.blk g hd
   replace sep := sep.up g.size
   refine ⟨?_,?_⟩
   ·intro j hj
    simp only [List.mem_cons,List.not_mem_nil,or_false] at hj
    subst hj
    exact goodOf (Calm.load (T := 24) (p := ⟨bp,0,none⟩) (by kernel_rfl) (Loads.one (k := 1) (by kernel_rfl) ((hcell_blk hp).trans rfl)))
   clear g
   refine SimK.eff (i := 5) (D' := 63) (X' := 62) (by kernel_rfl) (by kernel_rfl) (by kernel_rfl) [0] (by kernel_rfl) (Does.newHs (L := [root (L.drop (half n))]) (t := 24) (E := 23) (by_ := 32) (n := 1) (by kernel_rfl) (by kernel_rfl) (All32.cons (root_len (hL.2.1.drop _)) All32.nil) rfl (by decide) (by decide)) ?_
   rintro _ h17 ⟨rfl,hh⟩
   have g18 : Ext h16 h17 := push_ext hh
   have m19 : h17[h16.size]? = some (.cells (hcs [root (L.drop (half n))]).toArray 23) := push_at hh
   clear hh
   have lt20 := blk_lt m19
   have zs21 := e0.size
   have hlo := e0.size
   have sepo := sep
   replace e0 := e0.ext g18
   replace kt := kt.ext g18
   replace own_p := own_p.ext g18
   replace hw := Ext.blk g18 hw
   replace hp := Ext.blk g18 hp
   replace hd := Ext.blk g18 hd
   replace sep := sep.up g18.size
   replace sep := sepo.new hlo (blk_lt m19)
   clear sepo hlo
   refine ⟨?_,?_⟩
   ·intro j hj
    simp only [List.mem_cons,List.not_mem_nil,or_false] at hj
    subst hj
    exact goodOf (Calm.load (T := 24) (p := ⟨bp,0,none⟩) (by kernel_rfl) (Loads.one (k := 1) (by kernel_rfl) ((hcell_blk hp).trans rfl)))
   refine SimK.eff0 (i := 6) (D' := 127) (X' := 127) (by kernel_rfl) (by kernel_rfl) (by kernel_rfl) (by kernel_rfl) (Does.append2 (t := 24) (E := 23) (sz := 32) (by_ := 32) (n := (p ++ cons m (L.take (half n)) whole).length) (m := 1) (v := .slice ad3 ((p ++ cons m (L.take (half n)) whole).length) cap3) (x := .slice (some ⟨h16.size,0,none⟩) 1 1) (xs := (hcs (p ++ cons m (L.take (half n)) whole))) (ys := (hcs ([root (L.drop (half n))]))) (by kernel_rfl) (by kernel_rfl) own_p (hrow1 (root_len (hL.2.1.drop _)) m19) (ones_hcs _) (by unfold maxLen; first | omega | (rw [List.length_append]; omega)) (by first | omega | (rw [List.length_append]; omega))) ?_
   rintro _ h24 ⟨ad22,cap23,rfl,ownx,g,hb⟩
   rw [blkOf_slice] at g hb
   have hlo := e0.size
   have sepo := sep
   replace e0 := e0.grew g (sep.low 1 rfl)
   replace kt := kt.grew g (sep.zero 1 rfl h0s)
   replace hw := Grew.blk g hw ((sep.bp 2 1))
   replace hp := Grew.blk g hp ((sep.bp 3 1))
   replace hd := Grew.blk g hd ((sep.bp 4 1))
   replace m19 := Grew.blk g m19 ((sep.bp 0 1))
   replace sep := sep.up g.size
   replace sep : Sep hz.size h24.size [some (h16.size),ad22.map (·.block),some bw,some bp,some bd] := sepo.set g.size hlo 1 (y := ad22.map (fun (x : Addr) => x.block)) rfl (hb.imp id fun e => .inr ⟨_,e,Nat.le_refl _⟩) (fun k e => ownx.lt (by rw [blkOf_slice]; exact e))
   replace own_p : Own h24 (.slice ad22 ((p ++ cons m (L.take (half n)) whole ++ [root (L.drop (half n))]).length) cap23) 23 ((p ++ cons m (L.take (half n)) whole ++ [root (L.drop (half n))]).length) 32 (hcs (p ++ cons m (L.take (half n)) whole ++ [root (L.drop (half n))])) := Own.appG ownx (by first | rfl | exact (hcs_append _ _).symm | simp [hcs_append]) (by first | rfl | (simp; done) | (simp; omega))
   clear ownx g hb hlo sepo
   clear m19
   replace sep := sep.sub (l' := [ad22.map (·.block),some bw,some bp,some bd]) (.cons _ (.cons_cons _ (.cons_cons _ (.cons_cons _ (.cons_cons _ (.slnil))))))
   refine SimK.eff0 (i := 7) (D' := 255) (X' := 255) (by kernel_rfl) (by kernel_rfl) (by kernel_rfl) (by kernel_rfl) (Does.store (b := bp) (off := 0) (vs := [.slice ad22 (((p ++ cons m (L.take (half n)) whole).length) + 1) cap23]) (l := [.slice ad3 ((p ++ cons m (L.take (half n)) whole).length) cap3]) (by kernel_rfl) hp (of_decide_eq_true (by kernel_rfl)) (List.all_eq_true.1 (by kernel_rfl))) ?_
   rintro _ h25 ⟨rfl,hh⟩
   have g26 : Grew (some (bp)) h24 h25 := hput_gr hh
   replace hp : h25[bp]? = some (.cells ([.slice ad22 (((p ++ cons m (L.take (half n)) whole).length) + 1) cap23]).toArray 24) := hput_at (off := 0) (vs := [.slice ad22 (((p ++ cons m (L.take (half n)) whole).length) + 1) cap23]) (l := ([.slice ad3 ((p ++ cons m (L.take (half n)) whole).length) cap3])) hh (by kernel_rfl) hp
   clear hh
   replace e0 := e0.grew g26 (sep.low 2 rfl)
   replace kt := kt.grew g26 (sep.zero 2 rfl h0s)
   replace own_p := own_p.kept g26 (by rw [blkOf_slice]; exact (sep.ap 0 2))
   replace hw := Grew.blk g26 hw ((sep.bp 1 2))
   replace hd := Grew.blk g26 hd ((sep.bp 3 2))
   replace sep := sep.up g26.size
   refine mD [] ?_
   clear hF a; intro a hF
   refine tK ?_
   refine cR ?_
   show retK Tryd.prog Tryd.f43 (fun _ h' => ∃ ad' cap' wh',h'[bw]? = some (.cells #[.bool wh'] 4) ∧ h'[bp]? = some (.cells #[.slice ad' (p ++ cons m L whole).length cap'] 24) ∧ h'[bd]? = some (.cells #[.func (.func 43) #[] #[.pointer (some ⟨bw,0,none⟩),.pointer (some ⟨bp,0,none⟩),.pointer (some ⟨bd,0,none⟩)]] 64) ∧ Own h' (.slice ad' (p ++ cons m L whole).length cap') 23 (p ++ cons m L whole).length 32 (hcs (p ++ cons m L whole)) ∧ Sep hz.size h'.size [(ad' : Option Addr).map (·.block),some bw,some bp,some bd] ∧ Ext hz h' ∧ Ktab h') .ret a h25
   refine ret_ok [] [] (.tuple #[]) rfl hF trivial rfl ?_
   have hfin : p ++ cons m (L.take (half n)) whole ++ [root (L.drop (half n))] = p ++ cons m L whole := by have := cons_lo (l := L) (m := m) (w := whole) (by omega) (by omega) (by rw [hLn]; omega); rw [hLn] at this; rw [this,List.append_assoc]
   have hcl : ((p ++ cons m (L.take (half n)) whole).length) + 1 = (p ++ cons m (L.take (half n)) whole ++ [root (L.drop (half n))]).length := by simp <;> omega
   rw [hcl] at hp
   rw [hfin] at own_p hp
   replace sep := sep.sub (l' := [ad22.map (·.block),some bw,some bp,some bd]) (.cons_cons _ (.cons_cons _ (.cons_cons _ (.cons_cons _ (.slnil)))))
   exact ⟨_,_,_,hw,hp,hd,own_p,sep,e0,kt⟩
  ·skip
   replace hc14 := of_decide_eq_false hc14
   refine cN ?_
   refine tK ?_
   refine cS ?_
   refine cP 7 hF ?_
   refine SeqK.eff (k' := 1) (Does.store (b := bw) (off := 0) (vs := [.bool false]) (l := [.bool whole]) (by kernel_rfl) hw (of_decide_eq_true (by kernel_rfl)) (List.all_eq_true.1 (by kernel_rfl))) rfl ?_
   rintro _ h27 ⟨rfl,hh⟩
   have g28 : Grew (some (bw)) h h27 := hput_gr hh
   replace hw : h27[bw]? = some (.cells ([.bool false]).toArray 4) := hput_at (off := 0) (vs := [.bool false]) (l := ([.bool whole])) hh (by kernel_rfl) hw
   clear hh
   replace e0 := e0.grew g28 (sep.low 1 rfl)
   replace kt := kt.grew g28 (sep.zero 1 rfl h0s)
   replace own_p := own_p.kept g28 (by rw [blkOf_slice]; exact (sep.ap 0 1))
   replace hp := Grew.blk g28 hp ((sep.bp 2 1))
   replace hd := Grew.blk g28 hd ((sep.bp 3 1))
   replace sep := sep.up g28.size
   refine sD [(0,.slice (some aa) n vc),(1,nV m),(3,pV bp),(4,pV bd),(7,nV (half n))] ?_
   clear hF a; intro a hF
   refine tK ?_
   refine cS ?_
   refine cD [0,0,0,6,0,0,48,127] 8 mixed hF ?_
   refine mL 1 1 0 (.func (.func 43) #[] #[.pointer (some ⟨bw,0,none⟩),.pointer (some ⟨bp,0,none⟩),.pointer (some ⟨bd,0,none⟩)]) (Calm.load (T := 64) (p := ⟨bd,0,none⟩) (by kernel_rfl) (Loads.one (k := 1) (by kernel_rfl) ((hcell_blk hd).trans rfl))) ?_
   refine mP 7 [1,2] [.slice (some aa) n vc,nV (half n)] ?_
   refine mF 15 3 (.slice ad2 (n - half n) (vc - half n)) (fun h => Calm.sliceO (a := (some aa)) (len := n) (cap := vc) (sz := 32) (x := ad2) (half n) n vc (n - half n) (vc - half n) (by kernel_rfl) (.inl ⟨rfl,rfl⟩) (.inl ⟨rfl,rfl⟩) (.inr rfl) (by omega) (by omega) had2 (by first | rfl | omega) (by first | rfl | omega) h) ?_
   refine mP 63 [4,5] [nV m,nV (half n)] ?_
   refine m1 127 6 (.int .i64 ((m - (half n) : Nat) : Int)) (.int .i64 (IntKind.i64.wrap (((m : Nat) : Int) - ((half n : Nat) : Int)))) (congrArg (Value.int .i64) (w64' (by omega) (by omega) (by omega))) ?_
   have hpl := (hL.drop (by omega) had2).2.2
   have hil := cons_len _ (L.drop (half n)) (m - half n) false (Nat.le_refl _) (by omega) (by omega)
   refine SimK.eff0 (i := 7) (D' := 255) (X' := 255) (by kernel_rfl) (by kernel_rfl) (by kernel_rfl) (by kernel_rfl) (Does.call (f := 43) (args := #[.slice ad2 (n - half n) (vc - half n),.int .i64 ((m - (half n) : Nat) : Int),.pointer (some ⟨bw,0,none⟩),.pointer (some ⟨bp,0,none⟩),.pointer (some ⟨bd,0,none⟩)]) (by kernel_rfl) (ih _ (L.drop (half n)) _ _ (n - half n) (m - half n) false p _ _ (by omega) (by omega) (by omega) (hL.drop (by omega) had2) hw hp hd own_p sep e0 kt (by omega))) ?_
   rintro _ h29 ⟨ad3,cap3,wh3,hw3,hp3,hd3,own3,sep3,e3,kt3⟩
   clear hw hp hd own_p sep e0 kt
   have hw := hw3; have hp := hp3; have hd := hd3; have own_p := own3; have sep := sep3; have e0 := e3; have kt := kt3; clear hw3 hp3 hd3 own3 sep3 e3 kt3
   have hqa : (p ++ cons (m - half n) (L.drop (half n)) false).length ≤ 2199023254000 := by rw [List.length_append]; omega
   refine mD [(0,.slice (some aa) n vc),(3,pV bp),(7,nV (half n))] ?_
   clear hF a; intro a hF
   refine tK ?_
   refine cD [0,0,0,6,14,30,63,127] 9 mixed hF ?_
   refine mL 1 1 0 (.slice ad3 ((p ++ cons (m - half n) (L.drop (half n)) false).length) cap3) (Calm.load (T := 24) (p := ⟨bp,0,none⟩) (by kernel_rfl) (Loads.one (k := 1) (by kernel_rfl) ((hcell_blk hp).trans rfl))) ?_
   refine mP 7 [1,2] [.slice (some aa) n vc,nV (half n)] ?_
   refine mF 15 3 (.slice (some aa) (half n) vc) (fun h => Calm.sliceO (a := (some aa)) (len := n) (cap := vc) (sz := 32) (x := (some aa)) 0 (half n) vc (half n) vc (by kernel_rfl) (.inl ⟨rfl,rfl⟩) (.inr rfl) (.inl ⟨rfl,rfl⟩) (by omega) (by omega) (opt_add0 _ 32) (by first | rfl | omega) (by first | rfl | omega) h) ?_
   refine SimK.eff (i := 4) (D' := 31) (X' := 30) (by kernel_rfl) (by kernel_rfl) (by kernel_rfl) [0] (by kernel_rfl) (Does.call (f := 20) (args := #[.slice (some aa) (half n) vc]) (by kernel_rfl) (troot_sat _ (L.take (half n)) _ _ (half n) ((hL.ext e0).take (k := half n) (by omega)) kt (by omega))) ?_
   rintro _ h30 ⟨rfl,g⟩
   replace e0 := e0.ext g
   replace kt := kt.ext g
   replace own_p := own_p.ext g
   replace hw := Ext.blk g hw
   replace hp := Ext.blk g hp
   replace hd := Ext.blk g hd
   replace sep := sep.up g.size
   refine ⟨?_,?_⟩
   ·intro j hj
    simp only [List.mem_cons,List.not_mem_nil,or_false] at hj
    subst hj
    exact goodOf (Calm.load (T := 24) (p := ⟨bp,0,none⟩) (by kernel_rfl) (Loads.one (k := 1) (by kernel_rfl) ((hcell_blk hp).trans rfl)))
   clear g
   refine SimK.eff (i := 5) (D' := 63) (X' := 62) (by kernel_rfl) (by kernel_rfl) (by kernel_rfl) [0] (by kernel_rfl) (Does.newHs (L := [root (L.take (half n))]) (t := 24) (E := 23) (by_ := 32) (n := 1) (by kernel_rfl) (by kernel_rfl) (All32.cons (root_len (hL.2.1.take _)) All32.nil) rfl (by decide) (by decide)) ?_
   rintro _ h31 ⟨rfl,hh⟩
   have g32 : Ext h30 h31 := push_ext hh
   have m33 : h31[h30.size]? = some (.cells (hcs [root (L.take (half n))]).toArray 23) := push_at hh
   clear hh
   have lt34 := blk_lt m33
   have zs35 := e0.size
   have hlo := e0.size
   have sepo := sep
   replace e0 := e0.ext g32
   replace kt := kt.ext g32
   replace own_p := own_p.ext g32
   replace hw := Ext.blk g32 hw
   replace hp := Ext.blk g32 hp
   replace hd := Ext.blk g32 hd
   replace sep := sep.up g32.size
   replace sep := sepo.new hlo (blk_lt m33)
   clear sepo hlo
   refine ⟨?_,?_⟩
   ·intro j hj
    simp only [List.mem_cons,List.not_mem_nil,or_false] at hj
    subst hj
    exact goodOf (Calm.load (T := 24) (p := ⟨bp,0,none⟩) (by kernel_rfl) (Loads.one (k := 1) (by kernel_rfl) ((hcell_blk hp).trans rfl)))
   refine SimK.eff0 (i := 6) (D' := 127) (X' := 127) (by kernel_rfl) (by kernel_rfl) (by kernel_rfl) (by kernel_rfl) (Does.append2 (t := 24) (E := 23) (sz := 32) (by_ := 32) (n := (p ++ cons (m - half n) (L.drop (half n)) false).length) (m := 1) (v := .slice ad3 ((p ++ cons (m - half n) (L.drop (half n)) false).length) cap3) (x := .slice (some ⟨h30.size,0,none⟩) 1 1) (xs := (hcs (p ++ cons (m - half n) (L.drop (half n)) false))) (ys := (hcs ([root (L.take (half n))]))) (by kernel_rfl) (by kernel_rfl) own_p (hrow1 (root_len (hL.2.1.take _)) m33) (ones_hcs _) (by unfold maxLen; first | omega | (rw [List.length_append]; omega)) (by first | omega | (rw [List.length_append]; omega))) ?_
   rintro _ h38 ⟨ad36,cap37,rfl,ownx,g,hb⟩
   rw [blkOf_slice] at g hb
   have hlo := e0.size
   have sepo := sep
   replace e0 := e0.grew g (sep.low 1 rfl)
   replace kt := kt.grew g (sep.zero 1 rfl h0s)
   replace hw := Grew.blk g hw ((sep.bp 2 1))
   replace hp := Grew.blk g hp ((sep.bp 3 1))
   replace hd := Grew.blk g hd ((sep.bp 4 1))
   replace m33 := Grew.blk g m33 ((sep.bp 0 1))
   replace sep := sep.up g.size
   replace sep : Sep hz.size h38.size [some (h30.size),ad36.map (·.block),some bw,some bp,some bd] := sepo.set g.size hlo 1 (y := ad36.map (fun (x : Addr) => x.block)) rfl (hb.imp id fun e => .inr ⟨_,e,Nat.le_refl _⟩) (fun k e => ownx.lt (by rw [blkOf_slice]; exact e))
   replace own_p : Own h38 (.slice ad36 ((p ++ cons (m - half n) (L.drop (half n)) false ++ [root (L.take (half n))]).length) cap37) 23 ((p ++ cons (m - half n) (L.drop (half n)) false ++ [root (L.take (half n))]).length) 32 (hcs (p ++ cons (m - half n) (L.drop (half n)) false ++ [root (L.take (half n))])) := Own.appG ownx (by first | rfl | exact (hcs_append _ _).symm | simp [hcs_append]) (by first | rfl | (simp; done) | (simp; omega))
   clear ownx g hb hlo sepo
   clear m33
   replace sep := sep.sub (l' := [ad36.map (·.block),some bw,some bp,some bd]) (.cons _ (.cons_cons _ (.cons_cons _ (.cons_cons _ (.cons_cons _ (.slnil))))))
   refine SimK.eff0 (i := 7) (D' := 255) (X' := 255) (by kernel_rfl) (by kernel_rfl) (by kernel_rfl) (by kernel_rfl) (Does.store (b := bp) (off := 0) (vs := [.slice ad36 (((p ++ cons (m - half n) (L.drop (half n)) false).length) + 1) cap37]) (l := [.slice ad3 ((p ++ cons (m - half n) (L.drop (half n)) false).length) cap3]) (by kernel_rfl) hp (of_decide_eq_true (by kernel_rfl)) (List.all_eq_true.1 (by kernel_rfl))) ?_
   rintro _ h39 ⟨rfl,hh⟩
   have g40 : Grew (some (bp)) h38 h39 := hput_gr hh
   replace hp : h39[bp]? = some (.cells ([.slice ad36 (((p ++ cons (m - half n) (L.drop (half n)) false).length) + 1) cap37]).toArray 24) := hput_at (off := 0) (vs := [.slice ad36 (((p ++ cons (m - half n) (L.drop (half n)) false).length) + 1) cap37]) (l := ([.slice ad3 ((p ++ cons (m - half n) (L.drop (half n)) false).length) cap3])) hh (by kernel_rfl) hp
   clear hh
   replace e0 := e0.grew g40 (sep.low 2 rfl)
   replace kt := kt.grew g40 (sep.zero 2 rfl h0s)
   replace own_p := own_p.kept g40 (by rw [blkOf_slice]; exact (sep.ap 0 2))
   replace hw := Grew.blk g40 hw ((sep.bp 1 2))
   replace hd := Grew.blk g40 hd ((sep.bp 3 2))
   replace sep := sep.up g40.size
   refine mD [] ?_
   clear hF a; intro a hF
   show retK Tryd.prog Tryd.f43 (fun _ h' => ∃ ad' cap' wh',h'[bw]? = some (.cells #[.bool wh'] 4) ∧ h'[bp]? = some (.cells #[.slice ad' (p ++ cons m L whole).length cap'] 24) ∧ h'[bd]? = some (.cells #[.func (.func 43) #[] #[.pointer (some ⟨bw,0,none⟩),.pointer (some ⟨bp,0,none⟩),.pointer (some ⟨bd,0,none⟩)]] 64) ∧ Own h' (.slice ad' (p ++ cons m L whole).length cap') 23 (p ++ cons m L whole).length 32 (hcs (p ++ cons m L whole)) ∧ Sep hz.size h'.size [(ad' : Option Addr).map (·.block),some bw,some bp,some bd] ∧ Ext hz h' ∧ Ktab h') .normal a h39
   refine ret_okN [] [] (.tuple #[]) rfl hF trivial rfl ?_
   have hfin : p ++ cons (m - half n) (L.drop (half n)) false ++ [root (L.take (half n))] = p ++ cons m L whole := by have := cons_hi (l := L) (m := m) (w := whole) (by omega) (by rw [hLn]; omega); rw [hLn] at this; rw [this,List.append_assoc]
   have hcl : ((p ++ cons (m - half n) (L.drop (half n)) false).length) + 1 = (p ++ cons (m - half n) (L.drop (half n)) false ++ [root (L.take (half n))]).length := by simp <;> omega
   rw [hcl] at hp
   rw [hfin] at own_p hp
   replace sep := sep.sub (l' := [ad36.map (·.block),some bw,some bp,some bd]) (.cons_cons _ (.cons_cons _ (.cons_cons _ (.cons_cons _ (.slnil)))))
   exact ⟨_,_,_,hw,hp,hd,own_p,sep,e0,kt⟩
theorem down_all (hz : Heap) (bw bp bd : Nat) (h0s : 0 < hz.size) : ∀ (k n : Nat),n ≤ k → ∀ (h : Heap) (L : List Hs) (va : Option Addr) (vc m : Nat) (whole : Bool) (p : List Hs) (ad : Option Addr) (cap : Nat),0 < m → m ≤ n → HR hz va vc n L → h[bw]? = some (.cells #[.bool whole] 4) → h[bp]? = some (.cells #[.slice ad p.length cap] 24) → h[bd]? = some (.cells #[.func (.func 43) #[] #[.pointer (some ⟨bw,0,none⟩),.pointer (some ⟨bp,0,none⟩),.pointer (some ⟨bd,0,none⟩)]] 64) → Own h (.slice ad p.length cap) 23 p.length 32 (hcs p) → Sep hz.size h.size [ad.map (·.block),some bw,some bp,some bd] → Ext hz h → Ktab h → p.length + n ≤ 1099511627000 → Sat Tryd.prog 43 #[.slice va n vc,.int .i64 ((m : Nat) : Int),.pointer (some ⟨bw,0,none⟩),.pointer (some ⟨bp,0,none⟩),.pointer (some ⟨bd,0,none⟩)] h (fun _ h' => ∃ ad' cap' wh',h'[bw]? = some (.cells #[.bool wh'] 4) ∧ h'[bp]? = some (.cells #[.slice ad' (p ++ cons m L whole).length cap'] 24) ∧ h'[bd]? = some (.cells #[.func (.func 43) #[] #[.pointer (some ⟨bw,0,none⟩),.pointer (some ⟨bp,0,none⟩),.pointer (some ⟨bd,0,none⟩)]] 64) ∧ Own h' (.slice ad' (p ++ cons m L whole).length cap') 23 (p ++ cons m L whole).length 32 (hcs (p ++ cons m L whole)) ∧ Sep hz.size h'.size [(ad' : Option Addr).map (·.block),some bw,some bp,some bd] ∧ Ext hz h' ∧ Ktab h')
 | 0,n,hk,h,L,va,vc,m,whole,p,ad,cap,hm0,hm,hL,hw,hp,hd,own,sep,e0,kt,hn => by omega
 | k + 1,n,hk,h,L,va,vc,m,whole,p,ad,cap,hm0,hm,hL,hw,hp,hd,own,sep,e0,kt,hn => down_step hz bw bp bd h0s h L va vc n m whole p ad cap (fun h L va vc n' m whole p ad cap hlt hm0 hm hL hw hp hd own sep e0 kt hn => down_all hz bw bp bd h0s k n' (by omega) h L va vc m whole p ad cap hm0 hm hL hw hp hd own sep e0 kt hn) hm0 hm hL hw hp hd own sep e0 kt hn
noncomputable def b22 : Code := Tryd.f22.body.getD .skip
theorem tcons_sat (h : Heap) (L : List Hs) (va : Option Addr) (vc n : Nat) (hL : HR h va vc n L) (hn : n ≤ 1099511627000) (m : Int) (kt : Ktab h) : Sat Tryd.prog 22 #[.slice va n vc,.int .i64 m] h fun v h' => ∃ s,v = .tuple #[s,.int .i64 (consZ L m).2] ∧ OwnNew h h' 23 s (consZ L m).1 := by
 have hLn := hL.2.2
 have e0 := Ext.refl h
 have h0s := kt.lt
 have sep : Sep h.size h.size [] := Sep.nil _ _
 refine sat_of (args := [.slice va n vc,.int .i64 m]) (fn := Tryd.f22) (B := b22) (n := 33) (L := [(0,.slice va n vc),(1,.int .i64 m)]) Tryd.func22 rfl (by kernel_rfl) rfl ?_
 intro a hF
 refine cS ?_
 refine cP 0 hF ?_
 refine sP 2 [.slice none 0 0,.int .i64 0] ?_
 refine sD [(0,.slice va n vc),(1,.int .i64 m)] ?_
 clear hF a; intro a hF
 refine tK ?_
 refine cS ?_
 refine cB 0 ?_
 refine cS ?_
 have hm3 : m < 0 ∨ (n : Int) < m ∨ ∃ k : Nat,m = (k : Int) ∧ k ≤ n := by
  rcases Int.lt_or_le m 0 with h0 | h0
  ·exact .inl h0
  ·rcases Int.lt_or_le n m with h1 | h1
   ·exact .inr (.inl h1)
   ·exact .inr (.inr ⟨m.toNat,by omega,by omega⟩)
 rcases hm3 with hm0 | hm0 | ⟨k,rfl,hk⟩
 rotate_left 2
 rcases (show k = 0 ∨ k = n ∧ 0 < n ∨ 0 < k ∧ k < n by omega) with hk2 | hk2 | hk2
 rotate_left 3
 ·skip
  refine cP 1 hF ?_
  refine sP 1 [.int .i64 m] ?_
  refine s1 2 (.bool true) (.bool (decide (m < (0 : Int)))) (congrArg Value.bool (decide_eq_true (by omega))) ?_
  refine sP 9 [.bool true,undef,undef,undef,undef,.bool true,.bool true] ?_
  refine sD [(0,.slice va n vc),(1,.int .i64 m),(9,.bool true)] ?_
  clear hF a; intro a hF
  refine tK ?_
  refine cT 9 hF ?_
  refine cS ?_
  refine cP 2 hF ?_
  refine sP 2 [.slice none 0 0,.int .i64 50] ?_
  refine sD [(4,.slice none 0 0),(5,.int .i64 50)] ?_
  clear hF a; intro a hF
  refine tK ?_
  refine cR ?_
  show retK Tryd.prog Tryd.f22 (fun v h' => ∃ s,v = .tuple #[s,.int .i64 (consZ L m).2] ∧ OwnNew h h' 23 s (consZ L m).1) .ret a h
  refine ret_ok [.tmp 4,.tmp 5] [.slice none 0 0,.int .i64 50] (.tuple #[.slice none 0 0,.int .i64 50]) rfl hF ⟨rfl,rfl,trivial⟩ rfl ?_
  rw [consZ_no (by omega)]; exact ⟨_,rfl,OwnNew.none e0⟩
 ·skip
  refine cP 1 hF ?_
  refine sP 1 [.int .i64 m] ?_
  refine s1 2 (.bool false) (.bool (decide (m < (0 : Int)))) (congrArg Value.bool (decide_eq_false (by omega))) ?_
  refine sP 6 [.bool false,.int .i64 m,.slice va n vc,nV n] ?_
  refine s1 7 (.bool true) (.bool (decide (((n : Nat) : Int) < m))) (congrArg Value.bool (decide_eq_true (by omega))) ?_
  refine sP 9 [.bool true,.bool true] ?_
  refine sD [(0,.slice va n vc),(1,.int .i64 m),(9,.bool true)] ?_
  clear hF a; intro a hF
  refine tK ?_
  refine cT 9 hF ?_
  refine cS ?_
  refine cP 2 hF ?_
  refine sP 2 [.slice none 0 0,.int .i64 50] ?_
  refine sD [(4,.slice none 0 0),(5,.int .i64 50)] ?_
  clear hF a; intro a hF
  refine tK ?_
  refine cR ?_
  show retK Tryd.prog Tryd.f22 (fun v h' => ∃ s,v = .tuple #[s,.int .i64 (consZ L m).2] ∧ OwnNew h h' 23 s (consZ L m).1) .ret a h
  refine ret_ok [.tmp 4,.tmp 5] [.slice none 0 0,.int .i64 50] (.tuple #[.slice none 0 0,.int .i64 50]) rfl hF ⟨rfl,rfl,trivial⟩ rfl ?_
  rw [consZ_no (by omega)]; exact ⟨_,rfl,OwnNew.none e0⟩
 ·skip
  refine cP 1 hF ?_
  refine sP 1 [nV k] ?_
  refine s1 2 (.bool false) (.bool (decide (((k : Nat) : Int) < (0 : Int)))) (congrArg Value.bool (decide_eq_false (by omega))) ?_
  refine sP 6 [.bool false,nV k,.slice va n vc,nV n] ?_
  refine s1 7 (.bool false) (.bool (decide (((n : Nat) : Int) < ((k : Nat) : Int)))) (congrArg Value.bool (decide_eq_false (by omega))) ?_
  refine sP 9 [.bool false,.bool false] ?_
  refine sD [(0,.slice va n vc),(1,nV k),(9,.bool false)] ?_
  clear hF a; intro a hF
  refine tK ?_
  refine cF 9 hF ?_
  refine cS ?_
  refine cP 3 hF ?_
  refine sP 1 [nV k] ?_
  refine s1 2 (.bool true) (.bool (((k : Nat) : Int) == (0 : Int))) (congrArg Value.bool (beq_iff_eq.2 (by omega))) ?_
  refine sP 9 [.bool true,undef,undef,undef,undef,.bool true,.bool true] ?_
  refine sD [(0,.slice va n vc),(1,nV k),(18,.bool true)] ?_
  clear hF a; intro a hF
  refine tK ?_
  refine cT 18 hF ?_
  refine cS ?_
  refine cP 4 hF ?_
  refine sP 2 [.slice none 0 0,.int .i64 0] ?_
  refine sD [(4,.slice none 0 0),(5,.int .i64 0)] ?_
  clear hF a; intro a hF
  refine tK ?_
  refine cR ?_
  show retK Tryd.prog Tryd.f22 (fun v h' => ∃ s,v = .tuple #[s,.int .i64 (consZ L (k : Int)).2] ∧ OwnNew h h' 23 s (consZ L (k : Int)).1) .ret a h
  refine ret_ok [.tmp 4,.tmp 5] [.slice none 0 0,.int .i64 0] (.tuple #[.slice none 0 0,.int .i64 0]) rfl hF ⟨rfl,rfl,trivial⟩ rfl ?_
  rw [consZ_ok (by omega) (by omega)]; exact ⟨_,rfl,OwnNew.none e0⟩
 ·skip
  refine cP 1 hF ?_
  refine sP 1 [nV k] ?_
  refine s1 2 (.bool false) (.bool (decide (((k : Nat) : Int) < (0 : Int)))) (congrArg Value.bool (decide_eq_false (by omega))) ?_
  refine sP 6 [.bool false,nV k,.slice va n vc,nV n] ?_
  refine s1 7 (.bool false) (.bool (decide (((n : Nat) : Int) < ((k : Nat) : Int)))) (congrArg Value.bool (decide_eq_false (by omega))) ?_
  refine sP 9 [.bool false,.bool false] ?_
  refine sD [(0,.slice va n vc),(1,nV k),(9,.bool false)] ?_
  clear hF a; intro a hF
  refine tK ?_
  refine cF 9 hF ?_
  refine cS ?_
  refine cP 3 hF ?_
  refine sP 1 [nV k] ?_
  refine s1 2 (.bool false) (.bool (((k : Nat) : Int) == (0 : Int))) (congrArg Value.bool (beq_eq_false_iff_ne.2 (by omega))) ?_
  refine sP 6 [.bool false,nV k,.slice va n vc,nV n] ?_
  refine s1 7 (.bool true) (.bool (((k : Nat) : Int) == ((n : Nat) : Int))) (congrArg Value.bool (beq_iff_eq.2 (by omega))) ?_
  refine sP 9 [.bool true,.bool true] ?_
  refine sD [(0,.slice va n vc),(1,nV k),(18,.bool true)] ?_
  clear hF a; intro a hF
  refine tK ?_
  refine cT 18 hF ?_
  refine cS ?_
  refine cP 4 hF ?_
  refine sP 2 [.slice none 0 0,.int .i64 0] ?_
  refine sD [(4,.slice none 0 0),(5,.int .i64 0)] ?_
  clear hF a; intro a hF
  refine tK ?_
  refine cR ?_
  show retK Tryd.prog Tryd.f22 (fun v h' => ∃ s,v = .tuple #[s,.int .i64 (consZ L (k : Int)).2] ∧ OwnNew h h' 23 s (consZ L (k : Int)).1) .ret a h
  refine ret_ok [.tmp 4,.tmp 5] [.slice none 0 0,.int .i64 0] (.tuple #[.slice none 0 0,.int .i64 0]) rfl hF ⟨rfl,rfl,trivial⟩ rfl ?_
  rw [consZ_ok (by omega) (by omega)]; exact ⟨_,rfl,OwnNew.none e0⟩
 ·skip
  refine cP 1 hF ?_
  refine sP 1 [nV k] ?_
  refine s1 2 (.bool false) (.bool (decide (((k : Nat) : Int) < (0 : Int)))) (congrArg Value.bool (decide_eq_false (by omega))) ?_
  refine sP 6 [.bool false,nV k,.slice va n vc,nV n] ?_
  refine s1 7 (.bool false) (.bool (decide (((n : Nat) : Int) < ((k : Nat) : Int)))) (congrArg Value.bool (decide_eq_false (by omega))) ?_
  refine sP 9 [.bool false,.bool false] ?_
  refine sD [(0,.slice va n vc),(1,nV k),(9,.bool false)] ?_
  clear hF a; intro a hF
  refine tK ?_
  refine cF 9 hF ?_
  refine cS ?_
  refine cP 3 hF ?_
  refine sP 1 [nV k] ?_
  refine s1 2 (.bool false) (.bool (((k : Nat) : Int) == (0 : Int))) (congrArg Value.bool (beq_eq_false_iff_ne.2 (by omega))) ?_
  refine sP 6 [.bool false,nV k,.slice va n vc,nV n] ?_
  refine s1 7 (.bool false) (.bool (((k : Nat) : Int) == ((n : Nat) : Int))) (congrArg Value.bool (beq_eq_false_iff_ne.2 (by omega))) ?_
  refine sP 9 [.bool false,.bool false] ?_
  refine sD [(0,.slice va n vc),(1,nV k),(18,.bool false)] ?_
  clear hF a; intro a hF
  refine tK ?_
  refine cF 18 hF ?_
  refine cN ?_
  show C Tryd.prog (sub b22 [1,1]) _ a h
  refine cS ?_
  refine cP 5 hF ?_
  refine SeqK.eff (k' := 1) (Does.new (v := .pointer (some ⟨h.size,0,none⟩)) (o := .cells #[.slice none 0 0] 24) (by kernel_rfl)) rfl ?_
  rintro _ h1 ⟨rfl,hh⟩
  have g2 : Ext h h1 := push_ext hh
  have m3 : h1[h.size]? = some (.cells #[.slice none 0 0] 24) := push_at hh
  clear hh
  have lt4 := blk_lt m3
  have zs5 := e0.size
  have hlo := e0.size
  have sepo := sep
  replace e0 := e0.ext g2
  replace kt := kt.ext g2
  replace sep := sep.up g2.size
  replace sep := sepo.new hlo (blk_lt m3)
  clear sepo hlo
  refine sD [(0,.slice va n vc),(1,nV k),(6,pV h.size)] ?_
  clear hF a; intro a hF
  refine tK ?_
  refine cS ?_
  refine cP 6 hF ?_
  refine SeqK.eff (k' := 1) (Does.new (v := .pointer (some ⟨h1.size,0,none⟩)) (o := .cells #[.bool false] 4) (by kernel_rfl)) rfl ?_
  rintro _ h6 ⟨rfl,hh⟩
  have g7 : Ext h1 h6 := push_ext hh
  have m8 : h6[h1.size]? = some (.cells #[.bool false] 4) := push_at hh
  clear hh
  have lt9 := blk_lt m8
  have zs10 := e0.size
  have hlo := e0.size
  have sepo := sep
  replace e0 := e0.ext g7
  replace kt := kt.ext g7
  replace m3 := Ext.blk g7 m3
  replace sep := sep.up g7.size
  replace sep := sepo.new hlo (blk_lt m8)
  clear sepo hlo
  refine SeqK.eff (k' := 2) (Does.store (b := h1.size) (off := 0) (vs := [.bool true]) (l := [.bool false]) (by kernel_rfl) m8 (of_decide_eq_true (by kernel_rfl)) (List.all_eq_true.1 (by kernel_rfl))) rfl ?_
  rintro _ h11 ⟨rfl,hh⟩
  have g12 : Grew (some (h1.size)) h6 h11 := hput_gr hh
  replace m8 : h11[h1.size]? = some (.cells ([.bool true]).toArray 4) := hput_at (off := 0) (vs := [.bool true]) (l := ([.bool false])) hh (by kernel_rfl) m8
  clear hh
  replace e0 := e0.grew g12 (sep.low 0 rfl)
  replace kt := kt.grew g12 (sep.zero 0 rfl h0s)
  replace m3 := Grew.blk g12 m3 ((sep.bp 1 0))
  replace sep := sep.up g12.size
  refine sD [(0,.slice va n vc),(1,nV k),(6,pV h.size),(7,pV h1.size)] ?_
  clear hF a; intro a hF
  refine tK ?_
  refine cS ?_
  refine cP 7 hF ?_
  refine SeqK.eff (k' := 1) (Does.new (v := .pointer (some ⟨h11.size,0,none⟩)) (o := .cells #[.nilFunc] 64) (by kernel_rfl)) rfl ?_
  rintro _ h13 ⟨rfl,hh⟩
  have g14 : Ext h11 h13 := push_ext hh
  have m15 : h13[h11.size]? = some (.cells #[.nilFunc] 64) := push_at hh
  clear hh
  have lt16 := blk_lt m15
  have zs17 := e0.size
  have hlo := e0.size
  have sepo := sep
  replace e0 := e0.ext g14
  replace kt := kt.ext g14
  replace m3 := Ext.blk g14 m3
  replace m8 := Ext.blk g14 m8
  replace sep := sep.up g14.size
  replace sep := sepo.new hlo (blk_lt m15)
  clear sepo hlo
  refine sD [(0,.slice va n vc),(1,nV k),(6,pV h.size),(7,pV h1.size),(8,pV h11.size)] ?_
  clear hF a; intro a hF
  refine tK ?_
  refine cS ?_
  refine cP 8 hF ?_
  refine sP 1 [.func (.func 43) #[] #[pV h1.size,pV h.size,pV h11.size]] ?_
  refine SeqK.eff (k' := 2) (Does.store (b := h11.size) (off := 0) (vs := [.func (.func 43) #[] #[.pointer (some ⟨h1.size,0,none⟩),.pointer (some ⟨h.size,0,none⟩),.pointer (some ⟨h11.size,0,none⟩)]]) (l := [.nilFunc]) (by kernel_rfl) m15 (of_decide_eq_true (by kernel_rfl)) (List.all_eq_true.1 (by kernel_rfl))) rfl ?_
  rintro _ h18 ⟨rfl,hh⟩
  have g19 : Grew (some (h11.size)) h13 h18 := hput_gr hh
  replace m15 : h18[h11.size]? = some (.cells ([.func (.func 43) #[] #[.pointer (some ⟨h1.size,0,none⟩),.pointer (some ⟨h.size,0,none⟩),.pointer (some ⟨h11.size,0,none⟩)]]).toArray 64) := hput_at (off := 0) (vs := [.func (.func 43) #[] #[.pointer (some ⟨h1.size,0,none⟩),.pointer (some ⟨h.size,0,none⟩),.pointer (some ⟨h11.size,0,none⟩)]]) (l := ([.nilFunc])) hh (by kernel_rfl) m15
  clear hh
  replace e0 := e0.grew g19 (sep.low 0 rfl)
  replace kt := kt.grew g19 (sep.zero 0 rfl h0s)
  replace m3 := Grew.blk g19 m3 ((sep.bp 2 0))
  replace m8 := Grew.blk g19 m8 ((sep.bp 1 0))
  replace sep := sep.up g19.size
  refine sD [(0,.slice va n vc),(1,nV k),(6,pV h.size),(8,pV h11.size)] ?_
  clear hF a; intro a hF
  refine tK ?_
  refine cS ?_
  refine cP 9 hF ?_
  refine sC 1 (.func (.func 43) #[] #[.pointer (some ⟨h1.size,0,none⟩),.pointer (some ⟨h.size,0,none⟩),.pointer (some ⟨h11.size,0,none⟩)]) (Calm.load (T := 64) (p := ⟨h11.size,0,none⟩) (by kernel_rfl) (Loads.one (k := 1) (by kernel_rfl) ((hcell_blk m15).trans rfl))) ?_
  refine sP 3 [.slice va n vc,nV k] ?_
  have own_p : Own h18 (.slice none ([] : List Hs).length 0) 23 ([] : List Hs).length 32 (hcs []) := Own.nil _ _ _
  have hlo := e0.size
  have sepq : Sep h.size h18.size [(none : Option Addr).map (fun (x : Addr) => x.block),some (h1.size),some (h.size),some (h11.size)] := sep.pick3 hlo 1 2 0 rfl rfl rfl (by decide) (by decide) (by decide)
  refine SeqK.eff (k' := 4) (Does.call (f := 43) (args := #[.slice va n vc,.int .i64 ((k : Nat) : Int),.pointer (some ⟨h1.size,0,none⟩),.pointer (some ⟨h.size,0,none⟩),.pointer (some ⟨h11.size,0,none⟩)]) (by kernel_rfl) (down_all h (h1.size) (h.size) (h11.size) h0s n n (Nat.le_refl _) _ L va vc k true [] none 0 (by omega) (by omega) hL m8 m3 m15 own_p sepq e0 kt (by simp; omega))) rfl ?_
  rintro _ h20 ⟨ad3,cap3,wh3,hw3,hp3,hd3,own3,sep3,e3,kt3⟩
  simp only [List.nil_append] at hp3 own3
  clear own_p sepq sep e0 kt m8 m3 m15 hlo
  have e0 := e3; have kt := kt3; have sep := sep3; clear e3 kt3 sep3
  refine sD [(6,pV h.size)] ?_
  clear hF a; intro a hF
  refine tK ?_
  refine cS ?_
  refine cP 10 hF ?_
  refine sC 1 (.slice ad3 ((cons k L true).length) cap3) (Calm.load (T := 24) (p := ⟨h.size,0,none⟩) (by kernel_rfl) (Loads.one (k := 1) (by kernel_rfl) ((hcell_blk hp3).trans rfl))) ?_
  refine sP 3 [.slice ad3 ((cons k L true).length) cap3,.int .i64 0] ?_
  refine sD [(4,.slice ad3 ((cons k L true).length) cap3),(5,.int .i64 0)] ?_
  clear hF a; intro a hF
  refine tK ?_
  refine cR ?_
  show retK Tryd.prog Tryd.f22 (fun v h' => ∃ s,v = .tuple #[s,.int .i64 (consZ L (k : Int)).2] ∧ OwnNew h h' 23 s (consZ L (k : Int)).1) .ret a h20
  refine ret_ok [.tmp 4,.tmp 5] [.slice ad3 ((cons k L true).length) cap3,.int .i64 0] (.tuple #[.slice ad3 ((cons k L true).length) cap3,.int .i64 0]) rfl hF ⟨rfl,rfl,trivial⟩ rfl ?_
  rw [consZ_yes (by omega) (by omega)]; exact ⟨_,rfl,ad3,cap3,rfl,own3,sep.low 0 rfl,e0⟩
end Go.Proofs.YteinikjbaaembaaDoor
