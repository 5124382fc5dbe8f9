/- Walks of the laws of the trees: what each function computes, as a law of its calls. No condition but those that each theorem names. -/
import Derived.Test.YtfompolnofgldaaDoorLawTree
import Derived.Test.YtfompolnofgldaaDoorTreeH
import Derived.Test.YtfompolnofgldaaDoorTreeI
import Derived.Test.YtfompolnofgldaaDoorTreeF
namespace Go.Proofs.YtfompolnofgldaaDoor
open Go Go.Lane Go.Sha
theorem tincl_at (h : Heap) (L : List Hs) (va : Option Addr) (vc n : Nat) (hL : HR h va vc n L) (hn : n ≤ 1099511627000) (m : Int) (kt : Ktab h) (p : List Hs) (e : Int) (hz : inclZ L m = (p,e)) : Sat Tryd.prog 16 #[.slice va n vc,.int .i64 m] h fun v h' => ∃ s,v = .tuple #[s,.int .i64 e] ∧ OwnNew h h' 27 s p := by
 have := tincl_sat h L va vc n hL hn m kt
 rw [hz] at this
 exact this
theorem tcons_at (h : Heap) (L : List Hs) (va : Option Addr) (vc n : Nat) (hL : HR h va vc n L) (hn : n ≤ 1099511627000) (m : Int) (kt : Ktab h) (p : List Hs) (e : Int) (hz : consZ L m = (p,e)) : Sat Tryd.prog 18 #[.slice va n vc,.int .i64 m] h fun v h' => ∃ s,v = .tuple #[s,.int .i64 e] ∧ OwnNew h h' 27 s p := by
 have := tcons_sat h L va vc n hL hn m kt
 rw [hz] at this
 exact this
theorem rincl_at (h : Heap) (L : List Hs) (va : Option Addr) (vc n : Nat) (hL : HR h va vc n L) (hn : n ≤ 1099511627000) (m : Int) (p : List Hs) (e : Int) (hz : inclZ L m = (p,e)) : Sat Tryd.prog 17 #[.slice va n vc,.int .i64 m] h fun v h' => ∃ s,v = .tuple #[s,.int .i64 e] ∧ OwnNew h h' 27 s p := by
 have := rincl_sat h L va vc n hL hn m
 rw [hz] at this
 exact this
theorem rcons_at (h : Heap) (L : List Hs) (va : Option Addr) (vc n : Nat) (hL : HR h va vc n L) (hn : n ≤ 1099511627000) (m : Int) (p : List Hs) (e : Int) (hz : consZ L m = (p,e)) : Sat Tryd.prog 19 #[.slice va n vc,.int .i64 m] h fun v h' => ∃ s,v = .tuple #[s,.int .i64 e] ∧ OwnNew h h' 27 s p := by
 have := rcons_sat h L va vc n hL hn m
 rw [hz] at this
 exact this
noncomputable def b9 : Code := Tryd.f9.body.getD .skip
theorem leaves_sat (h : Heap) (l : List UInt8) (va : Option Addr) (vc : Nat) (hr : Row h (.slice va l.length vc) l.length 1 (l.map bv)) (hn : l.length ≤ 1048576) : Sat Tryd.prog 9 #[.slice va l.length vc] h fun v h' => OwnNew h h' 27 v (lvs l l.length) := by
 have e0 := Ext.refl h
 have sep : Sep h.size h.size [] := Sep.nil _ _
 refine sat_of (args := [.slice va l.length vc]) (fn := Tryd.f9) (B := b9) (n := 24) (L := [(0,.slice va l.length vc)]) Tryd.func9 rfl (by kernel_rfl) rfl ?_
 intro a hF
 refine C.seq [0] [1] (by kernel_rfl) ?_
 refine C.plain 0 (by kernel_rfl) hF (by kernel_rfl) ?_
 refine SeqK.pures (k' := 1) [.slice none 0 0] (by kernel_rfl) rfl ?_
 refine SeqK.done [0] (L := [(0,.slice va l.length vc)]) (by kernel_rfl) (by kernel_rfl) ?_
 clear hF; clear a; intro a hF
 show C Tryd.prog (sub b9 [1]) _ a h
 refine C.seq [1,0] [1,1] (by kernel_rfl) ?_
 refine C.plain 1 (by kernel_rfl) hF (by kernel_rfl) ?_
 refine SeqK.eff (k' := 1) (Does.new (v := .slice (some ⟨h.size,0,none⟩) 0 0) (o := .cells #[] 27) (by kernel_rfl)) rfl ?_
 rintro _ h1 ⟨rfl,hh⟩
 have g2 : Ext h h1 := push_ext hh
 have m3 : h1[h.size]? = some (.cells #[] 27) := push_at hh
 clear hh
 have lt4 := blk_lt m3
 have z5 := e0.size
 have hlo := e0.size
 have sepo := sep
 replace e0 := e0.ext g2
 replace sep := sep.up g2.size
 replace sep := sepo.new hlo (blk_lt m3)
 clear sepo hlo
 refine SeqK.pures (k' := 2) [.slice (some ⟨h.size,0,none⟩) 0 0] (by kernel_rfl) rfl ?_
 refine SeqK.done [0,3] (L := [(0,.slice va l.length vc),(3,.slice (some ⟨h.size,0,none⟩) 0 0)]) (by kernel_rfl) (by kernel_rfl) ?_
 clear hF; clear a; intro a hF
 show C Tryd.prog (sub b9 [1,1]) _ a h1
 refine C.seq [1,1,0] [1,1,1] (by kernel_rfl) ?_
 refine C.seq [1,1,0,0] [1,1,0,1] (by kernel_rfl) ?_
 refine C.plain 2 (by kernel_rfl) hF (by kernel_rfl) ?_
 refine SeqK.pures (k' := 1) [.int .i64 0] (by kernel_rfl) rfl ?_
 refine SeqK.done [0,3,4] (L := [(0,.slice va l.length vc),(3,.slice (some ⟨h.size,0,none⟩) 0 0),(4,.int .i64 0)]) (by kernel_rfl) (by kernel_rfl) ?_
 clear hF; clear a; intro a hF
 show C Tryd.prog (sub b9 [1,1,0,1]) _ a h1
 refine C.block 0 [1,1,0,1,0] (by kernel_rfl) ?_
 have own_o : Own h1 (.slice (some ⟨h.size,0,none⟩) 0 0) 27 ([] : List UInt8).length 32 (hcs []) := Own.empty 32 m3
 replace sep : Sep h.size h1.size [(some ⟨h.size,0,none⟩ : Option Addr).map (·.block)] := sep
 clear m3 lt4 z5
 refine C.loop (fun m a h' => ∃ i : Nat,∃ ad : Option Addr,∃ cap : Nat,m = l.length - i ∧ (Ext h h') ∧ (i ≤ l.length) ∧ (Own h' (.slice ad i cap) 27 i 32 (hcs (lvs l i))) ∧ (Sep h.size h'.size [ad.map (·.block)]) ∧ (Fr a 24 [(0,.slice va l.length vc),(3,.slice ad i cap),(4,.int .i64 ((i : Nat) : Int))])) (l.length - 0) [1,1,0,1,0,0] (by kernel_rfl) ⟨0,(some ⟨h.size,0,none⟩),0,rfl,e0,(by omega),own_o,sep,hF⟩ ?_
 clear hF a
 clear e0
 clear own_o
 clear sep
 rintro m a h6 ⟨i,ad,cap,rfl,e0,hi,own_o,sep,hF⟩
 refine C.seq [1,1,0,1,0,0,0] [1,1,0,1,0,0,1] (by kernel_rfl) ?_
 refine C.seq [1,1,0,1,0,0,0,0] [1,1,0,1,0,0,0,1] (by kernel_rfl) ?_
 refine C.plain 3 (by kernel_rfl) hF (by kernel_rfl) ?_
 refine SeqK.pures (k' := 4) [.int .i64 ((i : Nat) : Int),.slice va l.length vc,.int .i64 ((l.length : Nat) : Int),.bool (decide (((i : Nat) : Int) < ((l.length : Nat) : Int)))] (by kernel_rfl) rfl ?_
 refine SeqK.done [0,3,4,9] (L := [(0,.slice va l.length vc),(3,.slice ad i cap),(4,.int .i64 ((i : Nat) : Int)),(9,.bool (decide (((i : Nat) : Int) < ((l.length : Nat) : Int))))]) (by kernel_rfl) (by kernel_rfl) ?_
 clear hF; clear a; intro a hF
 show C Tryd.prog (sub b9 [1,1,0,1,0,0,0,1]) _ a h6
 refine C.condS 9 (decide (((i : Nat) : Int) < ((l.length : Nat) : Int))) [1,1,0,1,0,0,0,1,0] [1,1,0,1,0,0,0,1,1] (by kernel_rfl) hF (fun _ => rfl) (fun hc7 => ?_) (fun hc7 => ?_)
 ·skip
  replace hc7 := of_decide_eq_true hc7
  obtain ⟨aa,rfl⟩ : ∃ a,va = some a := by
   obtain ⟨a,cap,e,_⟩ := hr.at (by omega); cases e; exact ⟨_,rfl⟩
  refine C.skip (by kernel_rfl) ?_
  show C Tryd.prog (sub b9 [1,1,0,1,0,0,1]) _ a h6
  refine C.seq [1,1,0,1,0,0,1,0] [1,1,0,1,0,0,1,1] (by kernel_rfl) ?_
  refine C.block 1 [1,1,0,1,0,0,1,0,0] (by kernel_rfl) ?_
  refine C.plain 5 (by kernel_rfl) hF (by kernel_rfl) ?_
  refine SeqK.pures (k' := 3) [.slice ad i cap,.slice (some aa) l.length vc,.int .i64 ((i : Nat) : Int)] (by kernel_rfl) rfl ?_
  refine SeqK.calm (k' := 4) (v := .pointer (some (Addr.add aa i))) ((Calm.indexA (a := aa) (len := l.length) (sz := 1) (k := ((i : Nat) : Int)) i i (by kernel_rfl) rfl (by omega) (by omega)) _) rfl ?_
  refine SeqK.calm (k' := 5) (v := bv (l.getD i 0)) (Calm.load (T := 5) (p := (Addr.add aa i)) (by kernel_rfl) (Loads.one (k := 1) (by kernel_rfl) ((e0.cell (hr.cells _ _ (get_bv (by omega))))))) rfl ?_
  refine SeqK.pures (k' := 6) [.int .i64 ((i : Nat) : Int)] (by kernel_rfl) rfl ?_
  refine SeqK.pure1 (k' := 7) (v := bv (UInt8.ofNat i)) (v' := .int .u8 (IntKind.u8.wrap ((i : Nat) : Int))) (by kernel_rfl) (conv64 _) rfl ?_
  refine SeqK.eff (k' := 8) (Does.new (v := .slice (some ⟨h6.size,0,none⟩) 2 2) (o := .cells #[bv (l.getD i 0),bv (UInt8.ofNat i)] 5) (by kernel_rfl)) rfl ?_
  rintro _ h8 ⟨rfl,hh⟩
  have g9 : Ext h6 h8 := push_ext hh
  have m10 : h8[h6.size]? = some (.cells #[bv (l.getD i 0),bv (UInt8.ofNat i)] 5) := push_at hh
  clear hh
  have lt11 := blk_lt m10
  have z12 := e0.size
  have hlo := e0.size
  have sepo := sep
  replace e0 := e0.ext g9
  replace own_o := own_o.ext g9
  replace sep := sep.up g9.size
  replace sep := sepo.new hlo (blk_lt m10)
  clear sepo hlo
  refine SeqK.eff (k' := 9) (Does.call (f := 11) (args := #[.slice (some ⟨h6.size,0,none⟩) 2 2]) (by kernel_rfl) (rleaf_sat _ [l.getD i 0,UInt8.ofNat i] _ _ (Row.blk (l := [l.getD i 0,UInt8.ofNat i].map bv) m10 rfl) (by simp))) rfl ?_
  rintro _ h13 ⟨rfl,g⟩
  replace e0 := e0.ext g
  replace own_o := own_o.ext g
  replace m10 := Ext.blk g m10
  replace sep := sep.up g.size
  clear g
  refine SeqK.eff (k' := 10) (Does.newHs (L := [leafH [l.getD i 0,UInt8.ofNat i]]) (t := 24) (E := 27) (by_ := 32) (n := 1) (by kernel_rfl) (by kernel_rfl) (All32.cons (leaf_len _) All32.nil) rfl (by decide) (by decide)) rfl ?_
  rintro _ h14 ⟨rfl,hh⟩
  have g15 : Ext h13 h14 := push_ext hh
  have m16 : h14[h13.size]? = some (.cells (hcs [leafH [l.getD i 0,UInt8.ofNat i]]).toArray 27) := push_at hh
  clear hh
  have lt17 := blk_lt m16
  have z18 := e0.size
  have hlo := e0.size
  have sepo := sep
  replace e0 := e0.ext g15
  replace own_o := own_o.ext g15
  replace m10 := Ext.blk g15 m10
  replace sep := sep.up g15.size
  replace sep := sepo.new hlo (blk_lt m16)
  clear sepo hlo
  refine SeqK.eff (k' := 11) (Does.append2 (t := 24) (E := 27) (sz := 32) (by_ := 32) (n := i) (m := 1) (v := .slice ad i cap) (x := .slice (some ⟨h13.size,0,none⟩) 1 1) (xs := (hcs (lvs l i))) (ys := (hcs ([leafH [l.getD i 0,UInt8.ofNat i]]))) (by kernel_rfl) (by kernel_rfl) own_o (hrow1 (leaf_len _) m16) (ones_hcs _) (by unfold maxLen; omega) (by omega)) rfl ?_
  rintro _ h21 ⟨ad19,cap20,rfl,ownx,g,hb⟩
  rw [blkOf_slice] at g hb
  have hlo := e0.size
  have sepo := sep
  replace e0 := e0.grew g (sep.low 2 rfl)
  replace m10 := Grew.blk g m10 ((sep.bp 1 2 rfl rfl (by decide)))
  replace m16 := Grew.blk g m16 ((sep.bp 0 2 rfl rfl (by decide)))
  replace sep := sep.up g.size
  replace sep : Sep h.size h21.size [some (h13.size),some (h6.size),ad19.map (·.block)] := sepo.set g.size hlo 2 (y := ad19.map (fun (x : Addr) => x.block)) rfl (hb.imp id fun e => .inr ⟨_,e,Nat.le_refl _⟩) (fun k e => ownx.lt (by rw [blkOf_slice]; exact e))
  replace own_o : Own h21 (.slice ad19 (i + 1) cap20) 27 (i + 1) 32 (hcs (lvs l i ++ [leafH [l.getD i 0,UInt8.ofNat i]])) := Own.appG ownx (by first | rfl | exact (hcs_append _ _).symm | simp [hcs_append]) (by first | rfl | (simp; done) | (simp; omega))
  clear ownx g hb hlo sepo
  clear m10
  clear m16
  replace sep := sep.sub (l' := [ad19.map (·.block)]) (.cons _ (.cons _ (.cons_cons _ (.slnil))))
  refine SeqK.pures (k' := 12) [.slice ad19 (i + 1) cap20] (by kernel_rfl) rfl ?_
  refine SeqK.done [0,3,4] (L := [(0,.slice (some aa) l.length vc),(3,.slice ad19 (i + 1) cap20),(4,.int .i64 ((i : Nat) : Int))]) (by kernel_rfl) (by kernel_rfl) ?_
  clear hF; clear a; intro a hF
  show C Tryd.prog (sub b9 [1,1,0,1,0,0,1,1]) _ a h21
  refine C.plain 4 (by kernel_rfl) hF (by kernel_rfl) ?_
  refine SeqK.pures (k' := 1) [.int .i64 ((i : Nat) : Int)] (by kernel_rfl) rfl ?_
  refine SeqK.pure1 (k' := 2) (v := .int .i64 ((i + 1 : Nat) : Int)) (v' := .int .i64 (IntKind.i64.wrap (((i : Nat) : Int) + 1))) (by kernel_rfl) (congrArg (Value.int .i64) (w64' (by omega) (by omega) (by omega))) rfl ?_
  refine SeqK.pures (k' := 3) [.int .i64 ((i + 1 : Nat) : Int)] (by kernel_rfl) rfl ?_
  refine SeqK.done [0,3,4] (L := [(0,.slice (some aa) l.length vc),(3,.slice ad19 (i + 1) cap20),(4,.int .i64 ((i + 1 : Nat) : Int))]) (by kernel_rfl) (by kernel_rfl) ?_
  clear hF; clear a; intro a hF
  rw [lvs_next] at own_o
  show ∃ m',m' < _ ∧ _
  refine ⟨_,?_,i + 1,ad19,cap20,rfl,e0,(by omega),own_o,sep,hF⟩
  omega
 ·skip
  replace hc7 := of_decide_eq_false hc7
  refine C.exit 0 (by kernel_rfl) ?_
  show C Tryd.prog (sub b9 [1,1,1]) _ a h6
  refine C.seq [1,1,1,0] [1,1,1,1] (by kernel_rfl) ?_
  refine C.plain 6 (by kernel_rfl) hF (by kernel_rfl) ?_
  refine SeqK.pures (k' := 2) [.slice ad i cap,.slice ad i cap] (by kernel_rfl) rfl ?_
  refine SeqK.done [2] (L := [(2,.slice ad i cap)]) (by kernel_rfl) (by kernel_rfl) ?_
  clear hF; clear a; intro a hF
  show C Tryd.prog (sub b9 [1,1,1,1]) _ a h6
  refine C.ret (by kernel_rfl) ?_
  show retK Tryd.prog Tryd.f9 (fun v h' => OwnNew h h' 27 v (lvs l l.length)) .ret a h6
  refine ret_ok [.tmp 2] [.slice ad i cap] (.slice ad i cap) rfl hF ⟨rfl,trivial⟩ rfl ?_
  obtain rfl : i = l.length := by omega
  exact ⟨ad,cap,by rw [lvs_len],by rw [lvs_len]; exact own_o,sep.low 0 rfl,e0⟩
theorem leaves_n (h : Heap) (l : List UInt8) (va : Option Addr) (vc : Nat) (hr : Row h (.slice va l.length vc) l.length 1 (l.map bv)) (hn : l.length ≤ 1048576) : Sat Tryd.prog 9 #[.slice va l.length vc] h fun v h' => ∃ ad cap,v = .slice ad l.length cap ∧ Own h' (.slice ad l.length cap) 27 l.length 32 (hcs (lvs l l.length)) ∧ (∀ k,ad.map (fun (x : Addr) => x.block) = some k → h.size ≤ k) ∧ Ext h h' := by
 have := leaves_sat h l va vc hr hn
 unfold OwnNew at this
 rw [lvs_len] at this
 exact this
noncomputable def b20 : Code := Tryd.f20.body.getD .skip
theorem hsame_sat (h : Heap) (A B : List Hs) (va vb : Option Addr) (vc vd n k : Nat) (hA : HR h va vc n A) (hB : HR h vb vd k B) (hn : n ≤ 1099511627776) : Sat Tryd.prog 20 #[.slice va n vc,.slice vb k vd] h fun v h' => v = .bool (decide (A = B)) ∧ h' = h := by
 refine sat_of (args := [.slice va n vc,.slice vb k vd]) (fn := Tryd.f20) (B := b20) (n := 26) (L := [(0,.slice va n vc),(1,.slice vb k vd)]) Tryd.func20 rfl (by kernel_rfl) rfl ?_
 intro a hF
 refine C.seq [0] [1] (by kernel_rfl) ?_
 refine C.plain 0 (by kernel_rfl) hF (by kernel_rfl) ?_
 refine SeqK.pures (k' := 1) [.bool false] (by kernel_rfl) rfl ?_
 refine SeqK.done [0,1] (L := [(0,.slice va n vc),(1,.slice vb k vd)]) (by kernel_rfl) (by kernel_rfl) ?_
 clear hF; clear a; intro a hF
 show C Tryd.prog (sub b20 [1]) _ a h
 refine C.seq [1,0] [1,1] (by kernel_rfl) ?_
 refine C.seq [1,0,0] [1,0,1] (by kernel_rfl) ?_
 refine C.plain 1 (by kernel_rfl) hF (by kernel_rfl) ?_
 refine SeqK.pures (k' := 5) [.slice va n vc,.int .i64 ((n : Nat) : Int),.slice vb k vd,.int .i64 ((k : Nat) : Int),.bool (!decide (((n : Nat) : Int) = ((k : Nat) : Int)))] (by kernel_rfl) rfl ?_
 refine SeqK.done [0,1,10] (L := [(0,.slice va n vc),(1,.slice vb k vd),(10,.bool (!decide (((n : Nat) : Int) = ((k : Nat) : Int))))]) (by kernel_rfl) (by kernel_rfl) ?_
 clear hF; clear a; intro a hF
 show C Tryd.prog (sub b20 [1,0,1]) _ a h
 refine C.condS 10 (!decide (((n : Nat) : Int) = ((k : Nat) : Int))) [1,0,1,0] [1,0,1,1] (by kernel_rfl) hF (fun _ => rfl) (fun hc1 => ?_) (fun hc1 => ?_)
 ·skip
  replace hc1 := not_decide_true hc1
  refine C.seq [1,0,1,0,0] [1,0,1,0,1] (by kernel_rfl) ?_
  refine C.plain 2 (by kernel_rfl) hF (by kernel_rfl) ?_
  refine SeqK.pures (k' := 1) [.bool false] (by kernel_rfl) rfl ?_
  refine SeqK.done [4] (L := [(4,.bool false)]) (by kernel_rfl) (by kernel_rfl) ?_
  clear hF; clear a; intro a hF
  show C Tryd.prog (sub b20 [1,0,1,0,1]) _ a h
  refine C.ret (by kernel_rfl) ?_
  show retK Tryd.prog Tryd.f20 (fun v h' => v = .bool (decide (A = B)) ∧ h' = h) .ret a h
  refine ret_ok [.tmp 4] [.bool false] (.bool false) rfl hF ⟨rfl,trivial⟩ rfl ?_
  exact ⟨by rw [decide_eq_false (fun e => by have h1 := hA.2.2; have h2 := hB.2.2; rw [e] at h1; omega)],rfl⟩
 ·skip
  replace hc1 := not_decide_false hc1
  have hnm : k = n := by omega
  refine C.skip (by kernel_rfl) ?_
  show C Tryd.prog (sub b20 [1,1]) _ a h
  refine C.seq [1,1,0] [1,1,1] (by kernel_rfl) ?_
  refine C.seq [1,1,0,0] [1,1,0,1] (by kernel_rfl) ?_
  refine C.plain 3 (by kernel_rfl) hF (by kernel_rfl) ?_
  refine SeqK.pures (k' := 1) [.int .i64 0] (by kernel_rfl) rfl ?_
  refine SeqK.done [0,1,5] (L := [(0,.slice va n vc),(1,.slice vb k vd),(5,.int .i64 0)]) (by kernel_rfl) (by kernel_rfl) ?_
  clear hF; clear a; intro a hF
  show C Tryd.prog (sub b20 [1,1,0,1]) _ a h
  refine C.block 0 [1,1,0,1,0] (by kernel_rfl) ?_
  refine C.loop (fun m a h' => ∃ i : Nat,m = n - i ∧ (i ≤ n ∧ A.take i = B.take i) ∧ (h = h') ∧ (Fr a 26 [(0,.slice va n vc),(1,.slice vb k vd),(5,.int .i64 ((i : Nat) : Int))])) (n - 0) [1,1,0,1,0,0] (by kernel_rfl) ⟨0,rfl,⟨by omega,rfl⟩,rfl,hF⟩ ?_
  clear hF a
  rintro m a h2 ⟨i,rfl,hi,hh,hF⟩
  obtain ⟨hi1,hi2⟩ := hi; have hi := And.intro hi1 hi2
  refine C.seq [1,1,0,1,0,0,0] [1,1,0,1,0,0,1] (by kernel_rfl) ?_
  refine C.seq [1,1,0,1,0,0,0,0] [1,1,0,1,0,0,0,1] (by kernel_rfl) ?_
  refine C.plain 4 (by kernel_rfl) hF (by kernel_rfl) ?_
  refine SeqK.pures (k' := 4) [.int .i64 ((i : Nat) : Int),.slice va n vc,.int .i64 ((n : Nat) : Int),.bool (decide (((i : Nat) : Int) < ((n : Nat) : Int)))] (by kernel_rfl) rfl ?_
  refine SeqK.done [0,1,5,14] (L := [(0,.slice va n vc),(1,.slice vb k vd),(5,.int .i64 ((i : Nat) : Int)),(14,.bool (decide (((i : Nat) : Int) < ((n : Nat) : Int))))]) (by kernel_rfl) (by kernel_rfl) ?_
  clear hF; clear a; intro a hF
  show C Tryd.prog (sub b20 [1,1,0,1,0,0,0,1]) _ a h2
  refine C.condS 14 (decide (((i : Nat) : Int) < ((n : Nat) : Int))) [1,1,0,1,0,0,0,1,0] [1,1,0,1,0,0,0,1,1] (by kernel_rfl) hF (fun _ => rfl) (fun hc3 => ?_) (fun hc3 => ?_)
  ·skip
   replace hc3 := of_decide_eq_true hc3
   obtain ⟨aa,rfl,_⟩ := hA.someA (by omega)
   obtain ⟨ab,rfl,_⟩ := hB.someA (by omega)
   refine C.skip (by kernel_rfl) ?_
   show C Tryd.prog (sub b20 [1,1,0,1,0,0,1]) _ a h2
   refine C.seq [1,1,0,1,0,0,1,0] [1,1,0,1,0,0,1,1] (by kernel_rfl) ?_
   refine C.block 1 [1,1,0,1,0,0,1,0,0] (by kernel_rfl) ?_
   refine C.seq [1,1,0,1,0,0,1,0,0,0] [1,1,0,1,0,0,1,0,0,1] (by kernel_rfl) ?_
   refine C.draw (A := [0,0,3,7,0,0,48,112,255]) 6 (by kernel_rfl) mixed hF (by kernel_rfl) ?_
   refine SimK.pures (D' := 3) (is := [0,1]) (vs := [.slice (some aa) n vc,.int .i64 ((i : Nat) : Int)]) (by kernel_rfl) ?_
   refine SimK.free (D' := 7) (i := 2) (v := .pointer (some (Addr.add aa (i * 32)))) (by kernel_rfl) (by kernel_rfl) (Calm.indexA (a := aa) (len := n) (sz := 32) (k := ((i : Nat) : Int)) i (i * 32) (by kernel_rfl) rfl (by omega) (by omega)) ?_
   refine SimK.look (D' := 15) (Wd' := 8) (i := 3) (v := .agg ((A.getD i []).map bv).toArray) (by kernel_rfl) (by kernel_rfl) (by kernel_rfl) (Calm.load (T := 27) (p := (Addr.add aa (i * 32))) (by kernel_rfl) (HR.loads (k := i) (q := i * 32) ((hh ▸ hA)) (by kernel_rfl) (by omega) (by omega))) ?_
   refine SimK.pures (D' := 63) (is := [4,5]) (vs := [.slice (some ab) k vd,.int .i64 ((i : Nat) : Int)]) (by kernel_rfl) ?_
   refine SimK.free (D' := 127) (i := 6) (v := .pointer (some (Addr.add ab (i * 32)))) (by kernel_rfl) (by kernel_rfl) (Calm.indexA (a := ab) (len := k) (sz := 32) (k := ((i : Nat) : Int)) i (i * 32) (by kernel_rfl) rfl (by omega) (by omega)) ?_
   refine SimK.look (D' := 255) (Wd' := 136) (i := 7) (v := .agg ((B.getD i []).map bv).toArray) (by kernel_rfl) (by kernel_rfl) (by kernel_rfl) (Calm.load (T := 27) (p := (Addr.add ab (i * 32))) (by kernel_rfl) (HR.loads (k := i) (q := i * 32) ((hh ▸ hB)) (by kernel_rfl) (by omega) (by omega))) ?_
   refine SimK.free (D' := 511) (i := 8) (v := .bool (!decide ((A.getD i []) = (B.getD i [])))) (by kernel_rfl) (by kernel_rfl) (eqH0 (l := (A.getD i [])) (r := (B.getD i [])) (n := 32) (by kernel_rfl) (hA.2.1.get (k := i) (by rw [hA.2.2]; omega)) (hB.2.1.get (k := i) (by rw [hB.2.2]; omega))) ?_
   refine SimK.done [0,1,5,25] (L := [(0,.slice (some aa) n vc),(1,.slice (some ab) k vd),(5,.int .i64 ((i : Nat) : Int)),(25,.bool (!decide ((A.getD i []) = (B.getD i []))))]) (by kernel_rfl) (by kernel_rfl) ?_
   clear hF; clear a; intro a hF
   show C Tryd.prog (sub b20 [1,1,0,1,0,0,1,0,0,1]) _ a h2
   refine C.condS 25 (!decide ((A.getD i []) = (B.getD i []))) [1,1,0,1,0,0,1,0,0,1,0] [1,1,0,1,0,0,1,0,0,1,1] (by kernel_rfl) hF (fun _ => rfl) (fun hc4 => ?_) (fun hc4 => ?_)
   ·skip
    replace hc4 := not_decide_true hc4
    refine C.seq [1,1,0,1,0,0,1,0,0,1,0,0] [1,1,0,1,0,0,1,0,0,1,0,1] (by kernel_rfl) ?_
    refine C.plain 7 (by kernel_rfl) hF (by kernel_rfl) ?_
    refine SeqK.pures (k' := 1) [.bool false] (by kernel_rfl) rfl ?_
    refine SeqK.done [4] (L := [(4,.bool false)]) (by kernel_rfl) (by kernel_rfl) ?_
    clear hF; clear a; intro a hF
    show C Tryd.prog (sub b20 [1,1,0,1,0,0,1,0,0,1,0,1]) _ a h2
    refine C.ret (by kernel_rfl) ?_
    show retK Tryd.prog Tryd.f20 (fun v h' => v = .bool (decide (A = B)) ∧ h' = h) .ret a h2
    refine ret_ok [.tmp 4] [.bool false] (.bool false) rfl hF ⟨rfl,trivial⟩ rfl ?_
    exact ⟨by rw [decide_eq_false (take_ne hc4)],hh.symm⟩
   ·skip
    replace hc4 := not_decide_false hc4
    have hq := hc4
    refine C.skip (by kernel_rfl) ?_
    show C Tryd.prog (sub b20 [1,1,0,1,0,0,1,1]) _ a h2
    refine C.plain 5 (by kernel_rfl) hF (by kernel_rfl) ?_
    refine SeqK.pures (k' := 1) [.int .i64 ((i : Nat) : Int)] (by kernel_rfl) rfl ?_
    refine SeqK.pure1 (k' := 2) (v := .int .i64 ((i + 1 : Nat) : Int)) (v' := .int .i64 (IntKind.i64.wrap (((i : Nat) : Int) + 1))) (by kernel_rfl) (congrArg (Value.int .i64) (w64' (by omega) (by omega) (by omega))) rfl ?_
    refine SeqK.pures (k' := 3) [.int .i64 ((i + 1 : Nat) : Int)] (by kernel_rfl) rfl ?_
    refine SeqK.done [0,1,5] (L := [(0,.slice (some aa) n vc),(1,.slice (some ab) k vd),(5,.int .i64 ((i + 1 : Nat) : Int))]) (by kernel_rfl) (by kernel_rfl) ?_
    clear hF; clear a; intro a hF
    show ∃ m',m' < _ ∧ _
    refine ⟨_,?_,i + 1,rfl,⟨by omega,take_eq (i := i) (n := n) hA.2.2 (hB.2.2.trans hnm) (by omega) hi.2 hq⟩,hh,hF⟩
    omega
  ·skip
   replace hc3 := of_decide_eq_false hc3
   refine C.exit 0 (by kernel_rfl) ?_
   show C Tryd.prog (sub b20 [1,1,1]) _ a h2
   refine C.seq [1,1,1,0] [1,1,1,1] (by kernel_rfl) ?_
   refine C.plain 8 (by kernel_rfl) hF (by kernel_rfl) ?_
   refine SeqK.pures (k' := 1) [.bool true] (by kernel_rfl) rfl ?_
   refine SeqK.done [4] (L := [(4,.bool true)]) (by kernel_rfl) (by kernel_rfl) ?_
   clear hF; clear a; intro a hF
   show C Tryd.prog (sub b20 [1,1,1,1]) _ a h2
   refine C.ret (by kernel_rfl) ?_
   show retK Tryd.prog Tryd.f20 (fun v h' => v = .bool (decide (A = B)) ∧ h' = h) .ret a h2
   refine ret_ok [.tmp 4] [.bool true] (.bool true) rfl hF ⟨rfl,trivial⟩ rfl ?_
   have hAB : A = B := by
    have e := hi.2
    rw [List.take_of_length_le (by rw [hA.2.2]; omega),List.take_of_length_le (by rw [hB.2.2]; omega)] at e; exact e
   exact ⟨by rw [decide_eq_true hAB],hh.symm⟩
end Go.Proofs.YtfompolnofgldaaDoor
