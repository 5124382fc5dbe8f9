/- Walks of the laws of proofs held: what each function computes, as a law of its calls. No condition but those that each theorem names. -/
import Derived.Test.YteinikjbaaembaaDoorLaw06A
import Derived.Test.YteinikjbaaembaaDoorLawRows
namespace Go.Proofs.YteinikjbaaembaaDoor
open Go Go.Lane Go.Sha
noncomputable def b16 : Code := Tryd.f16.body.getD .skip
theorem leaves6_sat (h : Heap) (sl : List Sl) (va : Option Addr) (vc : Nat) (ra : Rws h va vc sl) (hfl : (flat sl).length ≤ 1048576) (hsl : sl.length ≤ 1048576) : Sat Tryd.prog 16 #[.slice va sl.length vc] h fun v h' => OwnNew h h' 23 v (lvr sl sl.length) := by
 have e0 := Ext.refl h
 have sep : Sep h.size h.size [] := Sep.nil _ _
 refine sat_of (args := [.slice va sl.length vc]) (fn := Tryd.f16) (B := b16) (n := 21) (L := [(0,.slice va sl.length vc)]) Tryd.func16 rfl (by kernel_rfl) rfl ?_
 intro a hF
 refine cS ?_
 refine cP 0 hF ?_
 refine sP 1 [.slice none 0 0] ?_
 refine sD [(0,.slice va sl.length vc)] ?_
 clear hF a; intro a hF
 refine tK ?_
 refine cS ?_
 refine cP 1 hF ?_
 refine SeqK.eff (k' := 1) (Does.new (v := .slice (some ⟨h.size,0,none⟩) 0 0) (o := .cells #[] 23) (by kernel_rfl)) rfl ?_
 rintro _ h1 ⟨rfl,hh⟩
 have g2 : Ext h h1 := push_ext hh
 have m3 : h1[h.size]? = some (.cells #[] 23) := push_at hh
 clear hh
 have lt4 := blk_lt m3
 have zs5 := e0.size
 have hlo := e0.size
 have sepo := sep
 replace e0 := e0.ext g2
 replace sep := sep.up g2.size
 replace sep := sepo.new hlo (blk_lt m3)
 clear sepo hlo
 refine sP 2 [.slice (some ⟨h.size,0,none⟩) 0 0] ?_
 refine sD [(0,.slice va sl.length vc),(3,.slice (some ⟨h.size,0,none⟩) 0 0)] ?_
 clear hF a; intro a hF
 refine tK ?_
 refine cS ?_
 refine cS ?_
 refine cP 2 hF ?_
 refine sP 1 [.int .i64 0] ?_
 refine sD [(0,.slice va sl.length vc),(3,.slice (some ⟨h.size,0,none⟩) 0 0),(4,.int .i64 0)] ?_
 clear hF a; intro a hF
 refine tK ?_
 refine cB 0 ?_
 have own_o : Own h1 (.slice (some ⟨h.size,0,none⟩) 0 0) 23 ([] : List UInt8).length 32 (hcs []) := Own.empty 32 m3
 replace sep : Sep h.size h1.size [(some ⟨h.size,0,none⟩ : Option Addr).map (·.block)] := sep
 clear m3 lt4 zs5
 refine C.loop (fun m a h' => ∃ i : Nat,∃ ad : Option Addr,∃ cap : Nat,m = sl.length - i ∧ (Ext h h') ∧ (i ≤ sl.length) ∧ (Own h' (.slice ad i cap) 23 i 32 (hcs (lvr sl i))) ∧ (Sep h.size h'.size [ad.map (·.block)]) ∧ (Fr a 21 [(0,.slice va sl.length vc),(3,.slice ad i cap),(4,.int .i64 ((i : Nat) : Int))])) (sl.length - 0) [1,1,0,1,0,0] (by kernel_rfl) ⟨0,(some ⟨h.size,0,none⟩),0,rfl,e0,(by omega),own_o,sep,hF⟩ ?_
 clear hF a
 clear e0
 clear own_o
 clear sep
 rintro m a h6 ⟨i,ad,cap,rfl,e0,hi,own_o,sep,hF⟩
 refine cS ?_
 refine cS ?_
 refine cP 3 hF ?_
 refine sP 4 [nV i,.slice va sl.length vc,nV sl.length,.bool (decide (((i : Nat) : Int) < ((sl.length : Nat) : Int)))] ?_
 refine sD [(0,.slice va sl.length vc),(3,.slice ad i cap),(4,nV i),(9,.bool (decide (((i : Nat) : Int) < ((sl.length : Nat) : Int))))] ?_
 clear hF a; intro a hF
 refine tK ?_
 refine cC 9 (decide (((i : Nat) : Int) < ((sl.length : Nat) : Int))) hF (fun hc7 => ?_) (fun hc7 => ?_)
 ·skip
  replace hc7 := of_decide_eq_true hc7
  have hia : i < sl.length := by omega
  obtain ⟨aa,rfl⟩ := ra.some hia
  obtain ⟨ta,hta,ca,hra,hla,hfa,hba⟩ := ra.at hia
  refine cN ?_
  refine tK ?_
  refine cS ?_
  refine cB 1 ?_
  refine cP 5 hF ?_
  refine sP 3 [.slice ad i cap,.slice (some aa) sl.length vc,nV i] ?_
  refine sC 4 (.pointer (some (Addr.add aa i))) ((Calm.indexA (a := aa) (len := sl.length) (sz := 1) (k := ((i : Nat) : Int)) i i (by kernel_rfl) rfl (by omega) (by omega)) _) ?_
  refine sC 5 (.slice ta.1 ta.2.2.length ta.2.1) (Calm.load (T := 60) (p := (Addr.add aa i)) (by kernel_rfl) (Loads.one (k := 1) (by kernel_rfl) ((e0.cell ca)))) ?_
  refine SeqK.eff (k' := 6) (Does.call (f := 34) (args := #[.slice ta.1 ta.2.2.length ta.2.1]) (by kernel_rfl) (rleaf_sat _ ta.2.2 ta.1 ta.2.1 (hra.ext e0) (by omega))) rfl ?_
  rintro _ h8 ⟨rfl,g⟩
  replace e0 := e0.ext g
  replace own_o := own_o.ext g
  replace sep := sep.up g.size
  clear g
  refine SeqK.eff (k' := 7) (Does.newHs (L := [leafH ta.2.2]) (t := 24) (E := 23) (by_ := 32) (n := 1) (by kernel_rfl) (by kernel_rfl) (All32.cons (leaf_len _) All32.nil) rfl (by decide) (by decide)) rfl ?_
  rintro _ h9 ⟨rfl,hh⟩
  have g10 : Ext h8 h9 := push_ext hh
  have m11 : h9[h8.size]? = some (.cells (hcs [leafH ta.2.2]).toArray 23) := push_at hh
  clear hh
  have lt12 := blk_lt m11
  have zs13 := e0.size
  have hlo := e0.size
  have sepo := sep
  replace e0 := e0.ext g10
  replace own_o := own_o.ext g10
  replace sep := sep.up g10.size
  replace sep := sepo.new hlo (blk_lt m11)
  clear sepo hlo
  refine SeqK.eff (k' := 8) (Does.append2 (t := 24) (E := 23) (sz := 32) (by_ := 32) (n := i) (m := 1) (v := .slice ad i cap) (x := .slice (some ⟨h8.size,0,none⟩) 1 1) (xs := (hcs (lvr sl i))) (ys := (hcs ([leafH ta.2.2]))) (by kernel_rfl) (by kernel_rfl) own_o (hrow1 (leaf_len _) m11) (ones_hcs _) (by unfold maxLen; omega) (by omega)) rfl ?_
  rintro _ h16 ⟨ad14,cap15,rfl,ownx,g,hb⟩
  rw [blkOf_slice] at g hb
  have hlo := e0.size
  have sepo := sep
  replace e0 := e0.grew g (sep.low 1 rfl)
  replace m11 := Grew.blk g m11 ((sep.bp 0 1))
  replace sep := sep.up g.size
  replace sep : Sep h.size h16.size [some (h8.size),ad14.map (·.block)] := sepo.set g.size hlo 1 (y := ad14.map (fun (x : Addr) => x.block)) rfl (hb.imp id fun e => .inr ⟨_,e,Nat.le_refl _⟩) (fun k e => ownx.lt (by rw [blkOf_slice]; exact e))
  replace own_o : Own h16 (.slice ad14 (i + 1) cap15) 23 (i + 1) 32 (hcs (lvr sl i ++ [leafH ta.2.2])) := Own.appG ownx (by first | rfl | exact (hcs_append _ _).symm | simp [hcs_append]) (by first | rfl | (simp; done) | (simp; omega))
  clear ownx g hb hlo sepo
  clear m11
  replace sep := sep.sub (l' := [ad14.map (·.block)]) (.cons _ (.cons_cons _ (.slnil)))
  refine sP 9 [.slice ad14 (i + 1) cap15] ?_
  refine sD [(0,.slice (some aa) sl.length vc),(3,.slice ad14 (i + 1) cap15),(4,nV i)] ?_
  clear hF a; intro a hF
  show C Tryd.prog (sub b16 [1,1,0,1,0,0,1,1]) _ a h16
  refine cP 4 hF ?_
  refine sP 1 [nV i] ?_
  refine s1 2 (.int .i64 ((i + 1 : Nat) : Int)) (.int .i64 (IntKind.i64.wrap (((i : Nat) : Int) + 1))) (congrArg (Value.int .i64) (w64' (by omega) (by omega) (by omega))) ?_
  refine sP 3 [nV (i + 1)] ?_
  refine sD [(0,.slice (some aa) sl.length vc),(3,.slice ad14 (i + 1) cap15),(4,nV (i + 1))] ?_
  clear hF a; intro a hF
  rw [lvr_next hta] at own_o
  show ∃ m',m' < _ ∧ _
  refine ⟨_,?_,i + 1,ad14,cap15,rfl,e0,(by omega),own_o,sep,hF⟩
  omega
 ·skip
  replace hc7 := of_decide_eq_false hc7
  refine cX 0 ?_
  show C Tryd.prog (sub b16 [1,1,1]) _ a h6
  refine cS ?_
  refine cP 6 hF ?_
  refine sP 2 [.slice ad i cap,.slice ad i cap] ?_
  refine sD [(2,.slice ad i cap)] ?_
  clear hF a; intro a hF
  refine tK ?_
  refine cR ?_
  show retK Tryd.prog Tryd.f16 (fun v h' => OwnNew h h' 23 v (lvr sl sl.length)) .ret a h6
  refine ret_ok [.tmp 2] [.slice ad i cap] (.slice ad i cap) rfl hF ⟨rfl,trivial⟩ rfl ?_
  obtain rfl : i = sl.length := by omega
  exact ⟨ad,cap,by rw [lvr_len (Nat.le_refl _)],by rw [lvr_len (Nat.le_refl _)]; exact own_o,sep.low 0 rfl,e0⟩
theorem leaves6_n (h : Heap) (sl : List Sl) (va : Option Addr) (vc : Nat) (ra : Rws h va vc sl) (hfl : (flat sl).length ≤ 1048576) (hsl : sl.length ≤ 1048576) (H : List Hs) (hH : lvr sl sl.length = H) : Sat Tryd.prog 16 #[.slice va sl.length vc] h fun v h' => ∃ ad cap,v = .slice ad sl.length cap ∧ Own h' (.slice ad sl.length cap) 23 sl.length 32 (hcs H) ∧ (∀ k,ad.map (fun (x : Addr) => x.block) = some k → h.size ≤ k) ∧ Ext h h' := by
 have := leaves6_sat h sl va vc ra hfl hsl
 unfold OwnNew at this
 rw [lvr_len (Nat.le_refl _),hH] at this
 exact this
end Go.Proofs.YteinikjbaaembaaDoor
