/- what two records are to one another; insertion sort: what it comes to. Conditions: those that each theorem names. -/
import Derived.Test.YtlghdimpgfhmcaaRetE
import Derived.Test.YtlghdimpgfhmcaaRetOrd
namespace Go.Proofs.Ytlghdimpgfhmcaa
open Go Go.Lane Go.Sha
noncomputable def b35 : Code := Try.f35.body.getD .skip
theorem nan_sat (h : Heap) (x : Int) : Sat Try.prog 35 #[.int .i64 x] h fun v h' => v = .bool false ∧ h' = h := by
 refine sat_of (args := [.int .i64 x]) (fn := Try.f35) (B := b35) (n := 6) (L := [(0,.int .i64 x)]) Try.func35 rfl (by kernel_rfl) rfl ?_
 intro a hF
 refine cS ?_
 refine cP 0 hF ?_
 refine sP 1 [.bool false] ?_
 refine sD [(0,.int .i64 x)] ?_
 clear hF a; intro a hF
 refine tK ?_
 refine cS ?_
 refine cP 1 hF ?_
 refine sP 2 [.int .i64 x,.int .i64 x] ?_
 refine s1 3 (.bool false) (.bool (!(x == x))) (congrArg (fun b => Value.bool (!b)) (beq_iff_eq.2 (by omega))) ?_
 refine sP 4 [.bool false] ?_
 refine sD [(2,.bool false)] ?_
 clear hF a; intro a hF
 refine tK ?_
 refine cR ?_
 show retK Try.prog Try.f35 (fun v h' => v = .bool false ∧ h' = h) .ret a h
 refine ret_ok [.tmp 2] [.bool false] (.bool false) rfl hF ⟨rfl,trivial⟩ rfl ?_
 exact ⟨rfl,rfl⟩
noncomputable def b31 : Code := Try.f31.body.getD .skip
theorem compare_sat (h : Heap) (x y : Int) : Sat Try.prog 31 #[.int .i64 x,.int .i64 y] h fun v h' => v = .int .i64 (cmpI x y) ∧ h' = h := by
 refine sat_of (args := [.int .i64 x,.int .i64 y]) (fn := Try.f31) (B := b31) (n := 20) (L := [(0,.int .i64 x),(1,.int .i64 y)]) Try.func31 rfl (by kernel_rfl) rfl ?_
 intro a hF
 refine cS ?_
 refine cP 0 hF ?_
 refine sP 1 [.int .i64 0] ?_
 refine sD [(0,.int .i64 x),(1,.int .i64 y)] ?_
 clear hF a; intro a hF
 refine tK ?_
 refine cS ?_
 refine cP 1 hF ?_
 refine sP 1 [.int .i64 x] ?_
 refine sC 2 (.bool false) (Does.call (f := 35) (args := #[.int .i64 x]) (by kernel_rfl) (nan_sat _ x)) ?_
 refine sP 3 [.bool false] ?_
 refine sD [(0,.int .i64 x),(1,.int .i64 y),(5,.bool false)] ?_
 clear hF a; intro a hF
 refine tK ?_
 refine cS ?_
 refine cP 2 hF ?_
 refine sP 1 [.int .i64 y] ?_
 refine sC 2 (.bool false) (Does.call (f := 35) (args := #[.int .i64 y]) (by kernel_rfl) (nan_sat _ y)) ?_
 refine sP 3 [.bool false] ?_
 refine sD [(0,.int .i64 x),(1,.int .i64 y),(5,.bool false),(6,.bool false)] ?_
 clear hF a; intro a hF
 refine tK ?_
 refine cS ?_
 refine cS ?_
 refine cP 3 hF ?_
 refine sP 1 [.bool false] ?_
 refine sD [(0,.int .i64 x),(1,.int .i64 y),(6,.bool false),(11,.bool false)] ?_
 clear hF a; intro a hF
 refine tK ?_
 refine cF 11 hF ?_
 refine cN ?_
 refine tK ?_
 refine cS ?_
 refine cS ?_
 refine cP 7 hF ?_
 refine sP 1 [.bool false] ?_
 refine sD [(0,.int .i64 x),(1,.int .i64 y),(13,.bool false)] ?_
 clear hF a; intro a hF
 refine tK ?_
 refine cF 13 hF ?_
 refine cN ?_
 refine tK ?_
 refine cS ?_
 refine cS ?_
 refine cP 9 hF ?_
 refine sP 3 [.int .i64 x,.int .i64 y,.bool (decide (x < y))] ?_
 refine sD [(0,.int .i64 x),(1,.int .i64 y),(16,.bool (decide (x < y)))] ?_
 clear hF a; intro a hF
 refine tK ?_
 refine cC 16 (decide (x < y)) hF (fun hc1 => ?_) (fun hc1 => ?_)
 ·skip
  replace hc1 := of_decide_eq_true hc1
  refine cS ?_
  refine cP 10 hF ?_
  refine sP 1 [.int .i64 (-1)] ?_
  refine sD [(4,.int .i64 (-1))] ?_
  clear hF a; intro a hF
  refine tK ?_
  refine cR ?_
  show retK Try.prog Try.f31 (fun v h' => v = .int .i64 (cmpI x y) ∧ h' = h) .ret a h
  refine ret_ok [.tmp 4] [.int .i64 (-1)] (.int .i64 (-1)) rfl hF ⟨rfl,trivial⟩ rfl ?_
  exact ⟨congrArg (Value.int .i64) (by unfold cmpI; split <;> first | omega | (split <;> omega)),rfl⟩
 ·skip
  replace hc1 := of_decide_eq_false hc1
  refine cN ?_
  refine tK ?_
  refine cS ?_
  refine cS ?_
  refine cP 11 hF ?_
  refine sP 3 [.int .i64 x,.int .i64 y,.bool (decide (y < x))] ?_
  refine sD [(19,.bool (decide (y < x)))] ?_
  clear hF a; intro a hF
  refine tK ?_
  refine cC 19 (decide (y < x)) hF (fun hc2 => ?_) (fun hc2 => ?_)
  ·skip
   replace hc2 := of_decide_eq_true hc2
   refine cS ?_
   refine cP 12 hF ?_
   refine sP 1 [.int .i64 1] ?_
   refine sD [(4,.int .i64 1)] ?_
   clear hF a; intro a hF
   refine tK ?_
   refine cR ?_
   show retK Try.prog Try.f31 (fun v h' => v = .int .i64 (cmpI x y) ∧ h' = h) .ret a h
   refine ret_ok [.tmp 4] [.int .i64 1] (.int .i64 1) rfl hF ⟨rfl,trivial⟩ rfl ?_
   exact ⟨congrArg (Value.int .i64) (by unfold cmpI; split <;> first | omega | (split <;> omega)),rfl⟩
  ·skip
   replace hc2 := of_decide_eq_false hc2
   refine cN ?_
   refine tK ?_
   refine cS ?_
   refine cP 13 hF ?_
   refine sP 1 [.int .i64 0] ?_
   refine sD [(4,.int .i64 0)] ?_
   clear hF a; intro a hF
   refine tK ?_
   refine cR ?_
   show retK Try.prog Try.f31 (fun v h' => v = .int .i64 (cmpI x y) ∧ h' = h) .ret a h
   refine ret_ok [.tmp 4] [.int .i64 0] (.int .i64 0) rfl hF ⟨rfl,trivial⟩ rfl ?_
   exact ⟨congrArg (Value.int .i64) (by unfold cmpI; split <;> first | omega | (split <;> omega)),rfl⟩
noncomputable def b36 : Code := Try.f36.body.getD .skip
theorem cstring_sat (h : Heap) (s t : ByteArray) : Sat Try.prog 36 #[.string s,.string t] h fun v h' => v = .int .i64 (Lib.compareBytes s.data.toList t.data.toList) ∧ h' = h := by
 refine sat_of (args := [.string s,.string t]) (fn := Try.f36) (B := b36) (n := 8) (L := [(0,.string s),(1,.string t)]) Try.func36 rfl (by kernel_rfl) rfl ?_
 intro a hF
 refine cS ?_
 refine cP 0 hF ?_
 refine sP 1 [.int .i64 0] ?_
 refine sD [(0,.string s),(1,.string t)] ?_
 clear hF a; intro a hF
 refine tK ?_
 refine cS ?_
 refine cP 1 hF ?_
 refine sP 2 [.string s,.string t] ?_
 refine s1 3 (.int .i64 (Lib.compareBytes s.data.toList t.data.toList)) (.int .i64 (Extern.BytealgCompare.cmp s t)) (congrArg (Value.int .i64) (Lib.cmp_eq s t)) ?_
 refine sP 4 [.int .i64 (Lib.compareBytes s.data.toList t.data.toList)] ?_
 refine sD [(4,.int .i64 (Lib.compareBytes s.data.toList t.data.toList))] ?_
 clear hF a; intro a hF
 refine tK ?_
 refine cR ?_
 show retK Try.prog Try.f36 (fun v h' => v = .int .i64 (Lib.compareBytes s.data.toList t.data.toList) ∧ h' = h) .ret a h
 refine ret_ok [.tmp 4] [.int .i64 (Lib.compareBytes s.data.toList t.data.toList)] (.int .i64 (Lib.compareBytes s.data.toList t.data.toList)) rfl hF ⟨rfl,trivial⟩ rfl ?_
 exact ⟨rfl,rfl⟩
noncomputable def b32 : Code := Try.f32.body.getD .skip
theorem scompare_sat (h : Heap) (s t : ByteArray) : Sat Try.prog 32 #[.string s,.string t] h fun v h' => v = .int .i64 (Lib.compareBytes s.data.toList t.data.toList) ∧ h' = h := by
 refine sat_of (args := [.string s,.string t]) (fn := Try.f32) (B := b32) (n := 8) (L := [(0,.string s),(1,.string t)]) Try.func32 rfl (by kernel_rfl) rfl ?_
 intro a hF
 refine cS ?_
 refine cP 0 hF ?_
 refine sP 1 [.int .i64 0] ?_
 refine sD [(0,.string s),(1,.string t)] ?_
 clear hF a; intro a hF
 refine tK ?_
 refine cS ?_
 refine cP 1 hF ?_
 refine sP 2 [.string s,.string t] ?_
 refine sC 3 (.int .i64 (Lib.compareBytes s.data.toList t.data.toList)) (Does.call (f := 36) (args := #[.string s,.string t]) (by kernel_rfl) (cstring_sat _ s t)) ?_
 refine sP 4 [.int .i64 (Lib.compareBytes s.data.toList t.data.toList)] ?_
 refine sD [(4,.int .i64 (Lib.compareBytes s.data.toList t.data.toList))] ?_
 clear hF a; intro a hF
 refine tK ?_
 refine cR ?_
 show retK Try.prog Try.f32 (fun v h' => v = .int .i64 (Lib.compareBytes s.data.toList t.data.toList) ∧ h' = h) .ret a h
 refine ret_ok [.tmp 4] [.int .i64 (Lib.compareBytes s.data.toList t.data.toList)] (.int .i64 (Lib.compareBytes s.data.toList t.data.toList)) rfl hF ⟨rfl,trivial⟩ rfl ?_
 exact ⟨rfl,rfl⟩
noncomputable def b30 : Code := Try.f30.body.getD .skip
theorem or_sat (h : Heap) (b : Nat) (p q : Int) (m : h[b]? = some (.cells #[.int .i64 p,.int .i64 q] 3)) : Sat Try.prog 30 #[.slice (some ⟨b,0,none⟩) 2 2] h fun v h' => v = .int .i64 (if p = 0 then q else p) ∧ h' = h := by
 refine sat_of (args := [.slice (some ⟨b,0,none⟩) 2 2]) (fn := Try.f30) (B := b30) (n := 18) (L := [(0,.slice (some ⟨b,0,none⟩) 2 2)]) Try.func30 rfl (by kernel_rfl) rfl ?_
 intro a hF
 refine cS ?_
 refine cP 0 hF ?_
 refine sP 1 [.int .i64 0] ?_
 refine sD [(0,.slice (some ⟨b,0,none⟩) 2 2)] ?_
 clear hF a; intro a hF
 refine tK ?_
 refine cS ?_
 refine cP 1 hF ?_
 refine sP 1 [.int .i64 0] ?_
 refine sD [(0,.slice (some ⟨b,0,none⟩) 2 2),(3,.int .i64 0)] ?_
 clear hF a; intro a hF
 refine tK ?_
 refine cS ?_
 refine cS ?_
 refine cP 2 hF ?_
 refine sP 3 [.slice (some ⟨b,0,none⟩) 2 2,.int .i64 2,.int .i64 0] ?_
 refine sD [(3,.int .i64 0),(6,.slice (some ⟨b,0,none⟩) 2 2),(7,.int .i64 2),(8,.int .i64 0)] ?_
 clear hF a; intro a hF
 refine tK ?_
 refine cB 0 ?_
 refine C.unroll 3 [1,1,0,1,0,0] (by kernel_rfl) ?_
 refine Cround.step ?_
 refine cS ?_
 refine cP 3 hF ?_
 refine sP 1 [.bool true] ?_
 refine sD [(3,.int .i64 0),(6,.slice (some ⟨b,0,none⟩) 2 2),(7,.int .i64 2),(8,.int .i64 0),(9,.bool true)] ?_
 clear hF a; intro a hF
 refine tK ?_
 refine cS ?_
 refine cT 9 hF ?_
 refine cN ?_
 refine tK ?_
 refine cS ?_
 refine cB 1 ?_
 refine cS ?_
 refine cP 4 hF ?_
 refine sC 1 (.pointer (some ⟨b,0,none⟩)) ((Calm.indexB (b := b) (off := 0) (len := 2) (sz := 1) (k := (0 : Int)) 0 0 (by kernel_rfl) rfl (by omega) (by omega)) _) ?_
 refine sC 2 (.int .i64 p) (Calm.load (T := 3) (p := ⟨b,0,none⟩) (by kernel_rfl) (Loads.one (k := 1) (by kernel_rfl) ((hcell_blk m).trans rfl))) ?_
 refine sP 3 [.int .i64 p] ?_
 refine sD [(3,.int .i64 0),(5,.int .i64 p),(6,.slice (some ⟨b,0,none⟩) 2 2),(7,.int .i64 2),(8,.int .i64 0)] ?_
 clear hF a; intro a hF
 refine tK ?_
 refine cS ?_
 refine cP 5 hF ?_
 refine sP 3 [.int .i64 p,.int .i64 0,.bool (!decide (p = (0 : Int)))] ?_
 refine sD [(3,.int .i64 0),(5,.int .i64 p),(6,.slice (some ⟨b,0,none⟩) 2 2),(7,.int .i64 2),(8,.int .i64 0),(14,.bool (!decide (p = (0 : Int))))] ?_
 clear hF a; intro a hF
 refine tK ?_
 refine cC 14 (!decide (p = (0 : Int))) hF (fun hc1 => ?_) (fun hc1 => ?_)
 ·skip
  replace hc1 := not_decide_true hc1
  refine cS ?_
  refine cP 6 hF ?_
  refine sP 2 [.int .i64 p,.int .i64 p] ?_
  refine sD [(2,.int .i64 p)] ?_
  clear hF a; intro a hF
  refine tK ?_
  refine cR ?_
  show retK Try.prog Try.f30 (fun v h' => v = .int .i64 (if p = 0 then q else p) ∧ h' = h) .ret a h
  refine ret_ok [.tmp 2] [.int .i64 p] (.int .i64 p) rfl hF ⟨rfl,trivial⟩ rfl ?_
  exact ⟨congrArg (Value.int .i64) (by split <;> omega),rfl⟩
 ·skip
  replace hc1 := not_decide_false hc1
  refine cN ?_
  show C Try.prog (sub b30 [1,1,0,1,0,0,1,1,1]) _ a h
  refine cP 7 hF ?_
  refine sP 2 [.int .i64 1,.int .i64 1] ?_
  refine sD [(3,.int .i64 0),(6,.slice (some ⟨b,0,none⟩) 2 2),(7,.int .i64 2),(8,.int .i64 1)] ?_
  clear hF a; intro a hF
  show Crounds _ _ _ _ 2 a h
  refine Cround.step ?_
  refine cS ?_
  refine cP 3 hF ?_
  refine sP 1 [.bool true] ?_
  refine sD [(3,.int .i64 0),(6,.slice (some ⟨b,0,none⟩) 2 2),(7,.int .i64 2),(8,.int .i64 1),(9,.bool true)] ?_
  clear hF a; intro a hF
  refine tK ?_
  refine cS ?_
  refine cT 9 hF ?_
  refine cN ?_
  refine tK ?_
  refine cS ?_
  refine cB 1 ?_
  refine cS ?_
  refine cP 4 hF ?_
  refine sC 1 (.pointer (some ⟨b,1,none⟩)) ((Calm.indexB (b := b) (off := 0) (len := 2) (sz := 1) (k := (1 : Int)) 1 1 (by kernel_rfl) rfl (by omega) (by omega)) _) ?_
  refine sC 2 (.int .i64 q) (Calm.load (T := 3) (p := ⟨b,1,none⟩) (by kernel_rfl) (Loads.one (k := 1) (by kernel_rfl) ((hcell_blk m).trans rfl))) ?_
  refine sP 3 [.int .i64 q] ?_
  refine sD [(3,.int .i64 0),(5,.int .i64 q),(6,.slice (some ⟨b,0,none⟩) 2 2),(7,.int .i64 2),(8,.int .i64 1)] ?_
  clear hF a; intro a hF
  refine tK ?_
  refine cS ?_
  refine cP 5 hF ?_
  refine sP 3 [.int .i64 q,.int .i64 0,.bool (!decide (q = (0 : Int)))] ?_
  refine sD [(3,.int .i64 0),(5,.int .i64 q),(6,.slice (some ⟨b,0,none⟩) 2 2),(7,.int .i64 2),(8,.int .i64 1),(14,.bool (!decide (q = (0 : Int))))] ?_
  clear hF a; intro a hF
  refine tK ?_
  refine cC 14 (!decide (q = (0 : Int))) hF (fun hc2 => ?_) (fun hc2 => ?_)
  ·skip
   replace hc2 := not_decide_true hc2
   refine cS ?_
   refine cP 6 hF ?_
   refine sP 2 [.int .i64 q,.int .i64 q] ?_
   refine sD [(2,.int .i64 q)] ?_
   clear hF a; intro a hF
   refine tK ?_
   refine cR ?_
   show retK Try.prog Try.f30 (fun v h' => v = .int .i64 (if p = 0 then q else p) ∧ h' = h) .ret a h
   refine ret_ok [.tmp 2] [.int .i64 q] (.int .i64 q) rfl hF ⟨rfl,trivial⟩ rfl ?_
   exact ⟨congrArg (Value.int .i64) (by split <;> omega),rfl⟩
  ·skip
   replace hc2 := not_decide_false hc2
   refine cN ?_
   show C Try.prog (sub b30 [1,1,0,1,0,0,1,1,1]) _ a h
   refine cP 7 hF ?_
   refine sP 2 [.int .i64 2,.int .i64 2] ?_
   refine sD [(3,.int .i64 0),(6,.slice (some ⟨b,0,none⟩) 2 2),(7,.int .i64 2),(8,.int .i64 2)] ?_
   clear hF a; intro a hF
   show Crounds _ _ _ _ 1 a h
   refine Cround.step ?_
   refine cS ?_
   refine cP 3 hF ?_
   refine sP 1 [.bool false] ?_
   refine sD [(3,.int .i64 0),(6,.slice (some ⟨b,0,none⟩) 2 2),(7,.int .i64 2),(8,.int .i64 2),(9,.bool false)] ?_
   clear hF a; intro a hF
   refine tK ?_
   refine cS ?_
   refine cF 9 hF ?_
   refine cX 0 ?_
   show C Try.prog (sub b30 [1,1,1]) _ a h
   refine cS ?_
   refine cP 8 hF ?_
   refine sP 2 [.int .i64 0,.int .i64 0] ?_
   refine sD [(2,.int .i64 0)] ?_
   clear hF a; intro a hF
   refine tK ?_
   refine cR ?_
   show retK Try.prog Try.f30 (fun v h' => v = .int .i64 (if p = 0 then q else p) ∧ h' = h) .ret a h
   refine ret_ok [.tmp 2] [.int .i64 0] (.int .i64 0) rfl hF ⟨rfl,trivial⟩ rfl ?_
   exact ⟨congrArg (Value.int .i64) (by split <;> omega),rfl⟩
noncomputable def b29 : Code := Try.f29.body.getD .skip
theorem less_sat (h : Heap) (r s : Rec) : Sat Try.prog 29 #[.agg (rcs r).toArray,.agg (rcs s).toArray] h fun v h' => v = .int .i64 (cbR r s) ∧ Ext h h' := by
 have e0 := Ext.refl h
 refine sat_of (args := [.agg (rcs r).toArray,.agg (rcs s).toArray]) (fn := Try.f29) (B := b29) (n := 17) (L := [(0,.agg (rcs r).toArray),(1,.agg (rcs s).toArray)]) Try.func29 rfl (by kernel_rfl) rfl ?_
 intro a hF
 refine cS ?_
 refine cP 0 hF ?_
 refine SeqK.eff (k' := 1) (Does.new (v := .pointer (some ⟨h.size,0,none⟩)) (o := .cells (rcs r).toArray 26) (by kernel_rfl)) rfl ?_
 rintro _ h1 ⟨rfl,hh⟩
 have g2 : Ext h h1 := push_ext hh
 have m3 : h1[h.size]? = some (.cells (rcs r).toArray 26) := push_at hh
 clear hh
 have lt4 := blk_lt m3
 have zs5 := e0.size
 replace e0 := e0.ext g2
 refine SeqK.eff (k' := 2) (Does.new (v := .pointer (some ⟨h1.size,0,none⟩)) (o := .cells (rcs s).toArray 26) (by kernel_rfl)) rfl ?_
 rintro _ h6 ⟨rfl,hh⟩
 have g7 : Ext h1 h6 := push_ext hh
 have m8 : h6[h1.size]? = some (.cells (rcs s).toArray 26) := push_at hh
 clear hh
 have lt9 := blk_lt m8
 have zs10 := e0.size
 replace e0 := e0.ext g7
 replace m3 := Ext.blk g7 m3
 refine sP 3 [.int .i64 0] ?_
 refine sD [(2,pV h.size),(3,pV h1.size)] ?_
 clear hF a; intro a hF
 refine tK ?_
 refine cS ?_
 refine cD [0,1,0,4,15,0,32,0,128,511,1023,2047,4095] 1 mixed hF ?_
 refine mP 1 [0] [.pointer (some ⟨h.size,35,none⟩)] ?_
 refine mL 3 2 1 (.int .i64 r.e) (Calm.load (T := 3) (p := ⟨h.size,35,none⟩) (by kernel_rfl) (Loads.one (k := 1) (by kernel_rfl) ((hcell_blk m3).trans (rfl)))) ?_
 refine mP 7 [2] [.pointer (some ⟨h1.size,35,none⟩)] ?_
 refine mL 15 10 3 (.int .i64 s.e) (Calm.load (T := 3) (p := ⟨h1.size,35,none⟩) (by kernel_rfl) (Loads.one (k := 1) (by kernel_rfl) ((hcell_blk m8).trans (rfl)))) ?_
 refine mL 31 26 4 (.int .i64 (cmpI r.e s.e)) (Does.call (f := 31) (args := #[.int .i64 r.e,.int .i64 s.e]) (by kernel_rfl) (compare_sat _ r.e s.e)) ?_
 refine mP 63 [5] [pV h.size] ?_
 refine mL 127 90 6 (.string r.b.id) (Calm.load (T := 9) (p := ⟨h.size,0,none⟩) (by kernel_rfl) (Loads.one (k := 1) (by kernel_rfl) ((hcell_blk m3).trans (rfl)))) ?_
 refine mP 255 [7] [pV h1.size] ?_
 refine mL 511 346 8 (.string s.b.id) (Calm.load (T := 9) (p := ⟨h1.size,0,none⟩) (by kernel_rfl) (Loads.one (k := 1) (by kernel_rfl) ((hcell_blk m8).trans (rfl)))) ?_
 refine mL 1023 858 9 (.int .i64 (Lib.compareBytes r.b.id.data.toList s.b.id.data.toList)) (Does.call (f := 32) (args := #[.string r.b.id,.string s.b.id]) (by kernel_rfl) (scompare_sat _ r.b.id s.b.id)) ?_
 refine SimK.eff0 (i := 10) (D' := 2047) (X' := 2047) (by kernel_rfl) (by kernel_rfl) (by kernel_rfl) (by kernel_rfl) (Does.new (v := .slice (some ⟨h6.size,0,none⟩) 2 2) (o := .cells #[.int .i64 (cmpI r.e s.e),.int .i64 (Lib.compareBytes r.b.id.data.toList s.b.id.data.toList)] 3) (by kernel_rfl)) ?_
 rintro _ h11 ⟨rfl,hh⟩
 have g12 : Ext h6 h11 := push_ext hh
 have m13 : h11[h6.size]? = some (.cells #[.int .i64 (cmpI r.e s.e),.int .i64 (Lib.compareBytes r.b.id.data.toList s.b.id.data.toList)] 3) := push_at hh
 clear hh
 have lt14 := blk_lt m13
 have zs15 := e0.size
 replace e0 := e0.ext g12
 replace m3 := Ext.blk g12 m3
 replace m8 := Ext.blk g12 m8
 refine mL 4095 2906 11 (.int .i64 (if (cmpI r.e s.e) = 0 then (Lib.compareBytes r.b.id.data.toList s.b.id.data.toList) else (cmpI r.e s.e))) (Does.call (f := 30) (args := #[.slice (some ⟨h6.size,0,none⟩) 2 2]) (by kernel_rfl) (or_sat _ _ (cmpI r.e s.e) (Lib.compareBytes r.b.id.data.toList s.b.id.data.toList) m13)) ?_
 refine mP 8191 [12] [.int .i64 (if (cmpI r.e s.e) = 0 then (Lib.compareBytes r.b.id.data.toList s.b.id.data.toList) else (cmpI r.e s.e))] ?_
 refine mD [(4,.int .i64 (if (cmpI r.e s.e) = 0 then (Lib.compareBytes r.b.id.data.toList s.b.id.data.toList) else (cmpI r.e s.e)))] ?_
 clear hF a; intro a hF
 refine tK ?_
 refine cR ?_
 show retK Try.prog Try.f29 (fun v h' => v = .int .i64 (cbR r s) ∧ Ext h h') .ret a h11
 refine ret_ok [.tmp 4] [.int .i64 (if (cmpI r.e s.e) = 0 then (Lib.compareBytes r.b.id.data.toList s.b.id.data.toList) else (cmpI r.e s.e))] (.int .i64 (if (cmpI r.e s.e) = 0 then (Lib.compareBytes r.b.id.data.toList s.b.id.data.toList) else (cmpI r.e s.e))) rfl hF ⟨rfl,trivial⟩ rfl ?_
 exact ⟨rfl,e0⟩
noncomputable def b37 : Code := Try.f37.body.getD .skip
set_option maxHeartbeats 1000000 in
theorem ins_sat (h : Heap) (ad : Option Addr) (cap n la lb : Nat) (L : List Rec) (own_d : Own h (.slice ad n cap) 26 n 39 (rrow L)) (hLn : L.length = n) (hb : lb ≤ n) (ha : la ≤ n) (hn : n ≤ 1099511627776) : Sat Try.prog 37 #[.slice ad n cap,.int .i64 ((la : Nat) : Int),.int .i64 ((lb : Nat) : Int),.func (.func 29) #[] #[]] h fun _ h' => ∃ M,M.length = n ∧ M.Perm L ∧ (∀ p,p < la ∨ lb ≤ p → M.getD p rec0 = L.getD p rec0) ∧ SrtOn M la lb ∧ Own h' (.slice ad n cap) 26 n 39 (rrow M) ∧ Grew (ad.map (fun (x : Addr) => x.block)) h h' := by
 have g0 := Grew.refl (ad.map (fun (x : Addr) => x.block)) h
 refine sat_of (args := [.slice ad n cap,.int .i64 ((la : Nat) : Int),.int .i64 ((lb : Nat) : Int),.func (.func 29) #[] #[]]) (fn := Try.f37) (B := b37) (n := 53) (L := [(0,.slice ad n cap),(1,.int .i64 ((la : Nat) : Int)),(2,.int .i64 ((lb : Nat) : Int)),(3,.func (.func 29) #[] #[])]) Try.func37 rfl (by kernel_rfl) rfl ?_
 intro a hF
 refine cS ?_
 refine cP 0 hF ?_
 refine sP 1 [nV la] ?_
 refine s1 2 (.int .i64 ((la + 1 : Nat) : Int)) (.int .i64 (IntKind.i64.wrap (((la : Nat) : Int) + 1))) (congrArg (Value.int .i64) (w64' (by omega) (by omega) (by omega))) ?_
 refine sP 3 [nV (la + 1)] ?_
 refine sD [(0,.slice ad n cap),(1,nV la),(2,nV lb),(3,.func (.func 29) #[] #[]),(8,nV (la + 1))] ?_
 clear hF a; intro a hF
 refine tK ?_
 refine cB 0 ?_
 refine C.loop (fun m a h' => ∃ i : Nat,∃ M : List Rec,m = lb - i ∧ (Grew (ad.map (fun (x : Addr) => x.block)) h h') ∧ (la < i ∧ (i ≤ lb ∨ i = la + 1)) ∧ (M.length = n) ∧ (M.Perm L) ∧ (∀ p,p < la ∨ lb ≤ p → M.getD p rec0 = L.getD p rec0) ∧ (SrtOn M la i) ∧ (Own h' (.slice ad n cap) 26 n 39 (rrow M)) ∧ (Fr a 53 [(0,.slice ad n cap),(1,.int .i64 ((la : Nat) : Int)),(2,.int .i64 ((lb : Nat) : Int)),(3,.func (.func 29) #[] #[]),(8,.int .i64 ((i : Nat) : Int))])) (lb - (la + 1)) [1,0,0] (by kernel_rfl) ⟨(la + 1),L,rfl,g0,(by omega),hLn,(List.Perm.refl _),(fun _ _ => rfl),(SrtOn.one L la),own_d,hF⟩ ?_
 clear hF a
 clear g0
 clear hLn
 clear own_d
 rintro m a h1 ⟨i,M,rfl,g0,hi,hM,hP,hout,hs,own_d,hF⟩
 refine cS ?_
 refine cS ?_
 refine cP 1 hF ?_
 refine sP 3 [nV i,nV lb,.bool (decide (((i : Nat) : Int) < ((lb : Nat) : Int)))] ?_
 refine sD [(0,.slice ad n cap),(1,nV la),(2,nV lb),(3,.func (.func 29) #[] #[]),(8,nV i),(14,.bool (decide (((i : Nat) : Int) < ((lb : Nat) : Int))))] ?_
 clear hF a; intro a hF
 refine tK ?_
 refine cC 14 (decide (((i : Nat) : Int) < ((lb : Nat) : Int))) hF (fun hc2 => ?_) (fun hc2 => ?_)
 ·skip
  replace hc2 := of_decide_eq_true hc2
  refine cN ?_
  refine tK ?_
  refine cS ?_
  refine cB 1 ?_
  refine cS ?_
  refine cP 3 hF ?_
  refine sP 2 [nV i,nV i] ?_
  refine sD [(0,.slice ad n cap),(1,nV la),(2,nV lb),(3,.func (.func 29) #[] #[]),(8,nV i),(9,nV i)] ?_
  clear hF a; intro a hF
  refine tK ?_
  refine cB 2 ?_
  have hib : i < lb := by omega
  refine C.loop (fun m a h' => ∃ j : Nat,∃ M : List Rec,m = j + 1 ∧ (Grew (ad.map (fun (x : Addr) => x.block)) h h') ∧ (la ≤ j ∧ j ≤ i) ∧ (M.length = n) ∧ (M.Perm L) ∧ (∀ p,p < la ∨ lb ≤ p → M.getD p rec0 = L.getD p rec0) ∧ (InsI M la i j) ∧ (Own h' (.slice ad n cap) 26 n 39 (rrow M)) ∧ (Fr a 53 [(0,.slice ad n cap),(1,.int .i64 ((la : Nat) : Int)),(2,.int .i64 ((lb : Nat) : Int)),(3,.func (.func 29) #[] #[]),(8,.int .i64 ((i : Nat) : Int)),(9,.int .i64 ((j : Nat) : Int))])) (i + 1) [1,0,0,1,0,0,1,0,0] (by kernel_rfl) ⟨i,M,rfl,g0,(by omega),hM,hP,hout,hs.ins,own_d,hF⟩ ?_
  clear hF a
  clear g0
  clear hM
  clear hP
  clear hout
  clear own_d
  rintro m a h3 ⟨j,M,rfl,g0,hj,hM,hP,hout,hins,own_d,hF⟩
  refine cS ?_
  refine cS ?_
  rcases Nat.lt_or_ge la j with haj | haj
  ·skip
   obtain ⟨aa,rfl,hcap_aa⟩ := own_d.someA (by omega)
   refine cD [0,0,3,7,15,15,15,111,239,15,15,1039,3599,7695,16383,32767,65535] 4 mixed hF ?_
   refine mP 3 [0,1] [nV j,nV la] ?_
   refine m1 7 2 (.bool true) (.bool (decide (((la : Nat) : Int) < ((j : Nat) : Int)))) (congrArg Value.bool (decide_eq_true (by omega))) ?_
   refine mP 127 [3,4,5,6] [.bool true,.func (.func 29) #[] #[],.slice (some aa) n cap,nV j] ?_
   refine mF 255 7 (.pointer (some (Addr.add aa (j * 39)))) (Calm.indexA (a := aa) (len := n) (sz := 39) (k := ((j : Nat) : Int)) j (j * 39) (by kernel_rfl) rfl (by omega) (by omega)) ?_
   refine mL 511 256 8 (.agg (rcs (M.getD j rec0)).toArray) (Calm.load (T := 26) (p := (Addr.add aa (j * 39))) (by kernel_rfl) (Row.fm (d := rec0) (i := j) rcs_len (own_d.row) (by kernel_rfl) (by omega) (by omega))) ?_
   refine mP 2047 [9,10] [.slice (some aa) n cap,nV j] ?_
   refine m1 4095 11 (.int .i64 ((j - 1 : Nat) : Int)) (.int .i64 (IntKind.i64.wrap (((j : Nat) : Int) - 1))) (congrArg (Value.int .i64) (w64' (by omega) (by omega) (by omega))) ?_
   refine mF 8191 12 (.pointer (some (Addr.add aa ((j - 1) * 39)))) (Calm.indexA (a := aa) (len := n) (sz := 39) (k := ((j - 1 : Nat) : Int)) (j - 1) ((j - 1) * 39) (by kernel_rfl) rfl (by omega) (by omega)) ?_
   refine mL 16383 8448 13 (.agg (rcs (M.getD (j - 1) rec0)).toArray) (Calm.load (T := 26) (p := (Addr.add aa ((j - 1) * 39))) (by kernel_rfl) (Row.fm (d := rec0) (i := (j - 1)) rcs_len (own_d.row) (by kernel_rfl) (by omega) (by omega))) ?_
   refine SimK.eff0 (i := 14) (D' := 32767) (X' := 32767) (by kernel_rfl) (by kernel_rfl) (by kernel_rfl) (by kernel_rfl) (Does.call (f := 29) (args := #[.agg (rcs (M.getD j rec0)).toArray,.agg (rcs (M.getD (j - 1) rec0)).toArray]) (by kernel_rfl) (less_sat _ (M.getD j rec0) (M.getD (j - 1) rec0))) ?_
   rintro _ h4 ⟨rfl,g⟩
   replace g0 := g0.trans (g.but _)
   replace own_d := own_d.ext g
   clear g
   refine mP 131071 [15,16] [.bool (decide ((cbR (M.getD j rec0) (M.getD (j - 1) rec0)) < (0 : Int))),.bool (decide ((cbR (M.getD j rec0) (M.getD (j - 1) rec0)) < (0 : Int)))] ?_
   refine mD [(0,.slice (some aa) n cap),(1,nV la),(2,nV lb),(3,.func (.func 29) #[] #[]),(8,nV i),(9,nV j),(34,.bool (decide ((cbR (M.getD j rec0) (M.getD (j - 1) rec0)) < (0 : Int))))] ?_
   clear hF a; intro a hF
   refine tK ?_
   refine cC 34 (decide ((cbR (M.getD j rec0) (M.getD (j - 1) rec0)) < (0 : Int))) hF (fun hc5 => ?_) (fun hc5 => ?_)
   ·skip
    replace hc5 := of_decide_eq_true hc5
    refine cN ?_
    refine tK ?_
    refine cS ?_
    refine cB 3 ?_
    refine cD [0,0,0,0,8,0,0,64,224,480,0,0,3072,7168,16355,32739,65535,131071] 6 mixed hF ?_
    refine mP 15 [0,1,2,3] [.slice (some aa) n cap,nV j,.slice (some aa) n cap,nV j] ?_
    refine m1 31 4 (.int .i64 ((j - 1 : Nat) : Int)) (.int .i64 (IntKind.i64.wrap (((j : Nat) : Int) - 1))) (congrArg (Value.int .i64) (w64' (by omega) (by omega) (by omega))) ?_
    refine mP 127 [5,6] [.slice (some aa) n cap,nV j] ?_
    refine m1 255 7 (.int .i64 ((j - 1 : Nat) : Int)) (.int .i64 (IntKind.i64.wrap (((j : Nat) : Int) - 1))) (congrArg (Value.int .i64) (w64' (by omega) (by omega) (by omega))) ?_
    refine mF 511 8 (.pointer (some (Addr.add aa ((j - 1) * 39)))) (Calm.indexA (a := aa) (len := n) (sz := 39) (k := ((j - 1 : Nat) : Int)) (j - 1) ((j - 1) * 39) (by kernel_rfl) rfl (by omega) (by omega)) ?_
    refine mL 1023 512 9 (.agg (rcs (M.getD (j - 1) rec0)).toArray) (Calm.load (T := 26) (p := (Addr.add aa ((j - 1) * 39))) (by kernel_rfl) (Row.fm (d := rec0) (i := (j - 1)) rcs_len (own_d.row) (by kernel_rfl) (by omega) (by omega))) ?_
    refine mP 4095 [10,11] [.slice (some aa) n cap,nV j] ?_
    refine mF 8191 12 (.pointer (some (Addr.add aa (j * 39)))) (Calm.indexA (a := aa) (len := n) (sz := 39) (k := ((j : Nat) : Int)) j (j * 39) (by kernel_rfl) rfl (by omega) (by omega)) ?_
    refine mL 16383 8704 13 (.agg (rcs (M.getD j rec0)).toArray) (Calm.load (T := 26) (p := (Addr.add aa (j * 39))) (by kernel_rfl) (Row.fm (d := rec0) (i := j) rcs_len (own_d.row) (by kernel_rfl) (by omega) (by omega))) ?_
    refine mF 32767 14 (.pointer (some (Addr.add aa (j * 39)))) (Calm.indexA (a := aa) (len := n) (sz := 39) (k := ((j : Nat) : Int)) j (j * 39) (by kernel_rfl) rfl (by omega) (by omega)) ?_
    refine SimK.eff0 (i := 15) (D' := 65535) (X' := 65507) (by kernel_rfl) (by kernel_rfl) (by kernel_rfl) (by kernel_rfl) (Does.storeOwn (a := aa) (q := j * 39) (vs := rcs (M.getD (j - 1) rec0)) (by kernel_rfl) own_d (by show _ + 39 ≤ _; omega) (rcs_one _)) ?_
    rintro _ h6 ⟨rfl,ownx,g⟩
    replace g0 := g0.trans g
    rw [fm_set rcs_len (by first | omega | (rw [List.length_set]; omega))] at ownx
    clear own_d; have own_d := ownx; clear ownx g
    refine mF 131071 16 (.pointer (some (Addr.add aa ((j - 1) * 39)))) (Calm.indexA (a := aa) (len := n) (sz := 39) (k := ((j - 1 : Nat) : Int)) (j - 1) ((j - 1) * 39) (by kernel_rfl) rfl (by omega) (by omega)) ?_
    refine SimK.eff0 (i := 17) (D' := 262143) (X' := 262143) (by kernel_rfl) (by kernel_rfl) (by kernel_rfl) (by kernel_rfl) (Does.storeOwn (a := aa) (q := (j - 1) * 39) (vs := rcs (M.getD j rec0)) (by kernel_rfl) own_d (by show _ + 39 ≤ _; omega) (rcs_one _)) ?_
    rintro _ h7 ⟨rfl,ownx,g⟩
    replace g0 := g0.trans g
    rw [fm_set rcs_len (by first | omega | (rw [List.length_set]; omega))] at ownx
    clear own_d; have own_d := ownx; clear ownx g
    refine mD [(0,.slice (some aa) n cap),(1,nV la),(2,nV lb),(3,.func (.func 29) #[] #[]),(8,nV i),(9,nV j)] ?_
    clear hF a; intro a hF
    show C Try.prog (sub b37 [1,0,0,1,0,0,1,0,0,1,1]) _ a h7
    refine cP 5 hF ?_
    refine sP 1 [nV j] ?_
    refine s1 2 (.int .i64 ((j - 1 : Nat) : Int)) (.int .i64 (IntKind.i64.wrap (((j : Nat) : Int) - 1))) (congrArg (Value.int .i64) (w64' (by omega) (by omega) (by omega))) ?_
    refine sP 3 [nV (j - 1)] ?_
    refine sD [(0,.slice (some aa) n cap),(1,nV la),(2,nV lb),(3,.func (.func 29) #[] #[]),(8,nV i),(9,nV (j - 1))] ?_
    clear hF a; intro a hF
    show ∃ m',m' < _ ∧ _
    refine ⟨_,?_,(j - 1),(swp M j),rfl,g0,(by omega),((swp_length M j).trans hM),((swp_perm (by omega) (by omega)).trans hP),(fun p hp => by rw [swp_get (by omega) (by omega),if_neg (by omega),if_neg (by omega)]; exact hout p hp),(hins.step (by omega) (by omega) (by omega) (by omega)),own_d,hF⟩
    omega
   ·skip
    replace hc5 := of_decide_eq_false hc5
    have hs := hins.done (by omega) (by omega) (.inr (by omega))
    clear hins
    refine cX 2 ?_
    show C Try.prog (sub b37 [1,0,0,1,1]) _ a h4
    refine cP 2 hF ?_
    refine sP 1 [nV i] ?_
    refine s1 2 (.int .i64 ((i + 1 : Nat) : Int)) (.int .i64 (IntKind.i64.wrap (((i : Nat) : Int) + 1))) (congrArg (Value.int .i64) (w64' (by omega) (by omega) (by omega))) ?_
    refine sP 3 [nV (i + 1)] ?_
    refine sD [(0,.slice (some aa) n cap),(1,nV la),(2,nV lb),(3,.func (.func 29) #[] #[]),(8,nV (i + 1))] ?_
    clear hF a; intro a hF
    show ∃ m',m' < _ ∧ _
    refine ⟨_,?_,(i + 1),M,rfl,g0,(by omega),hM,hP,hout,hs,own_d,hF⟩
    omega
  ·skip
   have hs := hins.done (by omega) (by omega) (.inl (by omega))
   clear hins
   refine cD [0,0,3,7,15,15,15,111,239,15,15,1039,3599,7695,16383,32767,65535] 4 mixed hF ?_
   refine mP 3 [0,1] [nV j,nV la] ?_
   refine m1 7 2 (.bool false) (.bool (decide (((la : Nat) : Int) < ((j : Nat) : Int)))) (congrArg Value.bool (decide_eq_false (by omega))) ?_
   refine mP 131071 [3,4,5,6,7,8,9,10,11,12,13,14,15,16] [.bool false,undef,undef,undef,undef,undef,undef,undef,undef,undef,undef,undef,undef,.bool false] ?_
   refine mD [(0,.slice ad n cap),(1,nV la),(2,nV lb),(3,.func (.func 29) #[] #[]),(8,nV i),(9,nV j),(34,.bool false)] ?_
   clear hF a; intro a hF
   refine tK ?_
   refine cF 34 hF ?_
   refine cX 2 ?_
   show C Try.prog (sub b37 [1,0,0,1,1]) _ a h3
   refine cP 2 hF ?_
   refine sP 1 [nV i] ?_
   refine s1 2 (.int .i64 ((i + 1 : Nat) : Int)) (.int .i64 (IntKind.i64.wrap (((i : Nat) : Int) + 1))) (congrArg (Value.int .i64) (w64' (by omega) (by omega) (by omega))) ?_
   refine sP 3 [nV (i + 1)] ?_
   refine sD [(0,.slice ad n cap),(1,nV la),(2,nV lb),(3,.func (.func 29) #[] #[]),(8,nV (i + 1))] ?_
   clear hF a; intro a hF
   show ∃ m',m' < _ ∧ _
   refine ⟨_,?_,(i + 1),M,rfl,g0,(by omega),hM,hP,hout,hs,own_d,hF⟩
   omega
 ·skip
  replace hc2 := of_decide_eq_false hc2
  refine cX 0 ?_
  show retK Try.prog Try.f37 (fun _ h' => ∃ M,M.length = n ∧ M.Perm L ∧ (∀ p,p < la ∨ lb ≤ p → M.getD p rec0 = L.getD p rec0) ∧ SrtOn M la lb ∧ Own h' (.slice ad n cap) 26 n 39 (rrow M) ∧ Grew (ad.map (fun (x : Addr) => x.block)) h h') .normal a h1
  refine ret_okN [] [] (.tuple #[]) rfl hF trivial rfl ?_
  exact ⟨M,hM,hP,hout,fun p q h1 h2 h3 => hs p q h1 h2 (by omega),own_d,g0⟩
end Go.Proofs.Ytlghdimpgfhmcaa
