/- slices.Clone over places: what it comes to. Conditions: those that each theorem names. -/
import Derived.Test.YtlghdimpgfhmcaaRetMath
namespace Go.Proofs.Ytlghdimpgfhmcaa
open Go Go.Lane Go.Sha
noncomputable def b33 : Code := Try.f33.body.getD .skip
theorem clone_no (h : Heap) : Sat Try.prog 33 #[.slice none 0 0] h fun v h' => PNew h h' 49 v [] := by
 refine sat_of (args := [.slice none 0 0]) (fn := Try.f33) (B := b33) (n := 8) (L := [(0,.slice none 0 0)]) Try.func33 rfl (by kernel_rfl) rfl ?_
 intro a hF
 refine cS ?_
 refine cP 0 hF ?_
 refine sP 1 [.slice none 0 0] ?_
 refine sD [(0,.slice none 0 0)] ?_
 clear hF a; intro a hF
 refine tK ?_
 refine cS ?_
 refine cS ?_
 refine cP 1 hF ?_
 refine sP 2 [.slice none 0 0,.bool true] ?_
 refine sD [(0,.slice none 0 0),(4,.bool true)] ?_
 clear hF a; intro a hF
 refine tK ?_
 refine cT 4 hF ?_
 refine cS ?_
 refine cP 2 hF ?_
 refine sP 1 [.slice none 0 0] ?_
 refine sD [(2,.slice none 0 0)] ?_
 clear hF a; intro a hF
 refine tK ?_
 refine cR ?_
 show retK Try.prog Try.f33 (fun v h' => PNew h h' 49 v []) .ret a h
 refine ret_ok [.tmp 2] [.slice none 0 0] (.slice none 0 0) rfl hF ⟨rfl,trivial⟩ rfl ?_
 exact ⟨none,0,rfl,Own.nil _ _ _,(fun k e => by cases e),Ext.refl h⟩
theorem clone_yes (h : Heap) (L : List Pl) (aa : Addr) (vc : Nat) (hr : Row h (.slice (some aa) L.length vc) L.length 4 (prow L)) (hL : L.length ≤ 1099511627776) : Sat Try.prog 33 #[.slice (some aa) L.length vc] h fun v h' => PNew h h' 49 v L := by
 have e0 := Ext.refl h
 have sep : Sep h.size h.size [] := Sep.nil _ _
 refine sat_of (args := [.slice (some aa) L.length vc]) (fn := Try.f33) (B := b33) (n := 8) (L := [(0,.slice (some aa) L.length vc)]) Try.func33 rfl (by kernel_rfl) rfl ?_
 intro a hF
 refine cS ?_
 refine cP 0 hF ?_
 refine sP 1 [.slice none 0 0] ?_
 refine sD [(0,.slice (some aa) L.length vc)] ?_
 clear hF a; intro a hF
 refine tK ?_
 refine cS ?_
 refine cS ?_
 refine cP 1 hF ?_
 refine sP 2 [.slice (some aa) L.length vc,.bool false] ?_
 refine sD [(0,.slice (some aa) L.length vc),(4,.bool false)] ?_
 clear hF a; intro a hF
 refine tK ?_
 refine cF 4 hF ?_
 refine cN ?_
 refine tK ?_
 refine cS ?_
 refine cP 3 hF ?_
 refine SeqK.eff (k' := 1) (Does.new (v := .slice (some ⟨h.size,0,none⟩) 0 0) (o := .cells #[] 49) (by kernel_rfl)) rfl ?_
 rintro _ h1 ⟨rfl,hh⟩
 have g2 : Ext h h1 := push_ext hh
 have m3 : h1[h.size]? = some (.cells #[] 49) := push_at hh
 clear hh
 have lt4 := blk_lt m3
 have zs5 := e0.size
 have hlo := e0.size
 have sepo := sep
 replace e0 := e0.ext g2
 replace hr := hr.ext g2
 replace sep := sep.up g2.size
 replace sep := sepo.new hlo (blk_lt m3)
 clear sepo hlo
 have own_v : Own h1 (.slice (some ⟨h.size,0,none⟩) 0 0) 49 ([] : List Pl).length 4 (prow []) := Own.empty 4 m3
 replace sep : Sep h.size h1.size [(some ⟨h.size,0,none⟩ : Option Addr).map (·.block)] := sep
 clear m3 lt4 zs5
 refine sP 2 [.slice (some aa) L.length vc] ?_
 refine SeqK.eff (k' := 3) (Does.append2 (t := 24) (E := 49) (sz := 4) (by_ := 32) (n := 0) (m := L.length) (v := .slice (some ⟨h.size,0,none⟩) 0 0) (x := .slice (some aa) L.length vc) (xs := (prow ([]))) (ys := (prow L)) (by kernel_rfl) (by kernel_rfl) own_v hr (prow_one _) (by unfold maxLen; simp; omega) (by simp; omega)) rfl ?_
 rintro _ h8 ⟨ad6,cap7,rfl,ownx,g,hb⟩
 rw [blkOf_slice] at g hb
 have hlo := e0.size
 have sepo := sep
 replace e0 := e0.grew g (sep.low 0 rfl)
 clear hr
 replace sep := sep.up g.size
 replace sep : Sep h.size h8.size [ad6.map (·.block)] := sepo.set g.size hlo 0 (y := ad6.map (fun (x : Addr) => x.block)) rfl (hb.imp id fun e => .inr ⟨_,e,Nat.le_refl _⟩) (fun k e => ownx.lt (by rw [blkOf_slice]; exact e))
 replace own_v : Own h8 (.slice ad6 L.length cap7) 49 L.length 4 (prow L) := Own.appG ownx (by first | rfl | exact List.flatMap_append.symm | simp [prow]) (by first | rfl | (simp; done) | (simp; omega))
 clear ownx g hb hlo sepo
 refine sP 4 [.slice ad6 (0 + L.length) cap7] ?_
 refine sD [(2,.slice ad6 (0 + L.length) cap7)] ?_
 clear hF a; intro a hF
 have hcan : (0 + L.length : Nat) = L.length := by first | (simp; done) | (simp; omega)
 rw [hcan] at hF; clear hcan
 refine tK ?_
 refine cR ?_
 show retK Try.prog Try.f33 (fun v h' => PNew h h' 49 v L) .ret a h8
 refine ret_ok [.tmp 2] [.slice ad6 L.length cap7] (.slice ad6 L.length cap7) rfl hF ⟨rfl,trivial⟩ rfl ?_
 exact ⟨_,_,rfl,own_v,sep.low 0 rfl,e0⟩
theorem clone_sat (h : Heap) (L : List Pl) (va : Option Addr) (vc : Nat) (hr : Row h (.slice va L.length vc) L.length 4 (prow L)) (hL : L.length ≤ 1099511627776) : Sat Try.prog 33 #[.slice va L.length vc] h fun v h' => PNew h h' 49 v L := by
 cases va with
 | none =>
  rcases hr.2 with ⟨e,e1⟩ | ⟨a,cap,e,_⟩
  ·simp only [Value.slice.injEq,true_and] at e
   obtain rfl : L = [] := List.eq_nil_of_length_eq_zero e1
   obtain rfl : vc = 0 := e.2
   exact clone_no h
  ·cases e
 | some aa => exact clone_yes h L aa vc hr hL
end Go.Proofs.Ytlghdimpgfhmcaa
