/- Walks of the laws of the trees: what each function computes, as a law of its calls. No condition but those that each theorem names. -/
import Derived.Test.YtfompolnofgldaaDoorLaw05B
namespace Go.Proofs.YtfompolnofgldaaDoor
open Go Go.Lane Go.Sha
theorem size_n (h : Heap) (b : Nat) (o : Option Nat) (L : List Hs) (g : GrowL h b o L) (n : Nat) (hn : L.length = n) : Sat Tryd.prog 22 #[.pointer (some ⟨b,0,none⟩)] h fun v h' => v = .int .i64 ((n : Nat) : Int) ∧ h' = h := by
 subst hn; exact size_l h b o L g
theorem hsame_eq (h : Heap) (A : List Hs) (va vb : Option Addr) (vc vd n : Nat) (hA : HR h va vc n A) (hB : HR h vb vd n A) (hn : n ≤ 1099511627776) : Sat Tryd.prog 20 #[.slice va n vc,.slice vb n vd] h fun v h' => v = .bool true ∧ h' = h :=
 (hsame_sat h A A va vb vc vd n n hA hB hn).mono fun _ _ e => ⟨by rw [e.1]; simp,e.2⟩
end Go.Proofs.YtfompolnofgldaaDoor
