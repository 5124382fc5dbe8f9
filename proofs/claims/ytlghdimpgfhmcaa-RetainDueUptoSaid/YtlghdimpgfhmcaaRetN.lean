/- the stable sort: what it comes to. Conditions: those that each theorem names. -/
import Derived.Test.YtlghdimpgfhmcaaRetM
namespace Go.Proofs.Ytlghdimpgfhmcaa
open Go Go.Lane Go.Sha
noncomputable def b34' : Code := Try.f34.body.getD .skip
set_option maxHeartbeats 2000000 in
theorem stable_sat (h : Heap) (ad : Option Addr) (cap n : Nat) (L : List Rec) (own_d : Own h (.slice ad n cap) 26 n 39 (rrow L)) (hLn : L.length = n) (hn : n ≤ 1099511627776) : Sat Try.prog 34 #[.slice ad n cap,.int .i64 ((n : Nat) : Int),.func (.func 29) #[] #[]] h fun _ h' => ∃ M,M.length = n ∧ M.Perm L ∧ SrtOn M 0 n ∧ Own h' (.slice ad n cap) 26 n 39 (rrow M) ∧ Grew (ad.map (fun (x : Addr) => x.block)) h h' := by
 have g0 := Grew.refl (ad.map (fun (x : Addr) => x.block)) h
 refine sat_of (args := [.slice ad n cap,.int .i64 ((n : Nat) : Int),.func (.func 29) #[] #[]]) (fn := Try.f34) (B := b34') (n := 63) (L := [(0,.slice ad n cap),(1,.int .i64 ((n : Nat) : Int)),(2,.func (.func 29) #[] #[])]) Try.func34 rfl (by kernel_rfl) rfl ?_
 intro a hF
 refine cS ?_
 refine cP 0 hF ?_
 refine sP 1 [.int .i64 20] ?_
 refine sD [(0,.slice ad n cap),(1,nV n),(2,.func (.func 29) #[] #[]),(6,.int .i64 20)] ?_
 clear hF a; intro a hF
 refine tK ?_
 refine cS ?_
 refine cP 1 hF ?_
 refine sP 3 [.int .i64 20,.int .i64 0,.int .i64 20] ?_
 refine sD [(0,.slice ad n cap),(1,nV n),(2,.func (.func 29) #[] #[]),(6,.int .i64 20),(7,.int .i64 0),(8,.int .i64 20)] ?_
 clear hF a; intro a hF
 refine tK ?_
 refine cS ?_
 refine cB 0 ?_
 refine C.loop (fun m a h' => ∃ a1 : Nat,∃ M : List Rec,m = n - a1 ∧ (Grew (ad.map (fun (x : Addr) => x.block)) h h') ∧ (∃ t,a1 = t * 20) ∧ (a1 ≤ n) ∧ (M.length = n) ∧ (M.Perm L) ∧ (Blk M 20 0 a1) ∧ (Own h' (.slice ad n cap) 26 n 39 (rrow M)) ∧ (Fr a 63 [(0,.slice ad n cap),(1,.int .i64 ((n : Nat) : Int)),(2,.func (.func 29) #[] #[]),(6,.int .i64 20),(7,.int .i64 ((a1 : Nat) : Int)),(8,.int .i64 ((a1 + 20 : Nat) : Int))])) (n - 0) [1,1,0,0,0] (by kernel_rfl) ⟨0,L,rfl,g0,⟨0,rfl⟩,(by omega),hLn,(List.Perm.refl _),(Blk.nil _ _ _),own_d,hF⟩ ?_
 clear hF a
 clear g0
 clear hLn
 clear own_d
 rintro m a h1 ⟨a1,M,rfl,g0,hat,han,hM,hP,hblk,own_d,hF⟩
 obtain ⟨t,ht⟩ := hat
 refine cS ?_
 refine cS ?_
 refine cP 2 hF ?_
 refine sP 3 [nV (a1 + 20),nV n,.bool (decide (((a1 + 20 : Nat) : Int) ≤ ((n : Nat) : Int)))] ?_
 refine sD [(0,.slice ad n cap),(1,nV n),(2,.func (.func 29) #[] #[]),(6,.int .i64 20),(7,nV a1),(8,nV (a1 + 20)),(13,.bool (decide (((a1 + 20 : Nat) : Int) ≤ ((n : Nat) : Int))))] ?_
 clear hF a; intro a hF
 refine tK ?_
 refine cC 13 (decide (((a1 + 20 : Nat) : Int) ≤ ((n : Nat) : Int))) hF (fun hc2 => ?_) (fun hc2 => ?_)
 ·skip
  replace hc2 := of_decide_eq_true hc2
  refine cN ?_
  refine tK ?_
  refine cB 1 ?_
  refine cS ?_
  refine cP 3 hF ?_
  refine sP 4 [.slice ad n cap,nV a1,nV (a1 + 20),.func (.func 29) #[] #[]] ?_
  refine SeqK.eff (k' := 5) (Does.call (f := 37) (args := #[.slice ad n cap,.int .i64 ((a1 : Nat) : Int),.int .i64 ((a1 + 20 : Nat) : Int),.func (.func 29) #[] #[]]) (by kernel_rfl) (ins_sat _ ad cap n a1 (a1 + 20) M own_d hM (by omega) (by omega) (by omega))) rfl ?_
  rintro _ h4 ⟨K3,hM2,hP2,hout,hs,ownx,g⟩
  replace g0 := g0.trans g
  clear own_d; have own_d := ownx; clear ownx g
  replace hP := hP2.trans hP; replace hM := hM2; replace hblk := hblk.more ht hout hs (by omega); clear hP2 hM2 hout hs
  refine sD [(0,.slice ad n cap),(1,nV n),(2,.func (.func 29) #[] #[]),(6,.int .i64 20),(8,nV (a1 + 20))] ?_
  clear hF a; intro a hF
  refine tK ?_
  refine cS ?_
  refine cP 4 hF ?_
  refine sP 2 [nV (a1 + 20),nV (a1 + 20)] ?_
  refine sD [(0,.slice ad n cap),(1,nV n),(2,.func (.func 29) #[] #[]),(6,.int .i64 20),(7,nV (a1 + 20)),(8,nV (a1 + 20))] ?_
  clear hF a; intro a hF
  refine tK ?_
  refine cP 5 hF ?_
  refine sP 2 [nV (a1 + 20),.int .i64 20] ?_
  refine s1 3 (.int .i64 (((a1 + 20) + 20 : Nat) : Int)) (.int .i64 (IntKind.i64.wrap (((a1 + 20 : Nat) : Int) + 20))) (congrArg (Value.int .i64) (w64' (by omega) (by omega) (by omega))) ?_
  refine sP 4 [nV ((a1 + 20) + 20)] ?_
  refine sD [(0,.slice ad n cap),(1,nV n),(2,.func (.func 29) #[] #[]),(6,.int .i64 20),(7,nV (a1 + 20)),(8,nV ((a1 + 20) + 20))] ?_
  clear hF a; intro a hF
  show ∃ m',m' < _ ∧ _
  refine ⟨_,?_,(a1 + 20),K3,rfl,g0,⟨t + 1,by omega⟩,(by omega),hM,hP,hblk,own_d,hF⟩
  omega
 ·skip
  replace hc2 := of_decide_eq_false hc2
  refine cX 0 ?_
  show C Try.prog (sub b34' [1,1,1]) _ a h1
  refine cS ?_
  refine cP 6 hF ?_
  refine sP 4 [.slice ad n cap,nV a1,nV n,.func (.func 29) #[] #[]] ?_
  refine SeqK.eff (k' := 5) (Does.call (f := 37) (args := #[.slice ad n cap,.int .i64 ((a1 : Nat) : Int),.int .i64 ((n : Nat) : Int),.func (.func 29) #[] #[]]) (by kernel_rfl) (ins_sat _ ad cap n a1 (n) M own_d hM (by omega) (by omega) (by omega))) rfl ?_
  rintro _ h6 ⟨K5,hM2,hP2,hout,hs,ownx,g⟩
  replace g0 := g0.trans g
  clear own_d; have own_d := ownx; clear ownx g
  replace hP := hP2.trans hP; replace hM := hM2; replace hblk := hblk.more ht hout hs (by omega); clear hP2 hM2 hout hs
  refine sD [(0,.slice ad n cap),(1,nV n),(2,.func (.func 29) #[] #[]),(6,.int .i64 20)] ?_
  clear hF a; intro a hF
  refine tK ?_
  refine cB 2 ?_
  refine C.loop (fun m a h' => ∃ s : Nat,∃ M : List Rec,m = n - s ∧ (Grew (ad.map (fun (x : Addr) => x.block)) h h') ∧ (20 ≤ s) ∧ (M.length = n) ∧ (M.Perm L) ∧ (Blk M s 0 n) ∧ (Own h' (.slice ad n cap) 26 n 39 (rrow M)) ∧ (Fr a 63 [(0,.slice ad n cap),(1,.int .i64 ((n : Nat) : Int)),(2,.func (.func 29) #[] #[]),(6,.int .i64 ((s : Nat) : Int))])) (n - 20) [1,1,1,1,0,0] (by kernel_rfl) ⟨20,K5,rfl,g0,(by omega),hM,hP,hblk,own_d,hF⟩ ?_
  clear hF a
  clear g0
  clear hM
  clear hP
  clear hblk
  clear own_d
  rintro m a h7 ⟨s,M,rfl,g0,hs20,hM,hP,hblk,own_d,hF⟩
  refine cS ?_
  refine cS ?_
  refine cP 7 hF ?_
  refine sP 3 [nV s,nV n,.bool (decide (((s : Nat) : Int) < ((n : Nat) : Int)))] ?_
  refine sD [(0,.slice ad n cap),(1,nV n),(2,.func (.func 29) #[] #[]),(6,nV s),(30,.bool (decide (((s : Nat) : Int) < ((n : Nat) : Int))))] ?_
  clear hF a; intro a hF
  refine tK ?_
  refine cC 30 (decide (((s : Nat) : Int) < ((n : Nat) : Int))) hF (fun hc8 => ?_) (fun hc8 => ?_)
  ·skip
   replace hc8 := of_decide_eq_true hc8
   refine cN ?_
   refine tK ?_
   refine cB 3 ?_
   refine cS ?_
   refine cP 8 hF ?_
   refine sP 1 [nV s] ?_
   refine s1 2 (.int .i64 ((2 * s : Nat) : Int)) (.int .i64 (IntKind.i64.wrap (2 * ((s : Nat) : Int)))) (congrArg (Value.int .i64) (w64' (by omega) (by omega) (by omega))) ?_
   refine sP 4 [.int .i64 0,nV (2 * s)] ?_
   refine sD [(0,.slice ad n cap),(1,nV n),(2,.func (.func 29) #[] #[]),(6,nV s),(7,.int .i64 0),(8,nV (2 * s))] ?_
   clear hF a; intro a hF
   refine tK ?_
   refine cS ?_
   refine cB 4 ?_
   have hz : 2 * s = 0 + 2 * s := (Nat.zero_add _).symm; rw [hz] at hF
   refine C.loop (fun m a h' => ∃ a1 : Nat,∃ M : List Rec,m = n + 2 * s - a1 ∧ (Grew (ad.map (fun (x : Addr) => x.block)) h h') ∧ (∃ t,a1 = t * (2 * s)) ∧ (a1 ≤ n) ∧ (M.length = n) ∧ (M.Perm L) ∧ (Blk M (2 * s) 0 a1) ∧ (Blk M s a1 n) ∧ (Own h' (.slice ad n cap) 26 n 39 (rrow M)) ∧ (Fr a 63 [(0,.slice ad n cap),(1,.int .i64 ((n : Nat) : Int)),(2,.func (.func 29) #[] #[]),(6,.int .i64 ((s : Nat) : Int)),(7,.int .i64 ((a1 : Nat) : Int)),(8,.int .i64 ((a1 + 2 * s : Nat) : Int))])) (n + 2 * s - 0) [1,1,1,1,0,0,1,0,1,0,0,0] (by kernel_rfl) ⟨0,M,rfl,g0,⟨0,by rw [Nat.zero_mul]⟩,(by omega),hM,hP,(Blk.nil _ _ _),hblk,own_d,hF⟩ ?_
   clear hF a
   clear g0
   clear hM
   clear hP
   clear hblk
   clear own_d
   rintro m a h9 ⟨a1,M,rfl,g0,hat,han,hM,hP,hd,hr,own_d,hF⟩
   obtain ⟨t,ht⟩ := hat
   refine cS ?_
   refine cS ?_
   refine cP 9 hF ?_
   refine sP 3 [nV (a1 + 2 * s),nV n,.bool (decide (((a1 + 2 * s : Nat) : Int) ≤ ((n : Nat) : Int)))] ?_
   refine sD [(0,.slice ad n cap),(1,nV n),(2,.func (.func 29) #[] #[]),(6,nV s),(7,nV a1),(8,nV (a1 + 2 * s)),(35,.bool (decide (((a1 + 2 * s : Nat) : Int) ≤ ((n : Nat) : Int))))] ?_
   clear hF a; intro a hF
   refine tK ?_
   refine cC 35 (decide (((a1 + 2 * s : Nat) : Int) ≤ ((n : Nat) : Int))) hF (fun hc10 => ?_) (fun hc10 => ?_)
   ·skip
    replace hc10 := of_decide_eq_true hc10
    refine cN ?_
    refine tK ?_
    refine cB 5 ?_
    refine cS ?_
    refine cP 10 hF ?_
    refine sP 4 [.slice ad n cap,nV a1,nV a1,nV s] ?_
    refine s1 5 (.int .i64 ((a1 + s : Nat) : Int)) (.int .i64 (IntKind.i64.wrap (((a1 : Nat) : Int) + ((s : Nat) : Int)))) (congrArg (Value.int .i64) (w64' (by omega) (by omega) (by omega))) ?_
    refine sP 7 [nV (a1 + 2 * s),.func (.func 29) #[] #[]] ?_
    obtain ⟨hr1,hr2⟩ := hr.two (c := a1 + 2 * s) ht (by omega) (by omega) (by omega)
    refine SeqK.eff (k' := 8) (Does.call (f := 38) (args := #[.slice ad n cap,.int .i64 ((a1 : Nat) : Int),.int .i64 ((a1 + s : Nat) : Int),.int .i64 ((a1 + 2 * s : Nat) : Int),.func (.func 29) #[] #[]]) (by kernel_rfl) (sym_sat ad cap n hn _ a1 (a1 + s) (a1 + 2 * s) M own_d hM (by omega) (by omega) (by omega) hr1 hr2)) rfl ?_
    rintro _ h12 ⟨K11,hm,ownx,g⟩
    replace g0 := g0.trans g
    clear own_d; have own_d := ownx; clear ownx g
    replace hP := hm.perm.trans hP; replace hM := hm.len; clear hr1 hr2
    replace hd := hd.more ht hm.out hm.srt (by omega); replace hr := hr.rest (by omega) hm.out; clear hm
    refine sD [(0,.slice ad n cap),(1,nV n),(2,.func (.func 29) #[] #[]),(6,nV s),(8,nV (a1 + 2 * s))] ?_
    clear hF a; intro a hF
    refine tK ?_
    refine cS ?_
    refine cP 11 hF ?_
    refine sP 2 [nV (a1 + 2 * s),nV (a1 + 2 * s)] ?_
    refine sD [(0,.slice ad n cap),(1,nV n),(2,.func (.func 29) #[] #[]),(6,nV s),(7,nV (a1 + 2 * s)),(8,nV (a1 + 2 * s))] ?_
    clear hF a; intro a hF
    refine tK ?_
    refine cP 12 hF ?_
    refine sP 2 [nV (a1 + 2 * s),nV s] ?_
    refine s1 3 (.int .i64 ((2 * s : Nat) : Int)) (.int .i64 (IntKind.i64.wrap (2 * ((s : Nat) : Int)))) (congrArg (Value.int .i64) (w64' (by omega) (by omega) (by omega))) ?_
    refine s1 4 (.int .i64 (((a1 + 2 * s) + (2 * s) : Nat) : Int)) (.int .i64 (IntKind.i64.wrap (((a1 + 2 * s : Nat) : Int) + ((2 * s : Nat) : Int)))) (congrArg (Value.int .i64) (w64' (by omega) (by omega) (by omega))) ?_
    refine sP 5 [nV ((a1 + 2 * s) + (2 * s))] ?_
    refine sD [(0,.slice ad n cap),(1,nV n),(2,.func (.func 29) #[] #[]),(6,nV s),(7,nV (a1 + 2 * s)),(8,nV ((a1 + 2 * s) + (2 * s)))] ?_
    clear hF a; intro a hF
    show ∃ m',m' < _ ∧ _
    refine ⟨_,?_,(a1 + 2 * s),K11,rfl,g0,⟨t + 1,by rw [ht,Nat.add_mul,Nat.one_mul]⟩,(by omega),hM,hP,hd,hr,own_d,hF⟩
    omega
   ·skip
    replace hc10 := of_decide_eq_false hc10
    refine cX 4 ?_
    show C Try.prog (sub b34' [1,1,1,1,0,0,1,0,1,1]) _ a h9
    refine cS ?_
    refine cS ?_
    refine cP 13 hF ?_
    refine sP 2 [nV a1,nV s] ?_
    refine s1 3 (.int .i64 ((a1 + s : Nat) : Int)) (.int .i64 (IntKind.i64.wrap (((a1 : Nat) : Int) + ((s : Nat) : Int)))) (congrArg (Value.int .i64) (w64' (by omega) (by omega) (by omega))) ?_
    refine sP 4 [nV (a1 + s)] ?_
    refine sD [(0,.slice ad n cap),(1,nV n),(2,.func (.func 29) #[] #[]),(6,nV s),(7,nV a1),(9,nV (a1 + s))] ?_
    clear hF a; intro a hF
    refine tK ?_
    refine cS ?_
    refine cP 14 hF ?_
    refine sP 3 [nV (a1 + s),nV n,.bool (decide (((a1 + s : Nat) : Int) < ((n : Nat) : Int)))] ?_
    refine sD [(0,.slice ad n cap),(1,nV n),(2,.func (.func 29) #[] #[]),(6,nV s),(7,nV a1),(9,nV (a1 + s)),(54,.bool (decide (((a1 + s : Nat) : Int) < ((n : Nat) : Int))))] ?_
    clear hF a; intro a hF
    refine tK ?_
    refine cC 54 (decide (((a1 + s : Nat) : Int) < ((n : Nat) : Int))) hF (fun hc13 => ?_) (fun hc13 => ?_)
    ·skip
     replace hc13 := of_decide_eq_true hc13
     refine cP 15 hF ?_
     refine sP 5 [.slice ad n cap,nV a1,nV (a1 + s),nV n,.func (.func 29) #[] #[]] ?_
     obtain ⟨hr1,hr2⟩ := hr.two (c := n) ht (by omega) (by omega) (by omega)
     refine SeqK.eff (k' := 6) (Does.call (f := 38) (args := #[.slice ad n cap,.int .i64 ((a1 : Nat) : Int),.int .i64 ((a1 + s : Nat) : Int),.int .i64 ((n : Nat) : Int),.func (.func 29) #[] #[]]) (by kernel_rfl) (sym_sat ad cap n hn _ a1 (a1 + s) (n) M own_d hM (by omega) (by omega) (by omega) hr1 hr2)) rfl ?_
     rintro _ h15 ⟨K14,hm,ownx,g⟩
     replace g0 := g0.trans g
     clear own_d; have own_d := ownx; clear ownx g
     replace hP := hm.perm.trans hP; replace hM := hm.len; clear hr1 hr2
     have hblk2 := hd.more ht hm.out hm.srt (by omega)
     refine sD [(0,.slice ad n cap),(1,nV n),(2,.func (.func 29) #[] #[]),(6,nV s)] ?_
     clear hF a; intro a hF
     refine tK ?_
     refine cP 16 hF ?_
     refine sP 1 [nV s] ?_
     refine s1 2 (.int .i64 ((s * 2 : Nat) : Int)) (.int .i64 (IntKind.i64.wrap (((s : Nat) : Int) * 2))) (congrArg (Value.int .i64) (w64' (by omega) (by omega) (by omega))) ?_
     refine sP 3 [nV (s * 2)] ?_
     refine sD [(0,.slice ad n cap),(1,nV n),(2,.func (.func 29) #[] #[]),(6,nV (s * 2))] ?_
     clear hF a; intro a hF
     show ∃ m',m' < _ ∧ _
     refine ⟨_,?_,(s * 2),K14,rfl,g0,(by omega),hM,hP,(Nat.mul_comm 2 s ▸ hblk2),own_d,hF⟩
     omega
    ·skip
     replace hc13 := of_decide_eq_false hc13
     have hblk2 := hd.more (c := n) ht (fun _ _ => rfl) (hr.one ht (by omega)) (by omega)
     refine cN ?_
     show C Try.prog (sub b34' [1,1,1,1,0,0,1,0,1,1,1]) _ a h9
     refine cP 16 hF ?_
     refine sP 1 [nV s] ?_
     refine s1 2 (.int .i64 ((s * 2 : Nat) : Int)) (.int .i64 (IntKind.i64.wrap (((s : Nat) : Int) * 2))) (congrArg (Value.int .i64) (w64' (by omega) (by omega) (by omega))) ?_
     refine sP 3 [nV (s * 2)] ?_
     refine sD [(0,.slice ad n cap),(1,nV n),(2,.func (.func 29) #[] #[]),(6,nV (s * 2))] ?_
     clear hF a; intro a hF
     show ∃ m',m' < _ ∧ _
     refine ⟨_,?_,(s * 2),M,rfl,g0,(by omega),hM,hP,(Nat.mul_comm 2 s ▸ hblk2),own_d,hF⟩
     omega
  ·skip
   replace hc8 := of_decide_eq_false hc8
   refine cX 2 ?_
   show retK Try.prog Try.f34 (fun _ h' => ∃ M,M.length = n ∧ M.Perm L ∧ SrtOn M 0 n ∧ Own h' (.slice ad n cap) 26 n 39 (rrow M) ∧ Grew (ad.map (fun (x : Addr) => x.block)) h h') .normal a h7
   refine ret_okN [] [] (.tuple #[]) rfl hF trivial rfl ?_
   exact ⟨M,hM,hP,hblk.all (by omega),own_d,g0⟩
noncomputable def b28' : Code := Try.f28.body.getD .skip
theorem sort_all (h : Heap) (ad : Option Addr) (cap n : Nat) (L : List Rec) (own_d : Own h (.slice ad n cap) 26 n 39 (rrow L)) (hLn : L.length = n) (hn : n ≤ 1099511627776) : Sat Try.prog 28 #[.slice ad n cap,.func (.func 29) #[] #[]] h fun _ h' => ∃ M,M.length = n ∧ M.Perm L ∧ SrtOn M 0 n ∧ Own h' (.slice ad n cap) 26 n 39 (rrow M) ∧ Grew (ad.map (fun (x : Addr) => x.block)) h h' := by
 refine sat_of (args := [.slice ad n cap,.func (.func 29) #[] #[]]) (fn := Try.f28) (B := b28') (n := 9) (L := [(0,.slice ad n cap),(1,.func (.func 29) #[] #[])]) Try.func28 rfl (by kernel_rfl) rfl ?_
 intro a hF
 refine cP 0 hF ?_
 refine sP 4 [.slice ad n cap,.slice ad n cap,nV n,.func (.func 29) #[] #[]] ?_
 refine SeqK.eff (k' := 5) (Does.call (f := 34) (args := #[.slice ad n cap,.int .i64 ((n : Nat) : Int),.func (.func 29) #[] #[]]) (by kernel_rfl) (stable_sat _ ad cap n L own_d hLn hn)) rfl ?_
 rintro _ h1 ⟨M,hM,hP,hs,ownx,g0⟩
 refine sD [] ?_
 clear hF a; intro a hF
 show retK Try.prog Try.f28 (fun _ h' => ∃ M,M.length = n ∧ M.Perm L ∧ SrtOn M 0 n ∧ Own h' (.slice ad n cap) 26 n 39 (rrow M) ∧ Grew (ad.map (fun (x : Addr) => x.block)) h h') .normal a h1
 refine ret_okN [] [] (.tuple #[]) rfl hF trivial rfl ?_
 exact ⟨M,hM,hP,hs,ownx,g0⟩
theorem sorts_all : Sorts Try.prog 28 (.func (.func 29) #[] #[]) 26 1099511627776 := fun h ad cap n L o hL hn _ => sort_all h ad cap n L o hL hn
end Go.Proofs.Ytlghdimpgfhmcaa
