/- two runs made one: what it comes to. Conditions: those that each theorem names. -/
import Derived.Test.YtlghdimpgfhmcaaRetS
namespace Go.Proofs.Ytlghdimpgfhmcaa
open Go Go.Lane Go.Sha
noncomputable def b38 : Code := Try.f38.body.getD .skip
set_option maxHeartbeats 4000000 in
theorem sym_step (h : Heap) (ad : Option Addr) (cap n la lm lb : Nat) (L : List Rec) (own_d : Own h (.slice ad n cap) 26 n 39 (rrow L)) (hLn : L.length = n) (ham : la < lm) (hmb : lm < lb) (hbn : lb ≤ n) (hn : n ≤ 1099511627776) (hs1 : SrtOn L la lm) (hs2 : SrtOn L lm lb) (ih : ∀ (h : Heap) (a m b : Nat) (L : List Rec),b - a < lb - la → Own h (.slice ad n cap) 26 n 39 (rrow L) → L.length = n → a < m → m < b → b ≤ n → SrtOn L a m → SrtOn L m b → Sat Try.prog 38 #[.slice ad n cap,.int .i64 ((a : Nat) : Int),.int .i64 ((m : Nat) : Int),.int .i64 ((b : Nat) : Int),.func (.func 29) #[] #[]] h fun _ h' => ∃ M,Mgd n a b L M ∧ Own h' (.slice ad n cap) 26 n 39 (rrow M) ∧ Grew (ad.map (fun (x : Addr) => x.block)) h h') : Sat Try.prog 38 #[.slice ad n cap,.int .i64 ((la : Nat) : Int),.int .i64 ((lm : Nat) : Int),.int .i64 ((lb : Nat) : Int),.func (.func 29) #[] #[]] h fun _ h' => ∃ M,Mgd n la lb L M ∧ Own h' (.slice ad n cap) 26 n 39 (rrow M) ∧ Grew (ad.map (fun (x : Addr) => x.block)) h h' := by
 have g0 := Grew.refl (ad.map (fun (x : Addr) => x.block)) h
 refine sat_of (args := [.slice ad n cap,.int .i64 ((la : Nat) : Int),.int .i64 ((lm : Nat) : Int),.int .i64 ((lb : Nat) : Int),.func (.func 29) #[] #[]]) (fn := Try.f38) (B := b38) (n := 220) (L := [(0,.slice ad n cap),(1,.int .i64 ((la : Nat) : Int)),(2,.int .i64 ((lm : Nat) : Int)),(3,.int .i64 ((lb : Nat) : Int)),(4,.func (.func 29) #[] #[])]) Try.func38 rfl (by kernel_rfl) rfl ?_
 intro a hF
 refine cS ?_
 refine cS ?_
 refine cP 0 hF ?_
 refine sP 2 [nV lm,nV la] ?_
 refine s1 3 (.int .i64 ((lm - la : Nat) : Int)) (.int .i64 (IntKind.i64.wrap (((lm : Nat) : Int) - ((la : Nat) : Int)))) (congrArg (Value.int .i64) (w64' (by omega) (by omega) (by omega))) ?_
 refine sP 4 [.bool (decide (((lm - la : Nat) : Int) = (1 : Int)))] ?_
 refine sD [(0,.slice ad n cap),(1,nV la),(2,nV lm),(3,nV lb),(4,.func (.func 29) #[] #[]),(28,.bool (decide (((lm - la : Nat) : Int) = (1 : Int))))] ?_
 clear hF a; intro a hF
 refine tK ?_
 refine cC 28 (decide (((lm - la : Nat) : Int) = (1 : Int))) hF (fun hc1 => ?_) (fun hc1 => ?_)
 ·skip
  replace hc1 := of_decide_eq_true hc1
  have hm1 : lm = la + 1 := by omega
  refine cS ?_
  refine cP 1 hF ?_
  refine sP 2 [nV lm,nV lm] ?_
  refine sD [(0,.slice ad n cap),(1,nV la),(3,nV lb),(4,.func (.func 29) #[] #[]),(10,nV lm)] ?_
  clear hF a; intro a hF
  refine tK ?_
  refine cS ?_
  refine cP 2 hF ?_
  refine sP 2 [nV lb,nV lb] ?_
  refine sD [(0,.slice ad n cap),(1,nV la),(4,.func (.func 29) #[] #[]),(10,nV lm),(11,nV lb)] ?_
  clear hF a; intro a hF
  refine tK ?_
  refine cS ?_
  refine cB 0 ?_
  refine C.loop (fun m a h' => ∃ i : Nat,∃ j : Nat,m = j - i ∧ (Grew (ad.map (fun (x : Addr) => x.block)) h h') ∧ (lm ≤ i ∧ i ≤ j ∧ j ≤ lb) ∧ (i = lm ∨ cbR (L.getD (i - 1) rec0) (L.getD (la) rec0) < 0) ∧ (j = lb ∨ ¬ cbR (L.getD (j) rec0) (L.getD (la) rec0) < 0) ∧ (Own h' (.slice ad n cap) 26 n 39 (rrow L)) ∧ (Fr a 220 [(0,.slice ad n cap),(1,.int .i64 ((la : Nat) : Int)),(4,.func (.func 29) #[] #[]),(10,.int .i64 ((i : Nat) : Int)),(11,.int .i64 ((j : Nat) : Int))])) (lb - lm) [0,1,0,1,1,0,0,0] (by kernel_rfl) ⟨lm,lb,rfl,g0,(by omega),(.inl (by omega)),(.inl (by omega)),own_d,hF⟩ ?_
  clear hF a
  clear g0
  clear own_d
  rintro m a h2 ⟨i,j,rfl,g0,hij,hlo,hhi,own_d,hF⟩
  refine cS ?_
  refine cS ?_
  refine cP 3 hF ?_
  refine sP 3 [nV i,nV j,.bool (decide (((i : Nat) : Int) < ((j : Nat) : Int)))] ?_
  refine sD [(0,.slice ad n cap),(1,nV la),(4,.func (.func 29) #[] #[]),(10,nV i),(11,nV j),(33,.bool (decide (((i : Nat) : Int) < ((j : Nat) : Int))))] ?_
  clear hF a; intro a hF
  refine tK ?_
  refine cC 33 (decide (((i : Nat) : Int) < ((j : Nat) : Int))) hF (fun hc3 => ?_) (fun hc3 => ?_)
  ·skip
   replace hc3 := of_decide_eq_true hc3
   have hijc : i < j := by omega
   obtain ⟨aa,rfl,hcap_aa⟩ := own_d.someA (by omega)
   refine cN ?_
   refine tK ?_
   refine cB 1 ?_
   refine cS ?_
   refine cP 4 hF ?_
   refine sP 2 [nV i,nV j] ?_
   refine s1 3 (.int .i64 ((i + j : Nat) : Int)) (.int .i64 (IntKind.i64.wrap (((i : Nat) : Int) + ((j : Nat) : Int)))) (congrArg (Value.int .i64) (w64' (by omega) (by omega) (by omega))) ?_
   refine s1 4 (.int .u64 ((i + j : Nat) : Int)) (.int .u64 (IntKind.u64.wrap ((i + j : Nat) : Int))) (congrArg (Value.int .u64) (u64n (by omega))) ?_
   refine s1 5 (.int .u64 (((i + j) / 2 ^ 1 : Nat) : Int)) (.int .u64 (Int.fdiv ((i + j : Nat) : Int) (2 ^ 1))) (congrArg (Value.int .u64) (fdivN (i + j) 1)) ?_
   refine s1 6 (.int .i64 (((i + j) / 2 ^ 1 : Nat) : Int)) (.int .i64 (IntKind.i64.wrap (((i + j) / 2 ^ 1 : Nat) : Int))) (congrArg (Value.int .i64) (w64 (by omega) (by omega))) ?_
   refine sP 7 [nV ((i + j) / 2 ^ 1)] ?_
   refine sD [(0,.slice (some aa) n cap),(1,nV la),(4,.func (.func 29) #[] #[]),(10,nV i),(11,nV j),(12,nV ((i + j) / 2 ^ 1))] ?_
   clear hF a; intro a hF
   obtain ⟨c,hc⟩ : ∃ x,(i + j) / 2 ^ 1 = x := ⟨_,rfl⟩; rw [hc] at hF
   have hcb : i ≤ c ∧ c < j := by omega
   refine tK ?_
   refine cS ?_
   refine cD [0,0,0,6,14,0,0,96,224,511,1023] 5 mixed hF ?_
   refine mP 7 [0,1,2] [.func (.func 29) #[] #[],.slice (some aa) n cap,nV c] ?_
   refine mF 15 3 (.pointer (some (Addr.add aa (c * 39)))) (Calm.indexA (a := aa) (len := n) (sz := 39) (k := ((c : Nat) : Int)) c (c * 39) (by kernel_rfl) rfl (by omega) (by omega)) ?_
   refine mL 31 16 4 (.agg (rcs (L.getD c rec0)).toArray) (Calm.load (T := 26) (p := (Addr.add aa (c * 39))) (by kernel_rfl) (Row.fm (d := rec0) (i := c) rcs_len (own_d.row) (by kernel_rfl) (by omega) (by omega))) ?_
   refine mP 127 [5,6] [.slice (some aa) n cap,nV la] ?_
   refine mF 255 7 (.pointer (some (Addr.add aa (la * 39)))) (Calm.indexA (a := aa) (len := n) (sz := 39) (k := ((la : Nat) : Int)) la (la * 39) (by kernel_rfl) rfl (by omega) (by omega)) ?_
   refine mL 511 272 8 (.agg (rcs (L.getD la rec0)).toArray) (Calm.load (T := 26) (p := (Addr.add aa (la * 39))) (by kernel_rfl) (Row.fm (d := rec0) (i := la) rcs_len (own_d.row) (by kernel_rfl) (by omega) (by omega))) ?_
   refine SimK.eff0 (i := 9) (D' := 1023) (X' := 1023) (by kernel_rfl) (by kernel_rfl) (by kernel_rfl) (by kernel_rfl) (Does.call (f := 29) (args := #[.agg (rcs (L.getD c rec0)).toArray,.agg (rcs (L.getD la rec0)).toArray]) (by kernel_rfl) (less_sat _ (L.getD c rec0) (L.getD la rec0))) ?_
   rintro _ h4 ⟨rfl,g⟩
   replace g0 := g0.trans (g.but _)
   replace own_d := own_d.ext g
   clear g
   refine mP 2047 [10] [.bool (decide ((cbR (L.getD c rec0) (L.getD la rec0)) < (0 : Int)))] ?_
   refine mD [(0,.slice (some aa) n cap),(1,nV la),(4,.func (.func 29) #[] #[]),(10,nV i),(11,nV j),(12,nV c),(50,.bool (decide ((cbR (L.getD c rec0) (L.getD la rec0)) < (0 : Int))))] ?_
   clear hF a; intro a hF
   refine tK ?_
   refine cC 50 (decide ((cbR (L.getD c rec0) (L.getD la rec0)) < (0 : Int))) hF (fun hc5 => ?_) (fun hc5 => ?_)
   ·skip
    replace hc5 := of_decide_eq_true hc5
    have hlo2 : c + 1 = lm ∨ cbR (L.getD (c + 1 - 1) rec0) (L.getD (la) rec0) < 0 := .inr hc5
    have hhi2 := hhi
    refine cP 6 hF ?_
    refine sP 1 [nV c] ?_
    refine s1 2 (.int .i64 ((c + 1 : Nat) : Int)) (.int .i64 (IntKind.i64.wrap (((c : Nat) : Int) + 1))) (congrArg (Value.int .i64) (w64' (by omega) (by omega) (by omega))) ?_
    refine sP 3 [nV (c + 1)] ?_
    refine sD [(0,.slice (some aa) n cap),(1,nV la),(4,.func (.func 29) #[] #[]),(10,nV (c + 1)),(11,nV j)] ?_
    clear hF a; intro a hF
    show ∃ m',m' < _ ∧ _
    refine ⟨_,?_,c + 1,j,rfl,g0,(by omega),hlo2,hhi2,own_d,hF⟩
    omega
   ·skip
    replace hc5 := of_decide_eq_false hc5
    have hhi2 : c = lb ∨ ¬ cbR (L.getD (c) rec0) (L.getD (la) rec0) < 0 := .inr hc5
    have hlo2 := hlo
    refine cP 7 hF ?_
    refine sP 2 [nV c,nV c] ?_
    refine sD [(0,.slice (some aa) n cap),(1,nV la),(4,.func (.func 29) #[] #[]),(10,nV i),(11,nV c)] ?_
    clear hF a; intro a hF
    show ∃ m',m' < _ ∧ _
    refine ⟨_,?_,i,c,rfl,g0,(by omega),hlo2,hhi2,own_d,hF⟩
    omega
  ·skip
   replace hc3 := of_decide_eq_false hc3
   obtain rfl : i = j := by omega
   refine cX 0 ?_
   show C Try.prog (sub b38 [0,1,0,1,1,1]) _ a h2
   refine cS ?_
   refine cS ?_
   refine cP 8 hF ?_
   refine sP 2 [nV la,nV la] ?_
   refine sD [(0,.slice ad n cap),(10,nV i),(13,nV la)] ?_
   clear hF a; intro a hF
   refine tK ?_
   refine cB 2 ?_
   refine C.loop (fun m a h' => ∃ k : Nat,∃ M : List Rec,m = i - k ∧ (Grew (ad.map (fun (x : Addr) => x.block)) h h') ∧ (la ≤ k ∧ k + 1 ≤ i) ∧ (M.length = n) ∧ (M.Perm L) ∧ (Idx M L (lx la k)) ∧ (Own h' (.slice ad n cap) 26 n 39 (rrow M)) ∧ (Fr a 220 [(0,.slice ad n cap),(10,.int .i64 ((i : Nat) : Int)),(13,.int .i64 ((k : Nat) : Int))])) (i - la) [0,1,0,1,1,1,0,1,0,0] (by kernel_rfl) ⟨la,L,rfl,g0,(by omega),hLn,(List.Perm.refl _),(Idx.refl _ (lx_0 la)),own_d,hF⟩ ?_
   clear hF a
   clear g0
   clear hLn
   clear own_d
   rintro m a h6 ⟨k,M,rfl,g0,hk,hM,hP,hx,own_d,hF⟩
   refine cS ?_
   refine cS ?_
   refine cP 9 hF ?_
   refine sP 2 [nV k,nV i] ?_
   refine s1 3 (.int .i64 ((i - 1 : Nat) : Int)) (.int .i64 (IntKind.i64.wrap (((i : Nat) : Int) - 1))) (congrArg (Value.int .i64) (w64' (by omega) (by omega) (by omega))) ?_
   refine sP 4 [.bool (decide (((k : Nat) : Int) < ((i - 1 : Nat) : Int)))] ?_
   refine sD [(0,.slice ad n cap),(10,nV i),(13,nV k),(58,.bool (decide (((k : Nat) : Int) < ((i - 1 : Nat) : Int))))] ?_
   clear hF a; intro a hF
   refine tK ?_
   refine cC 58 (decide (((k : Nat) : Int) < ((i - 1 : Nat) : Int))) hF (fun hc7 => ?_) (fun hc7 => ?_)
   ·skip
    replace hc7 := of_decide_eq_true hc7
    have hkc : k + 1 < i := by omega
    obtain ⟨aa,rfl,hcap_aa⟩ := own_d.someA (by omega)
    refine cN ?_
    refine tK ?_
    refine cS ?_
    refine cB 3 ?_
    refine cD [0,0,0,0,8,0,0,64,224,480,0,0,3072,7168,16355,32739,65535,131071] 11 mixed hF ?_
    refine mP 15 [0,1,2,3] [.slice (some aa) n cap,nV k,.slice (some aa) n cap,nV k] ?_
    refine m1 31 4 (.int .i64 ((k + 1 : Nat) : Int)) (.int .i64 (IntKind.i64.wrap (((k : Nat) : Int) + 1))) (congrArg (Value.int .i64) (w64' (by omega) (by omega) (by omega))) ?_
    refine mP 127 [5,6] [.slice (some aa) n cap,nV k] ?_
    refine m1 255 7 (.int .i64 ((k + 1 : Nat) : Int)) (.int .i64 (IntKind.i64.wrap (((k : Nat) : Int) + 1))) (congrArg (Value.int .i64) (w64' (by omega) (by omega) (by omega))) ?_
    refine mF 511 8 (.pointer (some (Addr.add aa ((k + 1) * 39)))) (Calm.indexA (a := aa) (len := n) (sz := 39) (k := ((k + 1 : Nat) : Int)) (k + 1) ((k + 1) * 39) (by kernel_rfl) rfl (by omega) (by omega)) ?_
    refine mL 1023 512 9 (.agg (rcs (M.getD (k + 1) rec0)).toArray) (Calm.load (T := 26) (p := (Addr.add aa ((k + 1) * 39))) (by kernel_rfl) (Row.fm (d := rec0) (i := (k + 1)) rcs_len (own_d.row) (by kernel_rfl) (by omega) (by omega))) ?_
    refine mP 4095 [10,11] [.slice (some aa) n cap,nV k] ?_
    refine mF 8191 12 (.pointer (some (Addr.add aa (k * 39)))) (Calm.indexA (a := aa) (len := n) (sz := 39) (k := ((k : Nat) : Int)) k (k * 39) (by kernel_rfl) rfl (by omega) (by omega)) ?_
    refine mL 16383 8704 13 (.agg (rcs (M.getD k rec0)).toArray) (Calm.load (T := 26) (p := (Addr.add aa (k * 39))) (by kernel_rfl) (Row.fm (d := rec0) (i := k) rcs_len (own_d.row) (by kernel_rfl) (by omega) (by omega))) ?_
    refine mF 32767 14 (.pointer (some (Addr.add aa (k * 39)))) (Calm.indexA (a := aa) (len := n) (sz := 39) (k := ((k : Nat) : Int)) k (k * 39) (by kernel_rfl) rfl (by omega) (by omega)) ?_
    refine SimK.eff0 (i := 15) (D' := 65535) (X' := 65507) (by kernel_rfl) (by kernel_rfl) (by kernel_rfl) (by kernel_rfl) (Does.storeOwn (a := aa) (q := k * 39) (vs := rcs (M.getD (k + 1) rec0)) (by kernel_rfl) own_d (by show _ + 39 ≤ _; omega) (rcs_one _)) ?_
    rintro _ h8 ⟨rfl,ownx,g⟩
    replace g0 := g0.trans g
    rw [fm_set rcs_len (by first | omega | (rw [List.length_set]; omega))] at ownx
    clear own_d; have own_d := ownx; clear ownx g
    refine mF 131071 16 (.pointer (some (Addr.add aa ((k + 1) * 39)))) (Calm.indexA (a := aa) (len := n) (sz := 39) (k := ((k + 1 : Nat) : Int)) (k + 1) ((k + 1) * 39) (by kernel_rfl) rfl (by omega) (by omega)) ?_
    refine SimK.eff0 (i := 17) (D' := 262143) (X' := 262143) (by kernel_rfl) (by kernel_rfl) (by kernel_rfl) (by kernel_rfl) (Does.storeOwn (a := aa) (q := (k + 1) * 39) (vs := rcs (M.getD k rec0)) (by kernel_rfl) own_d (by show _ + 39 ≤ _; omega) (rcs_one _)) ?_
    rintro _ h9 ⟨rfl,ownx,g⟩
    replace g0 := g0.trans g
    rw [fm_set rcs_len (by first | omega | (rw [List.length_set]; omega))] at ownx
    clear own_d; have own_d := ownx; clear ownx g
    refine mD [(0,.slice (some aa) n cap),(10,nV i),(13,nV k)] ?_
    clear hF a; intro a hF
    show C Try.prog (sub b38 [0,1,0,1,1,1,0,1,0,0,1,1]) _ a h9
    refine cP 10 hF ?_
    refine sP 1 [nV k] ?_
    refine s1 2 (.int .i64 ((k + 1 : Nat) : Int)) (.int .i64 (IntKind.i64.wrap (((k : Nat) : Int) + 1))) (congrArg (Value.int .i64) (w64' (by omega) (by omega) (by omega))) ?_
    refine sP 3 [nV (k + 1)] ?_
    refine sD [(0,.slice (some aa) n cap),(10,nV i),(13,nV (k + 1))] ?_
    clear hF a; intro a hF
    show ∃ m',m' < _ ∧ _
    refine ⟨_,?_,k + 1,(swp2 M k (k + 1)),rfl,g0,(by omega),((swp2_length M _ _).trans hM),((swp2_perm (by omega) (by omega)).trans hP),(hx.swp (by omega) (by omega) (lx_next (by omega))),own_d,hF⟩
    omega
   ·skip
    replace hc7 := of_decide_eq_false hc7
    refine cX 2 ?_
    show C Try.prog (sub b38 [0,1,0,1,1,1,1]) _ a h6
    refine cR ?_
    show retK Try.prog Try.f38 (fun _ h' => ∃ M,Mgd n la lb L M ∧ Own h' (.slice ad n cap) 26 n 39 (rrow M) ∧ Grew (ad.map (fun (x : Addr) => x.block)) h h') .ret a h6
    refine ret_ok [] [] (.tuple #[]) rfl hF trivial rfl ?_
    exact ⟨M,sym1 hM hP hx (by omega) (hm1 ▸ hs2) (by omega) (by omega) (hlo.imp (fun z => by omega) id) hhi,own_d,g0⟩
 ·skip
  replace hc1 := of_decide_eq_false hc1
  refine cN ?_
  refine tK ?_
  refine cS ?_
  refine cS ?_
  refine cP 12 hF ?_
  refine sP 2 [nV lb,nV lm] ?_
  refine s1 3 (.int .i64 ((lb - lm : Nat) : Int)) (.int .i64 (IntKind.i64.wrap (((lb : Nat) : Int) - ((lm : Nat) : Int)))) (congrArg (Value.int .i64) (w64' (by omega) (by omega) (by omega))) ?_
  refine sP 4 [.bool (decide (((lb - lm : Nat) : Int) = (1 : Int)))] ?_
  refine sD [(0,.slice ad n cap),(1,nV la),(2,nV lm),(3,nV lb),(4,.func (.func 29) #[] #[]),(80,.bool (decide (((lb - lm : Nat) : Int) = (1 : Int))))] ?_
  clear hF a; intro a hF
  refine tK ?_
  refine cC 80 (decide (((lb - lm : Nat) : Int) = (1 : Int))) hF (fun hc10 => ?_) (fun hc10 => ?_)
  ·skip
   replace hc10 := of_decide_eq_true hc10
   have hm1 : lb = lm + 1 := by omega
   refine cS ?_
   refine cP 13 hF ?_
   refine sP 2 [nV la,nV la] ?_
   refine sD [(0,.slice ad n cap),(2,nV lm),(4,.func (.func 29) #[] #[]),(14,nV la)] ?_
   clear hF a; intro a hF
   refine tK ?_
   refine cS ?_
   refine cP 14 hF ?_
   refine sP 2 [nV lm,nV lm] ?_
   refine sD [(0,.slice ad n cap),(2,nV lm),(4,.func (.func 29) #[] #[]),(14,nV la),(15,nV lm)] ?_
   clear hF a; intro a hF
   refine tK ?_
   refine cS ?_
   refine cB 4 ?_
   refine C.loop (fun m a h' => ∃ i : Nat,∃ j : Nat,m = j - i ∧ (Grew (ad.map (fun (x : Addr) => x.block)) h h') ∧ (la ≤ i ∧ i ≤ j ∧ j ≤ lm) ∧ (i = la ∨ ¬ cbR (L.getD (lm) rec0) (L.getD (i - 1) rec0) < 0) ∧ (j = lm ∨ cbR (L.getD (lm) rec0) (L.getD (j) rec0) < 0) ∧ (Own h' (.slice ad n cap) 26 n 39 (rrow L)) ∧ (Fr a 220 [(0,.slice ad n cap),(2,.int .i64 ((lm : Nat) : Int)),(4,.func (.func 29) #[] #[]),(14,.int .i64 ((i : Nat) : Int)),(15,.int .i64 ((j : Nat) : Int))])) (lm - la) [1,0,1,0,1,1,0,0,0] (by kernel_rfl) ⟨la,lm,rfl,g0,(by omega),(.inl (by omega)),(.inl (by omega)),own_d,hF⟩ ?_
   clear hF a
   clear g0
   clear own_d
   rintro m a h11 ⟨i,j,rfl,g0,hij,hlo,hhi,own_d,hF⟩
   refine cS ?_
   refine cS ?_
   refine cP 15 hF ?_
   refine sP 3 [nV i,nV j,.bool (decide (((i : Nat) : Int) < ((j : Nat) : Int)))] ?_
   refine sD [(0,.slice ad n cap),(2,nV lm),(4,.func (.func 29) #[] #[]),(14,nV i),(15,nV j),(85,.bool (decide (((i : Nat) : Int) < ((j : Nat) : Int))))] ?_
   clear hF a; intro a hF
   refine tK ?_
   refine cC 85 (decide (((i : Nat) : Int) < ((j : Nat) : Int))) hF (fun hc12 => ?_) (fun hc12 => ?_)
   ·skip
    replace hc12 := of_decide_eq_true hc12
    have hijc : i < j := by omega
    obtain ⟨aa,rfl,hcap_aa⟩ := own_d.someA (by omega)
    refine cN ?_
    refine tK ?_
    refine cB 5 ?_
    refine cS ?_
    refine cP 16 hF ?_
    refine sP 2 [nV i,nV j] ?_
    refine s1 3 (.int .i64 ((i + j : Nat) : Int)) (.int .i64 (IntKind.i64.wrap (((i : Nat) : Int) + ((j : Nat) : Int)))) (congrArg (Value.int .i64) (w64' (by omega) (by omega) (by omega))) ?_
    refine s1 4 (.int .u64 ((i + j : Nat) : Int)) (.int .u64 (IntKind.u64.wrap ((i + j : Nat) : Int))) (congrArg (Value.int .u64) (u64n (by omega))) ?_
    refine s1 5 (.int .u64 (((i + j) / 2 ^ 1 : Nat) : Int)) (.int .u64 (Int.fdiv ((i + j : Nat) : Int) (2 ^ 1))) (congrArg (Value.int .u64) (fdivN (i + j) 1)) ?_
    refine s1 6 (.int .i64 (((i + j) / 2 ^ 1 : Nat) : Int)) (.int .i64 (IntKind.i64.wrap (((i + j) / 2 ^ 1 : Nat) : Int))) (congrArg (Value.int .i64) (w64 (by omega) (by omega))) ?_
    refine sP 7 [nV ((i + j) / 2 ^ 1)] ?_
    refine sD [(0,.slice (some aa) n cap),(2,nV lm),(4,.func (.func 29) #[] #[]),(14,nV i),(15,nV j),(16,nV ((i + j) / 2 ^ 1))] ?_
    clear hF a; intro a hF
    obtain ⟨c,hc⟩ : ∃ x,(i + j) / 2 ^ 1 = x := ⟨_,rfl⟩; rw [hc] at hF
    have hcb : i ≤ c ∧ c < j := by omega
    refine tK ?_
    refine cS ?_
    refine cD [0,0,0,6,14,0,0,96,224,511,1023,2047] 17 mixed hF ?_
    refine mP 7 [0,1,2] [.func (.func 29) #[] #[],.slice (some aa) n cap,nV lm] ?_
    refine mF 15 3 (.pointer (some (Addr.add aa (lm * 39)))) (Calm.indexA (a := aa) (len := n) (sz := 39) (k := ((lm : Nat) : Int)) lm (lm * 39) (by kernel_rfl) rfl (by omega) (by omega)) ?_
    refine mL 31 16 4 (.agg (rcs (L.getD lm rec0)).toArray) (Calm.load (T := 26) (p := (Addr.add aa (lm * 39))) (by kernel_rfl) (Row.fm (d := rec0) (i := lm) rcs_len (own_d.row) (by kernel_rfl) (by omega) (by omega))) ?_
    refine mP 127 [5,6] [.slice (some aa) n cap,nV c] ?_
    refine mF 255 7 (.pointer (some (Addr.add aa (c * 39)))) (Calm.indexA (a := aa) (len := n) (sz := 39) (k := ((c : Nat) : Int)) c (c * 39) (by kernel_rfl) rfl (by omega) (by omega)) ?_
    refine mL 511 272 8 (.agg (rcs (L.getD c rec0)).toArray) (Calm.load (T := 26) (p := (Addr.add aa (c * 39))) (by kernel_rfl) (Row.fm (d := rec0) (i := c) rcs_len (own_d.row) (by kernel_rfl) (by omega) (by omega))) ?_
    refine SimK.eff0 (i := 9) (D' := 1023) (X' := 1023) (by kernel_rfl) (by kernel_rfl) (by kernel_rfl) (by kernel_rfl) (Does.call (f := 29) (args := #[.agg (rcs (L.getD lm rec0)).toArray,.agg (rcs (L.getD c rec0)).toArray]) (by kernel_rfl) (less_sat _ (L.getD lm rec0) (L.getD c rec0))) ?_
    rintro _ h13 ⟨rfl,g⟩
    replace g0 := g0.trans (g.but _)
    replace own_d := own_d.ext g
    clear g
    refine mP 4095 [10,11] [.bool (decide ((cbR (L.getD lm rec0) (L.getD c rec0)) < (0 : Int))),.bool (!(decide ((cbR (L.getD lm rec0) (L.getD c rec0)) < (0 : Int))))] ?_
    refine mD [(0,.slice (some aa) n cap),(2,nV lm),(4,.func (.func 29) #[] #[]),(14,nV i),(15,nV j),(16,nV c),(103,.bool (!(decide ((cbR (L.getD lm rec0) (L.getD c rec0)) < (0 : Int)))))] ?_
    clear hF a; intro a hF
    refine tK ?_
    refine cC 103 (!(decide ((cbR (L.getD lm rec0) (L.getD c rec0)) < (0 : Int)))) hF (fun hc14 => ?_) (fun hc14 => ?_)
    ·skip
     have hlo2 : c + 1 = la ∨ ¬ cbR (L.getD (lm) rec0) (L.getD (c + 1 - 1) rec0) < 0 := .inr (by simpa using hc14)
     have hhi2 := hhi
     refine cP 18 hF ?_
     refine sP 1 [nV c] ?_
     refine s1 2 (.int .i64 ((c + 1 : Nat) : Int)) (.int .i64 (IntKind.i64.wrap (((c : Nat) : Int) + 1))) (congrArg (Value.int .i64) (w64' (by omega) (by omega) (by omega))) ?_
     refine sP 3 [nV (c + 1)] ?_
     refine sD [(0,.slice (some aa) n cap),(2,nV lm),(4,.func (.func 29) #[] #[]),(14,nV (c + 1)),(15,nV j)] ?_
     clear hF a; intro a hF
     show ∃ m',m' < _ ∧ _
     refine ⟨_,?_,c + 1,j,rfl,g0,(by omega),hlo2,hhi2,own_d,hF⟩
     omega
    ·skip
     have hhi2 : c = lm ∨ cbR (L.getD (lm) rec0) (L.getD (c) rec0) < 0 := .inr (by simpa using hc14)
     have hlo2 := hlo
     refine cP 19 hF ?_
     refine sP 2 [nV c,nV c] ?_
     refine sD [(0,.slice (some aa) n cap),(2,nV lm),(4,.func (.func 29) #[] #[]),(14,nV i),(15,nV c)] ?_
     clear hF a; intro a hF
     show ∃ m',m' < _ ∧ _
     refine ⟨_,?_,i,c,rfl,g0,(by omega),hlo2,hhi2,own_d,hF⟩
     omega
   ·skip
    replace hc12 := of_decide_eq_false hc12
    obtain rfl : i = j := by omega
    refine cX 4 ?_
    show C Try.prog (sub b38 [1,0,1,0,1,1,1]) _ a h11
    refine cS ?_
    refine cS ?_
    refine cP 20 hF ?_
    refine sP 2 [nV lm,nV lm] ?_
    refine sD [(0,.slice ad n cap),(14,nV i),(17,nV lm)] ?_
    clear hF a; intro a hF
    refine tK ?_
    refine cB 6 ?_
    refine C.loop (fun m a h' => ∃ k : Nat,∃ M : List Rec,m = k + 1 ∧ (Grew (ad.map (fun (x : Addr) => x.block)) h h') ∧ (i ≤ k ∧ k ≤ lm) ∧ (M.length = n) ∧ (M.Perm L) ∧ (Idx M L (rx lm k)) ∧ (Own h' (.slice ad n cap) 26 n 39 (rrow M)) ∧ (Fr a 220 [(0,.slice ad n cap),(14,.int .i64 ((i : Nat) : Int)),(17,.int .i64 ((k : Nat) : Int))])) (lm + 1) [1,0,1,0,1,1,1,0,1,0,0] (by kernel_rfl) ⟨lm,L,rfl,g0,(by omega),hLn,(List.Perm.refl _),(Idx.refl _ (rx_0 lm)),own_d,hF⟩ ?_
    clear hF a
    clear g0
    clear hLn
    clear own_d
    rintro m a h15 ⟨k,M,rfl,g0,hk,hM,hP,hx,own_d,hF⟩
    refine cS ?_
    refine cS ?_
    refine cP 21 hF ?_
    refine sP 3 [nV k,nV i,.bool (decide (((i : Nat) : Int) < ((k : Nat) : Int)))] ?_
    refine sD [(0,.slice ad n cap),(14,nV i),(17,nV k),(110,.bool (decide (((i : Nat) : Int) < ((k : Nat) : Int))))] ?_
    clear hF a; intro a hF
    refine tK ?_
    refine cC 110 (decide (((i : Nat) : Int) < ((k : Nat) : Int))) hF (fun hc16 => ?_) (fun hc16 => ?_)
    ·skip
     replace hc16 := of_decide_eq_true hc16
     have hkc : i < k := by omega
     obtain ⟨aa,rfl,hcap_aa⟩ := own_d.someA (by omega)
     refine cN ?_
     refine tK ?_
     refine cS ?_
     refine cB 7 ?_
     refine cD [0,0,0,0,8,0,0,64,224,480,0,0,3072,7168,16355,32739,65535,131071] 23 mixed hF ?_
     refine mP 15 [0,1,2,3] [.slice (some aa) n cap,nV k,.slice (some aa) n cap,nV k] ?_
     refine m1 31 4 (.int .i64 ((k - 1 : Nat) : Int)) (.int .i64 (IntKind.i64.wrap (((k : Nat) : Int) - 1))) (congrArg (Value.int .i64) (w64' (by omega) (by omega) (by omega))) ?_
     refine mP 127 [5,6] [.slice (some aa) n cap,nV k] ?_
     refine m1 255 7 (.int .i64 ((k - 1 : Nat) : Int)) (.int .i64 (IntKind.i64.wrap (((k : Nat) : Int) - 1))) (congrArg (Value.int .i64) (w64' (by omega) (by omega) (by omega))) ?_
     refine mF 511 8 (.pointer (some (Addr.add aa ((k - 1) * 39)))) (Calm.indexA (a := aa) (len := n) (sz := 39) (k := ((k - 1 : Nat) : Int)) (k - 1) ((k - 1) * 39) (by kernel_rfl) rfl (by omega) (by omega)) ?_
     refine mL 1023 512 9 (.agg (rcs (M.getD (k - 1) rec0)).toArray) (Calm.load (T := 26) (p := (Addr.add aa ((k - 1) * 39))) (by kernel_rfl) (Row.fm (d := rec0) (i := (k - 1)) rcs_len (own_d.row) (by kernel_rfl) (by omega) (by omega))) ?_
     refine mP 4095 [10,11] [.slice (some aa) n cap,nV k] ?_
     refine mF 8191 12 (.pointer (some (Addr.add aa (k * 39)))) (Calm.indexA (a := aa) (len := n) (sz := 39) (k := ((k : Nat) : Int)) k (k * 39) (by kernel_rfl) rfl (by omega) (by omega)) ?_
     refine mL 16383 8704 13 (.agg (rcs (M.getD k rec0)).toArray) (Calm.load (T := 26) (p := (Addr.add aa (k * 39))) (by kernel_rfl) (Row.fm (d := rec0) (i := k) rcs_len (own_d.row) (by kernel_rfl) (by omega) (by omega))) ?_
     refine mF 32767 14 (.pointer (some (Addr.add aa (k * 39)))) (Calm.indexA (a := aa) (len := n) (sz := 39) (k := ((k : Nat) : Int)) k (k * 39) (by kernel_rfl) rfl (by omega) (by omega)) ?_
     refine SimK.eff0 (i := 15) (D' := 65535) (X' := 65507) (by kernel_rfl) (by kernel_rfl) (by kernel_rfl) (by kernel_rfl) (Does.storeOwn (a := aa) (q := k * 39) (vs := rcs (M.getD (k - 1) rec0)) (by kernel_rfl) own_d (by show _ + 39 ≤ _; omega) (rcs_one _)) ?_
     rintro _ h17 ⟨rfl,ownx,g⟩
     replace g0 := g0.trans g
     rw [fm_set rcs_len (by first | omega | (rw [List.length_set]; omega))] at ownx
     clear own_d; have own_d := ownx; clear ownx g
     refine mF 131071 16 (.pointer (some (Addr.add aa ((k - 1) * 39)))) (Calm.indexA (a := aa) (len := n) (sz := 39) (k := ((k - 1 : Nat) : Int)) (k - 1) ((k - 1) * 39) (by kernel_rfl) rfl (by omega) (by omega)) ?_
     refine SimK.eff0 (i := 17) (D' := 262143) (X' := 262143) (by kernel_rfl) (by kernel_rfl) (by kernel_rfl) (by kernel_rfl) (Does.storeOwn (a := aa) (q := (k - 1) * 39) (vs := rcs (M.getD k rec0)) (by kernel_rfl) own_d (by show _ + 39 ≤ _; omega) (rcs_one _)) ?_
     rintro _ h18 ⟨rfl,ownx,g⟩
     replace g0 := g0.trans g
     rw [fm_set rcs_len (by first | omega | (rw [List.length_set]; omega))] at ownx
     clear own_d; have own_d := ownx; clear ownx g
     refine mD [(0,.slice (some aa) n cap),(14,nV i),(17,nV k)] ?_
     clear hF a; intro a hF
     show C Try.prog (sub b38 [1,0,1,0,1,1,1,0,1,0,0,1,1]) _ a h18
     refine cP 22 hF ?_
     refine sP 1 [nV k] ?_
     refine s1 2 (.int .i64 ((k - 1 : Nat) : Int)) (.int .i64 (IntKind.i64.wrap (((k : Nat) : Int) - 1))) (congrArg (Value.int .i64) (w64' (by omega) (by omega) (by omega))) ?_
     refine sP 3 [nV (k - 1)] ?_
     refine sD [(0,.slice (some aa) n cap),(14,nV i),(17,nV (k - 1))] ?_
     clear hF a; intro a hF
     show ∃ m',m' < _ ∧ _
     refine ⟨_,?_,k - 1,(swp2 M k (k - 1)),rfl,g0,(by omega),((swp2_length M _ _).trans hM),((swp2_perm (by omega) (by omega)).trans hP),(hx.swp (by omega) (by omega) (rx_next (by omega) (by omega))),own_d,hF⟩
     omega
    ·skip
     replace hc16 := of_decide_eq_false hc16
     refine cX 6 ?_
     show C Try.prog (sub b38 [1,0,1,0,1,1,1,1]) _ a h15
     refine cR ?_
     show retK Try.prog Try.f38 (fun _ h' => ∃ M,Mgd n la lb L M ∧ Own h' (.slice ad n cap) 26 n 39 (rrow M) ∧ Grew (ad.map (fun (x : Addr) => x.block)) h h') .ret a h15
     refine ret_ok [] [] (.tuple #[]) rfl hF trivial rfl ?_
     exact ⟨M,by have z := sym2 hM hP hx (by omega) hs1 (by omega) (by omega) hlo hhi; rwa [← hm1] at z,own_d,g0⟩
  ·skip
   replace hc10 := of_decide_eq_false hc10
   refine cN ?_
   refine tK ?_
   refine cS ?_
   refine cP 24 hF ?_
   refine sP 2 [nV la,nV lb] ?_
   refine s1 3 (.int .i64 ((la + lb : Nat) : Int)) (.int .i64 (IntKind.i64.wrap (((la : Nat) : Int) + ((lb : Nat) : Int)))) (congrArg (Value.int .i64) (w64' (by omega) (by omega) (by omega))) ?_
   refine s1 4 (.int .u64 ((la + lb : Nat) : Int)) (.int .u64 (IntKind.u64.wrap ((la + lb : Nat) : Int))) (congrArg (Value.int .u64) (u64n (by omega))) ?_
   refine s1 5 (.int .u64 (((la + lb) / 2 ^ 1 : Nat) : Int)) (.int .u64 (Int.fdiv ((la + lb : Nat) : Int) (2 ^ 1))) (congrArg (Value.int .u64) (fdivN (la + lb) 1)) ?_
   refine s1 6 (.int .i64 (((la + lb) / 2 ^ 1 : Nat) : Int)) (.int .i64 (IntKind.i64.wrap (((la + lb) / 2 ^ 1 : Nat) : Int))) (congrArg (Value.int .i64) (w64 (by omega) (by omega))) ?_
   refine sP 7 [nV ((la + lb) / 2 ^ 1)] ?_
   refine sD [(0,.slice ad n cap),(1,nV la),(2,nV lm),(3,nV lb),(4,.func (.func 29) #[] #[]),(18,nV ((la + lb) / 2 ^ 1))] ?_
   clear hF a; intro a hF
   obtain ⟨mid,hmid⟩ : ∃ x,(la + lb) / 2 ^ 1 = x := ⟨_,rfl⟩; rw [hmid] at hF
   have hmb : la < mid ∧ mid < lb := by omega
   refine tK ?_
   refine cS ?_
   refine cP 25 hF ?_
   refine sP 2 [nV mid,nV lm] ?_
   refine s1 3 (.int .i64 ((mid + lm : Nat) : Int)) (.int .i64 (IntKind.i64.wrap (((mid : Nat) : Int) + ((lm : Nat) : Int)))) (congrArg (Value.int .i64) (w64' (by omega) (by omega) (by omega))) ?_
   refine sP 4 [nV (mid + lm)] ?_
   refine sD [(0,.slice ad n cap),(1,nV la),(2,nV lm),(3,nV lb),(4,.func (.func 29) #[] #[]),(18,nV mid),(19,nV (mid + lm))] ?_
   clear hF a; intro a hF
   refine tK ?_
   refine cS ?_
   refine cP 26 hF ?_
   refine sP 2 [.int .i64 0,.int .i64 0] ?_
   refine sD [(0,.slice ad n cap),(1,nV la),(2,nV lm),(3,nV lb),(4,.func (.func 29) #[] #[]),(18,nV mid),(19,nV (mid + lm))] ?_
   clear hF a; intro a hF
   refine tK ?_
   refine cS ?_
   refine cS ?_
   refine cP 27 hF ?_
   refine sP 3 [nV lm,nV mid,.bool (decide (((mid : Nat) : Int) < ((lm : Nat) : Int)))] ?_
   refine sD [(0,.slice ad n cap),(1,nV la),(2,nV lm),(3,nV lb),(4,.func (.func 29) #[] #[]),(18,nV mid),(19,nV (mid + lm)),(140,.bool (decide (((mid : Nat) : Int) < ((lm : Nat) : Int))))] ?_
   clear hF a; intro a hF
   refine tK ?_
   refine cC 140 (decide (((mid : Nat) : Int) < ((lm : Nat) : Int))) hF (fun hc19 => ?_) (fun hc19 => ?_)
   ·skip
    replace hc19 := of_decide_eq_true hc19
    refine cS ?_
    refine cP 28 hF ?_
    refine sP 2 [nV (mid + lm),nV lb] ?_
    refine s1 3 (.int .i64 (((mid + lm) - lb : Nat) : Int)) (.int .i64 (IntKind.i64.wrap (((mid + lm : Nat) : Int) - ((lb : Nat) : Int)))) (congrArg (Value.int .i64) (w64' (by omega) (by omega) (by omega))) ?_
    refine sP 4 [nV ((mid + lm) - lb)] ?_
    refine sD [(0,.slice ad n cap),(1,nV la),(2,nV lm),(3,nV lb),(4,.func (.func 29) #[] #[]),(18,nV mid),(19,nV (mid + lm)),(20,nV ((mid + lm) - lb))] ?_
    clear hF a; intro a hF
    refine tK ?_
    refine cP 29 hF ?_
    refine sP 2 [nV mid,nV mid] ?_
    refine sD [(0,.slice ad n cap),(1,nV la),(2,nV lm),(3,nV lb),(4,.func (.func 29) #[] #[]),(18,nV mid),(19,nV (mid + lm)),(20,nV ((mid + lm) - lb)),(21,nV mid)] ?_
    clear hF a; intro a hF
    refine tK ?_
    refine cS ?_
    refine cP 32 hF ?_
    refine sP 1 [nV (mid + lm)] ?_
    refine s1 2 (.int .i64 (((mid + lm) - 1 : Nat) : Int)) (.int .i64 (IntKind.i64.wrap (((mid + lm : Nat) : Int) - 1))) (congrArg (Value.int .i64) (w64' (by omega) (by omega) (by omega))) ?_
    refine sP 3 [nV ((mid + lm) - 1)] ?_
    refine sD [(0,.slice ad n cap),(1,nV la),(2,nV lm),(3,nV lb),(4,.func (.func 29) #[] #[]),(18,nV mid),(19,nV (mid + lm)),(20,nV ((mid + lm) - lb)),(21,nV mid),(22,nV ((mid + lm) - 1))] ?_
    clear hF a; intro a hF
    obtain ⟨s0,hs0⟩ : ∃ x,(mid + lm) - lb = x := ⟨_,rfl⟩; obtain ⟨r0,hr0⟩ : ∃ x,mid = x := ⟨_,rfl⟩
    have hsr : (mid < lm ∧ s0 + lb = mid + lm ∧ r0 = mid) ∨ (lm ≤ mid ∧ s0 = la ∧ r0 = lm) := by omega
    have hsle : s0 ≤ r0 := by omega
    refine tK ?_
    refine cS ?_
    refine cB 8 ?_
    refine C.loop (fun m a h' => ∃ i : Nat,∃ j : Nat,m = j - i ∧ (Grew (ad.map (fun (x : Addr) => x.block)) h h') ∧ (s0 ≤ i ∧ i ≤ j ∧ j ≤ r0) ∧ (i = s0 ∨ ¬ cbR (L.getD (mid + lm - 1 - (i - 1)) rec0) (L.getD (i - 1) rec0) < 0) ∧ (j = r0 ∨ cbR (L.getD (mid + lm - 1 - (j)) rec0) (L.getD (j) rec0) < 0) ∧ (Own h' (.slice ad n cap) 26 n 39 (rrow L)) ∧ (Fr a 220 [(0,.slice ad n cap),(1,.int .i64 ((la : Nat) : Int)),(2,.int .i64 ((lm : Nat) : Int)),(3,.int .i64 ((lb : Nat) : Int)),(4,.func (.func 29) #[] #[]),(18,.int .i64 ((mid : Nat) : Int)),(19,.int .i64 ((mid + lm : Nat) : Int)),(20,.int .i64 ((i : Nat) : Int)),(21,.int .i64 ((j : Nat) : Int)),(22,.int .i64 (((mid + lm) - 1 : Nat) : Int))])) (mid - ((mid + lm) - lb)) [1,1,1,1,1,1,1,0,0,0] (by kernel_rfl) ⟨(mid + lm) - lb,mid,rfl,g0,(by omega),(.inl (by omega)),(.inl (by omega)),own_d,hF⟩ ?_
    clear hF a
    clear g0
    clear own_d
    rintro m a h20 ⟨i,j,rfl,g0,hij,hlo,hhi,own_d,hF⟩
    refine cS ?_
    refine cS ?_
    refine cP 33 hF ?_
    refine sP 3 [nV i,nV j,.bool (decide (((i : Nat) : Int) < ((j : Nat) : Int)))] ?_
    refine sD [(0,.slice ad n cap),(1,nV la),(2,nV lm),(3,nV lb),(4,.func (.func 29) #[] #[]),(18,nV mid),(19,nV (mid + lm)),(20,nV i),(21,nV j),(22,nV ((mid + lm) - 1)),(151,.bool (decide (((i : Nat) : Int) < ((j : Nat) : Int))))] ?_
    clear hF a; intro a hF
    refine tK ?_
    refine cC 151 (decide (((i : Nat) : Int) < ((j : Nat) : Int))) hF (fun hc21 => ?_) (fun hc21 => ?_)
    ·skip
     replace hc21 := of_decide_eq_true hc21
     have hijc : i < j := by omega
     obtain ⟨aa,rfl,hcap_aa⟩ := own_d.someA (by omega)
     refine cN ?_
     refine tK ?_
     refine cB 9 ?_
     refine cS ?_
     refine cP 34 hF ?_
     refine sP 2 [nV i,nV j] ?_
     refine s1 3 (.int .i64 ((i + j : Nat) : Int)) (.int .i64 (IntKind.i64.wrap (((i : Nat) : Int) + ((j : Nat) : Int)))) (congrArg (Value.int .i64) (w64' (by omega) (by omega) (by omega))) ?_
     refine s1 4 (.int .u64 ((i + j : Nat) : Int)) (.int .u64 (IntKind.u64.wrap ((i + j : Nat) : Int))) (congrArg (Value.int .u64) (u64n (by omega))) ?_
     refine s1 5 (.int .u64 (((i + j) / 2 ^ 1 : Nat) : Int)) (.int .u64 (Int.fdiv ((i + j : Nat) : Int) (2 ^ 1))) (congrArg (Value.int .u64) (fdivN (i + j) 1)) ?_
     refine s1 6 (.int .i64 (((i + j) / 2 ^ 1 : Nat) : Int)) (.int .i64 (IntKind.i64.wrap (((i + j) / 2 ^ 1 : Nat) : Int))) (congrArg (Value.int .i64) (w64 (by omega) (by omega))) ?_
     refine sP 7 [nV ((i + j) / 2 ^ 1)] ?_
     refine sD [(0,.slice (some aa) n cap),(1,nV la),(2,nV lm),(3,nV lb),(4,.func (.func 29) #[] #[]),(18,nV mid),(19,nV (mid + lm)),(20,nV i),(21,nV j),(22,nV ((mid + lm) - 1)),(23,nV ((i + j) / 2 ^ 1))] ?_
     clear hF a; intro a hF
     obtain ⟨c,hc⟩ : ∃ x,(i + j) / 2 ^ 1 = x := ⟨_,rfl⟩; rw [hc] at hF
     have hcb : i ≤ c ∧ c < j := by omega
     refine tK ?_
     refine cS ?_
     refine cD [0,0,0,0,12,30,62,0,0,384,896,2047,4095,8191] 35 mixed hF ?_
     refine mP 15 [0,1,2,3] [.func (.func 29) #[] #[],.slice (some aa) n cap,nV ((mid + lm) - 1),nV c] ?_
     refine m1 31 4 (.int .i64 ((((mid + lm) - 1) - c : Nat) : Int)) (.int .i64 (IntKind.i64.wrap ((((mid + lm) - 1 : Nat) : Int) - ((c : Nat) : Int)))) (congrArg (Value.int .i64) (w64' (by omega) (by omega) (by omega))) ?_
     refine mF 63 5 (.pointer (some (Addr.add aa ((((mid + lm) - 1) - c) * 39)))) (Calm.indexA (a := aa) (len := n) (sz := 39) (k := ((((mid + lm) - 1) - c : Nat) : Int)) (((mid + lm) - 1) - c) ((((mid + lm) - 1) - c) * 39) (by kernel_rfl) rfl (by omega) (by omega)) ?_
     refine mL 127 64 6 (.agg (rcs (L.getD (((mid + lm) - 1) - c) rec0)).toArray) (Calm.load (T := 26) (p := (Addr.add aa ((((mid + lm) - 1) - c) * 39))) (by kernel_rfl) (Row.fm (d := rec0) (i := (((mid + lm) - 1) - c)) rcs_len (own_d.row) (by kernel_rfl) (by omega) (by omega))) ?_
     refine mP 511 [7,8] [.slice (some aa) n cap,nV c] ?_
     refine mF 1023 9 (.pointer (some (Addr.add aa (c * 39)))) (Calm.indexA (a := aa) (len := n) (sz := 39) (k := ((c : Nat) : Int)) c (c * 39) (by kernel_rfl) rfl (by omega) (by omega)) ?_
     refine mL 2047 1088 10 (.agg (rcs (L.getD c rec0)).toArray) (Calm.load (T := 26) (p := (Addr.add aa (c * 39))) (by kernel_rfl) (Row.fm (d := rec0) (i := c) rcs_len (own_d.row) (by kernel_rfl) (by omega) (by omega))) ?_
     refine SimK.eff0 (i := 11) (D' := 4095) (X' := 4095) (by kernel_rfl) (by kernel_rfl) (by kernel_rfl) (by kernel_rfl) (Does.call (f := 29) (args := #[.agg (rcs (L.getD (((mid + lm) - 1) - c) rec0)).toArray,.agg (rcs (L.getD c rec0)).toArray]) (by kernel_rfl) (less_sat _ (L.getD (((mid + lm) - 1) - c) rec0) (L.getD c rec0))) ?_
     rintro _ h22 ⟨rfl,g⟩
     replace g0 := g0.trans (g.but _)
     replace own_d := own_d.ext g
     clear g
     refine mP 16383 [12,13] [.bool (decide ((cbR (L.getD (((mid + lm) - 1) - c) rec0) (L.getD c rec0)) < (0 : Int))),.bool (!(decide ((cbR (L.getD (((mid + lm) - 1) - c) rec0) (L.getD c rec0)) < (0 : Int))))] ?_
     refine mD [(0,.slice (some aa) n cap),(1,nV la),(2,nV lm),(3,nV lb),(4,.func (.func 29) #[] #[]),(18,nV mid),(19,nV (mid + lm)),(20,nV i),(21,nV j),(22,nV ((mid + lm) - 1)),(23,nV c),(171,.bool (!(decide ((cbR (L.getD (((mid + lm) - 1) - c) rec0) (L.getD c rec0)) < (0 : Int)))))] ?_
     clear hF a; intro a hF
     refine tK ?_
     refine cC 171 (!(decide ((cbR (L.getD (((mid + lm) - 1) - c) rec0) (L.getD c rec0)) < (0 : Int)))) hF (fun hc23 => ?_) (fun hc23 => ?_)
     ·skip
      have hlo2 : c + 1 = s0 ∨ ¬ cbR (L.getD (mid + lm - 1 - (c + 1 - 1)) rec0) (L.getD (c + 1 - 1) rec0) < 0 := .inr (by rw [show mid + lm - 1 - (c + 1 - 1) = mid + lm - 1 - c by omega]; simpa using hc23)
      have hhi2 := hhi
      refine cP 36 hF ?_
      refine sP 1 [nV c] ?_
      refine s1 2 (.int .i64 ((c + 1 : Nat) : Int)) (.int .i64 (IntKind.i64.wrap (((c : Nat) : Int) + 1))) (congrArg (Value.int .i64) (w64' (by omega) (by omega) (by omega))) ?_
      refine sP 3 [nV (c + 1)] ?_
      refine sD [(0,.slice (some aa) n cap),(1,nV la),(2,nV lm),(3,nV lb),(4,.func (.func 29) #[] #[]),(18,nV mid),(19,nV (mid + lm)),(20,nV (c + 1)),(21,nV j),(22,nV ((mid + lm) - 1))] ?_
      clear hF a; intro a hF
      show ∃ m',m' < _ ∧ _
      refine ⟨_,?_,c + 1,j,rfl,g0,(by omega),hlo2,hhi2,own_d,hF⟩
      omega
     ·skip
      have hhi2 : c = r0 ∨ cbR (L.getD (mid + lm - 1 - (c)) rec0) (L.getD (c) rec0) < 0 := .inr (by simpa using hc23)
      have hlo2 := hlo
      refine cP 37 hF ?_
      refine sP 2 [nV c,nV c] ?_
      refine sD [(0,.slice (some aa) n cap),(1,nV la),(2,nV lm),(3,nV lb),(4,.func (.func 29) #[] #[]),(18,nV mid),(19,nV (mid + lm)),(20,nV i),(21,nV c),(22,nV ((mid + lm) - 1))] ?_
      clear hF a; intro a hF
      show ∃ m',m' < _ ∧ _
      refine ⟨_,?_,i,c,rfl,g0,(by omega),hlo2,hhi2,own_d,hF⟩
      omega
    ·skip
     replace hc21 := of_decide_eq_false hc21
     obtain rfl : i = j := by omega
     refine cX 8 ?_
     show C Try.prog (sub b38 [1,1,1,1,1,1,1,1]) _ a h20
     refine cS ?_
     refine cP 38 hF ?_
     refine sP 2 [nV (mid + lm),nV i] ?_
     refine s1 3 (.int .i64 (((mid + lm) - i : Nat) : Int)) (.int .i64 (IntKind.i64.wrap (((mid + lm : Nat) : Int) - ((i : Nat) : Int)))) (congrArg (Value.int .i64) (w64' (by omega) (by omega) (by omega))) ?_
     refine sP 4 [nV ((mid + lm) - i)] ?_
     refine sD [(0,.slice ad n cap),(1,nV la),(2,nV lm),(3,nV lb),(4,.func (.func 29) #[] #[]),(18,nV mid),(20,nV i),(24,nV ((mid + lm) - i))] ?_
     clear hF a; intro a hF
     obtain ⟨e,he⟩ : ∃ x,(mid + lm) - i = x := ⟨_,rfl⟩; rw [he] at hF
     have ham : la ≤ i ∧ i ≤ lm ∧ lm ≤ e ∧ e ≤ lb ∧ i ≤ mid ∧ mid ≤ e ∧ i + e = mid + lm := by omega
     have hlo3 : i = la ∨ e = lb ∨ leR (L.getD (i - 1) rec0) (L.getD e rec0) := by
      rcases hlo with z | z
      ·omega
      ·by_cases hi0 : i = la
       ·exact .inl hi0
       ·rw [show mid + lm - 1 - (i - 1) = e by omega] at z; exact .inr (.inr (leR_of_not z))
     have hhi3 : i = lm ∨ i = mid ∨ leR (L.getD (e - 1) rec0) (L.getD i rec0) := by
      rcases hhi with z | z
      ·omega
      ·rw [show mid + lm - 1 - i = e - 1 by omega] at z; exact .inr (.inr (leR_of_lt z))
     refine tK ?_
     refine cS ?_
     refine cS ?_
     rcases Nat.lt_or_ge i lm with hc1 | hc1
     rcases Nat.lt_or_ge lm e with hc2 | hc2
     ·skip
      refine cP 39 hF ?_
      refine sP 2 [nV i,nV lm] ?_
      refine s1 3 (.bool true) (.bool (decide (((i : Nat) : Int) < ((lm : Nat) : Int)))) (congrArg Value.bool (decide_eq_true (by omega))) ?_
      refine sP 6 [.bool true,nV lm,nV e] ?_
      refine s1 7 (.bool true) (.bool (decide (((lm : Nat) : Int) < ((e : Nat) : Int)))) (congrArg Value.bool (decide_eq_true (by omega))) ?_
      refine sP 8 [.bool true] ?_
      refine sD [(0,.slice ad n cap),(1,nV la),(2,nV lm),(3,nV lb),(4,.func (.func 29) #[] #[]),(18,nV mid),(20,nV i),(24,nV e),(185,.bool true)] ?_
      clear hF a; intro a hF
      refine tK ?_
      refine cT 185 hF ?_
      refine cP 40 hF ?_
      refine sP 5 [.slice ad n cap,nV i,nV lm,nV e,.func (.func 29) #[] #[]] ?_
      refine SeqK.eff (k' := 6) (Does.call (f := 40) (args := #[.slice ad n cap,.int .i64 ((i : Nat) : Int),.int .i64 ((lm : Nat) : Int),.int .i64 ((e : Nat) : Int),.func (.func 29) #[] #[]]) (by kernel_rfl) (rot_sat _ ad cap n i lm e L own_d hLn (by omega) (by omega) (by omega) (by omega))) rfl ?_
      rintro _ h25 ⟨K24,hM,hP,hx,ownx,g⟩
      replace g0 := g0.trans g
      clear own_d; have own_d := ownx; clear ownx g
      have hcut : Cut n la lm lb mid i e L K24 := ⟨hM,hP,hx,hs1,hs2,ham,hlo3,hhi3⟩
      refine sD [(0,.slice ad n cap),(1,nV la),(3,nV lb),(4,.func (.func 29) #[] #[]),(18,nV mid),(20,nV i),(24,nV e)] ?_
      clear hF a; intro a hF
      refine tK ?_
      refine cS ?_
      refine cS ?_
      rcases Nat.lt_or_ge la i with hc1 | hc1
      rcases Nat.lt_or_ge i mid with hc2 | hc2
      ·skip
       refine cP 41 hF ?_
       refine sP 2 [nV la,nV i] ?_
       refine s1 3 (.bool true) (.bool (decide (((la : Nat) : Int) < ((i : Nat) : Int)))) (congrArg Value.bool (decide_eq_true (by omega))) ?_
       refine sP 6 [.bool true,nV i,nV mid] ?_
       refine s1 7 (.bool true) (.bool (decide (((i : Nat) : Int) < ((mid : Nat) : Int)))) (congrArg Value.bool (decide_eq_true (by omega))) ?_
       refine sP 8 [.bool true] ?_
       refine sD [(0,.slice ad n cap),(1,nV la),(3,nV lb),(4,.func (.func 29) #[] #[]),(18,nV mid),(20,nV i),(24,nV e),(199,.bool true)] ?_
       clear hF a; intro a hF
       refine tK ?_
       refine cT 199 hF ?_
       refine cP 42 hF ?_
       refine sP 5 [.slice ad n cap,nV la,nV i,nV mid,.func (.func 29) #[] #[]] ?_
       refine SeqK.eff (k' := 6) (Does.call (f := 38) (args := #[.slice ad n cap,.int .i64 ((la : Nat) : Int),.int .i64 ((i : Nat) : Int),.int .i64 ((mid : Nat) : Int),.func (.func 29) #[] #[]]) (by kernel_rfl) (ih _ la i mid K24 (by omega) own_d hcut.len (by omega) (by omega) (by omega) hcut.r1 hcut.r2)) rfl ?_
       rintro _ h27 ⟨K26,hk,ownx,g⟩
       replace g0 := g0.trans g
       clear own_d; have own_d := ownx; clear ownx g
       refine sD [(0,.slice ad n cap),(3,nV lb),(4,.func (.func 29) #[] #[]),(18,nV mid),(24,nV e)] ?_
       clear hF a; intro a hF
       refine tK ?_
       refine cS ?_
       rcases Nat.lt_or_ge mid e with hc1 | hc1
       rcases Nat.lt_or_ge e lb with hc2 | hc2
       ·skip
        refine cP 43 hF ?_
        refine sP 2 [nV mid,nV e] ?_
        refine s1 3 (.bool true) (.bool (decide (((mid : Nat) : Int) < ((e : Nat) : Int)))) (congrArg Value.bool (decide_eq_true (by omega))) ?_
        refine sP 6 [.bool true,nV e,nV lb] ?_
        refine s1 7 (.bool true) (.bool (decide (((e : Nat) : Int) < ((lb : Nat) : Int)))) (congrArg Value.bool (decide_eq_true (by omega))) ?_
        refine sP 8 [.bool true] ?_
        refine sD [(0,.slice ad n cap),(3,nV lb),(4,.func (.func 29) #[] #[]),(18,nV mid),(24,nV e),(213,.bool true)] ?_
        clear hF a; intro a hF
        refine tK ?_
        refine cT 213 hF ?_
        refine cP 44 hF ?_
        refine sP 5 [.slice ad n cap,nV mid,nV e,nV lb,.func (.func 29) #[] #[]] ?_
        refine SeqK.eff (k' := 6) (Does.call (f := 38) (args := #[.slice ad n cap,.int .i64 ((mid : Nat) : Int),.int .i64 ((e : Nat) : Int),.int .i64 ((lb : Nat) : Int),.func (.func 29) #[] #[]]) (by kernel_rfl) (ih _ mid e lb K26 (by omega) own_d hk.len (by omega) (by omega) (by omega) (hcut.sort hk).1 (hcut.sort hk).2)) rfl ?_
        rintro _ h29 ⟨K28,hj,ownx,g⟩
        replace g0 := g0.trans g
        clear own_d; have own_d := ownx; clear ownx g
        refine sD [] ?_
        clear hF a; intro a hF
        show retK Try.prog Try.f38 (fun _ h' => ∃ M,Mgd n la lb L M ∧ Own h' (.slice ad n cap) 26 n 39 (rrow M) ∧ Grew (ad.map (fun (x : Addr) => x.block)) h h') .normal a h29
        refine ret_okN [] [] (.tuple #[]) rfl hF trivial rfl ?_
        exact ⟨K28,hcut.done hk hj,own_d,g0⟩
       ·skip
        have hj := hcut.right hk (by omega)
        refine cP 43 hF ?_
        refine sP 2 [nV mid,nV e] ?_
        refine s1 3 (.bool true) (.bool (decide (((mid : Nat) : Int) < ((e : Nat) : Int)))) (congrArg Value.bool (decide_eq_true (by omega))) ?_
        refine sP 6 [.bool true,nV e,nV lb] ?_
        refine s1 7 (.bool false) (.bool (decide (((e : Nat) : Int) < ((lb : Nat) : Int)))) (congrArg Value.bool (decide_eq_false (by omega))) ?_
        refine sP 8 [.bool false] ?_
        refine sD [(0,.slice ad n cap),(3,nV lb),(4,.func (.func 29) #[] #[]),(18,nV mid),(24,nV e),(213,.bool false)] ?_
        clear hF a; intro a hF
        refine tK ?_
        refine cF 213 hF ?_
        refine cN ?_
        show retK Try.prog Try.f38 (fun _ h' => ∃ M,Mgd n la lb L M ∧ Own h' (.slice ad n cap) 26 n 39 (rrow M) ∧ Grew (ad.map (fun (x : Addr) => x.block)) h h') .normal a h27
        refine ret_okN [] [] (.tuple #[]) rfl hF trivial rfl ?_
        exact ⟨K26,hcut.done hk hj,own_d,g0⟩
       ·skip
        have hj := hcut.right hk (by omega)
        refine cP 43 hF ?_
        refine sP 2 [nV mid,nV e] ?_
        refine s1 3 (.bool false) (.bool (decide (((mid : Nat) : Int) < ((e : Nat) : Int)))) (congrArg Value.bool (decide_eq_false (by omega))) ?_
        refine sP 8 [.bool false,undef,undef,undef,.bool false] ?_
        refine sD [(0,.slice ad n cap),(3,nV lb),(4,.func (.func 29) #[] #[]),(18,nV mid),(24,nV e),(213,.bool false)] ?_
        clear hF a; intro a hF
        refine tK ?_
        refine cF 213 hF ?_
        refine cN ?_
        show retK Try.prog Try.f38 (fun _ h' => ∃ M,Mgd n la lb L M ∧ Own h' (.slice ad n cap) 26 n 39 (rrow M) ∧ Grew (ad.map (fun (x : Addr) => x.block)) h h') .normal a h27
        refine ret_okN [] [] (.tuple #[]) rfl hF trivial rfl ?_
        exact ⟨K26,hcut.done hk hj,own_d,g0⟩
      ·skip
       have hk := hcut.left (by omega)
       refine cP 41 hF ?_
       refine sP 2 [nV la,nV i] ?_
       refine s1 3 (.bool true) (.bool (decide (((la : Nat) : Int) < ((i : Nat) : Int)))) (congrArg Value.bool (decide_eq_true (by omega))) ?_
       refine sP 6 [.bool true,nV i,nV mid] ?_
       refine s1 7 (.bool false) (.bool (decide (((i : Nat) : Int) < ((mid : Nat) : Int)))) (congrArg Value.bool (decide_eq_false (by omega))) ?_
       refine sP 8 [.bool false] ?_
       refine sD [(0,.slice ad n cap),(1,nV la),(3,nV lb),(4,.func (.func 29) #[] #[]),(18,nV mid),(20,nV i),(24,nV e),(199,.bool false)] ?_
       clear hF a; intro a hF
       refine tK ?_
       refine cF 199 hF ?_
       refine cN ?_
       refine tK ?_
       refine cS ?_
       rcases Nat.lt_or_ge mid e with hc1 | hc1
       rcases Nat.lt_or_ge e lb with hc2 | hc2
       ·skip
        refine cP 43 hF ?_
        refine sP 2 [nV mid,nV e] ?_
        refine s1 3 (.bool true) (.bool (decide (((mid : Nat) : Int) < ((e : Nat) : Int)))) (congrArg Value.bool (decide_eq_true (by omega))) ?_
        refine sP 6 [.bool true,nV e,nV lb] ?_
        refine s1 7 (.bool true) (.bool (decide (((e : Nat) : Int) < ((lb : Nat) : Int)))) (congrArg Value.bool (decide_eq_true (by omega))) ?_
        refine sP 8 [.bool true] ?_
        refine sD [(0,.slice ad n cap),(3,nV lb),(4,.func (.func 29) #[] #[]),(18,nV mid),(24,nV e),(213,.bool true)] ?_
        clear hF a; intro a hF
        refine tK ?_
        refine cT 213 hF ?_
        refine cP 44 hF ?_
        refine sP 5 [.slice ad n cap,nV mid,nV e,nV lb,.func (.func 29) #[] #[]] ?_
        refine SeqK.eff (k' := 6) (Does.call (f := 38) (args := #[.slice ad n cap,.int .i64 ((mid : Nat) : Int),.int .i64 ((e : Nat) : Int),.int .i64 ((lb : Nat) : Int),.func (.func 29) #[] #[]]) (by kernel_rfl) (ih _ mid e lb K24 (by omega) own_d hk.len (by omega) (by omega) (by omega) (hcut.sort hk).1 (hcut.sort hk).2)) rfl ?_
        rintro _ h31 ⟨K30,hj,ownx,g⟩
        replace g0 := g0.trans g
        clear own_d; have own_d := ownx; clear ownx g
        refine sD [] ?_
        clear hF a; intro a hF
        show retK Try.prog Try.f38 (fun _ h' => ∃ M,Mgd n la lb L M ∧ Own h' (.slice ad n cap) 26 n 39 (rrow M) ∧ Grew (ad.map (fun (x : Addr) => x.block)) h h') .normal a h31
        refine ret_okN [] [] (.tuple #[]) rfl hF trivial rfl ?_
        exact ⟨K30,hcut.done hk hj,own_d,g0⟩
       ·skip
        have hj := hcut.right hk (by omega)
        refine cP 43 hF ?_
        refine sP 2 [nV mid,nV e] ?_
        refine s1 3 (.bool true) (.bool (decide (((mid : Nat) : Int) < ((e : Nat) : Int)))) (congrArg Value.bool (decide_eq_true (by omega))) ?_
        refine sP 6 [.bool true,nV e,nV lb] ?_
        refine s1 7 (.bool false) (.bool (decide (((e : Nat) : Int) < ((lb : Nat) : Int)))) (congrArg Value.bool (decide_eq_false (by omega))) ?_
        refine sP 8 [.bool false] ?_
        refine sD [(0,.slice ad n cap),(3,nV lb),(4,.func (.func 29) #[] #[]),(18,nV mid),(24,nV e),(213,.bool false)] ?_
        clear hF a; intro a hF
        refine tK ?_
        refine cF 213 hF ?_
        refine cN ?_
        show retK Try.prog Try.f38 (fun _ h' => ∃ M,Mgd n la lb L M ∧ Own h' (.slice ad n cap) 26 n 39 (rrow M) ∧ Grew (ad.map (fun (x : Addr) => x.block)) h h') .normal a h25
        refine ret_okN [] [] (.tuple #[]) rfl hF trivial rfl ?_
        exact ⟨K24,hcut.done hk hj,own_d,g0⟩
       ·skip
        have hj := hcut.right hk (by omega)
        refine cP 43 hF ?_
        refine sP 2 [nV mid,nV e] ?_
        refine s1 3 (.bool false) (.bool (decide (((mid : Nat) : Int) < ((e : Nat) : Int)))) (congrArg Value.bool (decide_eq_false (by omega))) ?_
        refine sP 8 [.bool false,undef,undef,undef,.bool false] ?_
        refine sD [(0,.slice ad n cap),(3,nV lb),(4,.func (.func 29) #[] #[]),(18,nV mid),(24,nV e),(213,.bool false)] ?_
        clear hF a; intro a hF
        refine tK ?_
        refine cF 213 hF ?_
        refine cN ?_
        show retK Try.prog Try.f38 (fun _ h' => ∃ M,Mgd n la lb L M ∧ Own h' (.slice ad n cap) 26 n 39 (rrow M) ∧ Grew (ad.map (fun (x : Addr) => x.block)) h h') .normal a h25
        refine ret_okN [] [] (.tuple #[]) rfl hF trivial rfl ?_
        exact ⟨K24,hcut.done hk hj,own_d,g0⟩
      ·skip
       have hk := hcut.left (by omega)
       refine cP 41 hF ?_
       refine sP 2 [nV la,nV i] ?_
       refine s1 3 (.bool false) (.bool (decide (((la : Nat) : Int) < ((i : Nat) : Int)))) (congrArg Value.bool (decide_eq_false (by omega))) ?_
       refine sP 8 [.bool false,undef,undef,undef,.bool false] ?_
       refine sD [(0,.slice ad n cap),(1,nV la),(3,nV lb),(4,.func (.func 29) #[] #[]),(18,nV mid),(20,nV i),(24,nV e),(199,.bool false)] ?_
       clear hF a; intro a hF
       refine tK ?_
       refine cF 199 hF ?_
       refine cN ?_
       refine tK ?_
       refine cS ?_
       rcases Nat.lt_or_ge mid e with hc1 | hc1
       rcases Nat.lt_or_ge e lb with hc2 | hc2
       ·skip
        refine cP 43 hF ?_
        refine sP 2 [nV mid,nV e] ?_
        refine s1 3 (.bool true) (.bool (decide (((mid : Nat) : Int) < ((e : Nat) : Int)))) (congrArg Value.bool (decide_eq_true (by omega))) ?_
        refine sP 6 [.bool true,nV e,nV lb] ?_
        refine s1 7 (.bool true) (.bool (decide (((e : Nat) : Int) < ((lb : Nat) : Int)))) (congrArg Value.bool (decide_eq_true (by omega))) ?_
        refine sP 8 [.bool true] ?_
        refine sD [(0,.slice ad n cap),(3,nV lb),(4,.func (.func 29) #[] #[]),(18,nV mid),(24,nV e),(213,.bool true)] ?_
        clear hF a; intro a hF
        refine tK ?_
        refine cT 213 hF ?_
        refine cP 44 hF ?_
        refine sP 5 [.slice ad n cap,nV mid,nV e,nV lb,.func (.func 29) #[] #[]] ?_
        refine SeqK.eff (k' := 6) (Does.call (f := 38) (args := #[.slice ad n cap,.int .i64 ((mid : Nat) : Int),.int .i64 ((e : Nat) : Int),.int .i64 ((lb : Nat) : Int),.func (.func 29) #[] #[]]) (by kernel_rfl) (ih _ mid e lb K24 (by omega) own_d hk.len (by omega) (by omega) (by omega) (hcut.sort hk).1 (hcut.sort hk).2)) rfl ?_
        rintro _ h33 ⟨K32,hj,ownx,g⟩
        replace g0 := g0.trans g
        clear own_d; have own_d := ownx; clear ownx g
        refine sD [] ?_
        clear hF a; intro a hF
        show retK Try.prog Try.f38 (fun _ h' => ∃ M,Mgd n la lb L M ∧ Own h' (.slice ad n cap) 26 n 39 (rrow M) ∧ Grew (ad.map (fun (x : Addr) => x.block)) h h') .normal a h33
        refine ret_okN [] [] (.tuple #[]) rfl hF trivial rfl ?_
        exact ⟨K32,hcut.done hk hj,own_d,g0⟩
       ·skip
        have hj := hcut.right hk (by omega)
        refine cP 43 hF ?_
        refine sP 2 [nV mid,nV e] ?_
        refine s1 3 (.bool true) (.bool (decide (((mid : Nat) : Int) < ((e : Nat) : Int)))) (congrArg Value.bool (decide_eq_true (by omega))) ?_
        refine sP 6 [.bool true,nV e,nV lb] ?_
        refine s1 7 (.bool false) (.bool (decide (((e : Nat) : Int) < ((lb : Nat) : Int)))) (congrArg Value.bool (decide_eq_false (by omega))) ?_
        refine sP 8 [.bool false] ?_
        refine sD [(0,.slice ad n cap),(3,nV lb),(4,.func (.func 29) #[] #[]),(18,nV mid),(24,nV e),(213,.bool false)] ?_
        clear hF a; intro a hF
        refine tK ?_
        refine cF 213 hF ?_
        refine cN ?_
        show retK Try.prog Try.f38 (fun _ h' => ∃ M,Mgd n la lb L M ∧ Own h' (.slice ad n cap) 26 n 39 (rrow M) ∧ Grew (ad.map (fun (x : Addr) => x.block)) h h') .normal a h25
        refine ret_okN [] [] (.tuple #[]) rfl hF trivial rfl ?_
        exact ⟨K24,hcut.done hk hj,own_d,g0⟩
       ·skip
        have hj := hcut.right hk (by omega)
        refine cP 43 hF ?_
        refine sP 2 [nV mid,nV e] ?_
        refine s1 3 (.bool false) (.bool (decide (((mid : Nat) : Int) < ((e : Nat) : Int)))) (congrArg Value.bool (decide_eq_false (by omega))) ?_
        refine sP 8 [.bool false,undef,undef,undef,.bool false] ?_
        refine sD [(0,.slice ad n cap),(3,nV lb),(4,.func (.func 29) #[] #[]),(18,nV mid),(24,nV e),(213,.bool false)] ?_
        clear hF a; intro a hF
        refine tK ?_
        refine cF 213 hF ?_
        refine cN ?_
        show retK Try.prog Try.f38 (fun _ h' => ∃ M,Mgd n la lb L M ∧ Own h' (.slice ad n cap) 26 n 39 (rrow M) ∧ Grew (ad.map (fun (x : Addr) => x.block)) h h') .normal a h25
        refine ret_okN [] [] (.tuple #[]) rfl hF trivial rfl ?_
        exact ⟨K24,hcut.done hk hj,own_d,g0⟩
     ·skip
      have hcut : Cut n la lm lb mid i e L L := ⟨hLn,List.Perm.refl _,Idx.refl _ (rtx_none (by omega)),hs1,hs2,ham,hlo3,hhi3⟩
      refine cP 39 hF ?_
      refine sP 2 [nV i,nV lm] ?_
      refine s1 3 (.bool true) (.bool (decide (((i : Nat) : Int) < ((lm : Nat) : Int)))) (congrArg Value.bool (decide_eq_true (by omega))) ?_
      refine sP 6 [.bool true,nV lm,nV e] ?_
      refine s1 7 (.bool false) (.bool (decide (((lm : Nat) : Int) < ((e : Nat) : Int)))) (congrArg Value.bool (decide_eq_false (by omega))) ?_
      refine sP 8 [.bool false] ?_
      refine sD [(0,.slice ad n cap),(1,nV la),(2,nV lm),(3,nV lb),(4,.func (.func 29) #[] #[]),(18,nV mid),(20,nV i),(24,nV e),(185,.bool false)] ?_
      clear hF a; intro a hF
      refine tK ?_
      refine cF 185 hF ?_
      refine cN ?_
      refine tK ?_
      refine cS ?_
      refine cS ?_
      rcases Nat.lt_or_ge la i with hc1 | hc1
      rcases Nat.lt_or_ge i mid with hc2 | hc2
      ·skip
       refine cP 41 hF ?_
       refine sP 2 [nV la,nV i] ?_
       refine s1 3 (.bool true) (.bool (decide (((la : Nat) : Int) < ((i : Nat) : Int)))) (congrArg Value.bool (decide_eq_true (by omega))) ?_
       refine sP 6 [.bool true,nV i,nV mid] ?_
       refine s1 7 (.bool true) (.bool (decide (((i : Nat) : Int) < ((mid : Nat) : Int)))) (congrArg Value.bool (decide_eq_true (by omega))) ?_
       refine sP 8 [.bool true] ?_
       refine sD [(0,.slice ad n cap),(1,nV la),(3,nV lb),(4,.func (.func 29) #[] #[]),(18,nV mid),(20,nV i),(24,nV e),(199,.bool true)] ?_
       clear hF a; intro a hF
       refine tK ?_
       refine cT 199 hF ?_
       refine cP 42 hF ?_
       refine sP 5 [.slice ad n cap,nV la,nV i,nV mid,.func (.func 29) #[] #[]] ?_
       refine SeqK.eff (k' := 6) (Does.call (f := 38) (args := #[.slice ad n cap,.int .i64 ((la : Nat) : Int),.int .i64 ((i : Nat) : Int),.int .i64 ((mid : Nat) : Int),.func (.func 29) #[] #[]]) (by kernel_rfl) (ih _ la i mid L (by omega) own_d hcut.len (by omega) (by omega) (by omega) hcut.r1 hcut.r2)) rfl ?_
       rintro _ h35 ⟨K34,hk,ownx,g⟩
       replace g0 := g0.trans g
       clear own_d; have own_d := ownx; clear ownx g
       refine sD [(0,.slice ad n cap),(3,nV lb),(4,.func (.func 29) #[] #[]),(18,nV mid),(24,nV e)] ?_
       clear hF a; intro a hF
       refine tK ?_
       refine cS ?_
       rcases Nat.lt_or_ge mid e with hc1 | hc1
       rcases Nat.lt_or_ge e lb with hc2 | hc2
       ·skip
        refine cP 43 hF ?_
        refine sP 2 [nV mid,nV e] ?_
        refine s1 3 (.bool true) (.bool (decide (((mid : Nat) : Int) < ((e : Nat) : Int)))) (congrArg Value.bool (decide_eq_true (by omega))) ?_
        refine sP 6 [.bool true,nV e,nV lb] ?_
        refine s1 7 (.bool true) (.bool (decide (((e : Nat) : Int) < ((lb : Nat) : Int)))) (congrArg Value.bool (decide_eq_true (by omega))) ?_
        refine sP 8 [.bool true] ?_
        refine sD [(0,.slice ad n cap),(3,nV lb),(4,.func (.func 29) #[] #[]),(18,nV mid),(24,nV e),(213,.bool true)] ?_
        clear hF a; intro a hF
        refine tK ?_
        refine cT 213 hF ?_
        refine cP 44 hF ?_
        refine sP 5 [.slice ad n cap,nV mid,nV e,nV lb,.func (.func 29) #[] #[]] ?_
        refine SeqK.eff (k' := 6) (Does.call (f := 38) (args := #[.slice ad n cap,.int .i64 ((mid : Nat) : Int),.int .i64 ((e : Nat) : Int),.int .i64 ((lb : Nat) : Int),.func (.func 29) #[] #[]]) (by kernel_rfl) (ih _ mid e lb K34 (by omega) own_d hk.len (by omega) (by omega) (by omega) (hcut.sort hk).1 (hcut.sort hk).2)) rfl ?_
        rintro _ h37 ⟨K36,hj,ownx,g⟩
        replace g0 := g0.trans g
        clear own_d; have own_d := ownx; clear ownx g
        refine sD [] ?_
        clear hF a; intro a hF
        show retK Try.prog Try.f38 (fun _ h' => ∃ M,Mgd n la lb L M ∧ Own h' (.slice ad n cap) 26 n 39 (rrow M) ∧ Grew (ad.map (fun (x : Addr) => x.block)) h h') .normal a h37
        refine ret_okN [] [] (.tuple #[]) rfl hF trivial rfl ?_
        exact ⟨K36,hcut.done hk hj,own_d,g0⟩
       ·skip
        have hj := hcut.right hk (by omega)
        refine cP 43 hF ?_
        refine sP 2 [nV mid,nV e] ?_
        refine s1 3 (.bool true) (.bool (decide (((mid : Nat) : Int) < ((e : Nat) : Int)))) (congrArg Value.bool (decide_eq_true (by omega))) ?_
        refine sP 6 [.bool true,nV e,nV lb] ?_
        refine s1 7 (.bool false) (.bool (decide (((e : Nat) : Int) < ((lb : Nat) : Int)))) (congrArg Value.bool (decide_eq_false (by omega))) ?_
        refine sP 8 [.bool false] ?_
        refine sD [(0,.slice ad n cap),(3,nV lb),(4,.func (.func 29) #[] #[]),(18,nV mid),(24,nV e),(213,.bool false)] ?_
        clear hF a; intro a hF
        refine tK ?_
        refine cF 213 hF ?_
        refine cN ?_
        show retK Try.prog Try.f38 (fun _ h' => ∃ M,Mgd n la lb L M ∧ Own h' (.slice ad n cap) 26 n 39 (rrow M) ∧ Grew (ad.map (fun (x : Addr) => x.block)) h h') .normal a h35
        refine ret_okN [] [] (.tuple #[]) rfl hF trivial rfl ?_
        exact ⟨K34,hcut.done hk hj,own_d,g0⟩
       ·skip
        have hj := hcut.right hk (by omega)
        refine cP 43 hF ?_
        refine sP 2 [nV mid,nV e] ?_
        refine s1 3 (.bool false) (.bool (decide (((mid : Nat) : Int) < ((e : Nat) : Int)))) (congrArg Value.bool (decide_eq_false (by omega))) ?_
        refine sP 8 [.bool false,undef,undef,undef,.bool false] ?_
        refine sD [(0,.slice ad n cap),(3,nV lb),(4,.func (.func 29) #[] #[]),(18,nV mid),(24,nV e),(213,.bool false)] ?_
        clear hF a; intro a hF
        refine tK ?_
        refine cF 213 hF ?_
        refine cN ?_
        show retK Try.prog Try.f38 (fun _ h' => ∃ M,Mgd n la lb L M ∧ Own h' (.slice ad n cap) 26 n 39 (rrow M) ∧ Grew (ad.map (fun (x : Addr) => x.block)) h h') .normal a h35
        refine ret_okN [] [] (.tuple #[]) rfl hF trivial rfl ?_
        exact ⟨K34,hcut.done hk hj,own_d,g0⟩
      ·skip
       have hk := hcut.left (by omega)
       refine cP 41 hF ?_
       refine sP 2 [nV la,nV i] ?_
       refine s1 3 (.bool true) (.bool (decide (((la : Nat) : Int) < ((i : Nat) : Int)))) (congrArg Value.bool (decide_eq_true (by omega))) ?_
       refine sP 6 [.bool true,nV i,nV mid] ?_
       refine s1 7 (.bool false) (.bool (decide (((i : Nat) : Int) < ((mid : Nat) : Int)))) (congrArg Value.bool (decide_eq_false (by omega))) ?_
       refine sP 8 [.bool false] ?_
       refine sD [(0,.slice ad n cap),(1,nV la),(3,nV lb),(4,.func (.func 29) #[] #[]),(18,nV mid),(20,nV i),(24,nV e),(199,.bool false)] ?_
       clear hF a; intro a hF
       refine tK ?_
       refine cF 199 hF ?_
       refine cN ?_
       refine tK ?_
       refine cS ?_
       rcases Nat.lt_or_ge mid e with hc1 | hc1
       rcases Nat.lt_or_ge e lb with hc2 | hc2
       ·skip
        refine cP 43 hF ?_
        refine sP 2 [nV mid,nV e] ?_
        refine s1 3 (.bool true) (.bool (decide (((mid : Nat) : Int) < ((e : Nat) : Int)))) (congrArg Value.bool (decide_eq_true (by omega))) ?_
        refine sP 6 [.bool true,nV e,nV lb] ?_
        refine s1 7 (.bool true) (.bool (decide (((e : Nat) : Int) < ((lb : Nat) : Int)))) (congrArg Value.bool (decide_eq_true (by omega))) ?_
        refine sP 8 [.bool true] ?_
        refine sD [(0,.slice ad n cap),(3,nV lb),(4,.func (.func 29) #[] #[]),(18,nV mid),(24,nV e),(213,.bool true)] ?_
        clear hF a; intro a hF
        refine tK ?_
        refine cT 213 hF ?_
        refine cP 44 hF ?_
        refine sP 5 [.slice ad n cap,nV mid,nV e,nV lb,.func (.func 29) #[] #[]] ?_
        refine SeqK.eff (k' := 6) (Does.call (f := 38) (args := #[.slice ad n cap,.int .i64 ((mid : Nat) : Int),.int .i64 ((e : Nat) : Int),.int .i64 ((lb : Nat) : Int),.func (.func 29) #[] #[]]) (by kernel_rfl) (ih _ mid e lb L (by omega) own_d hk.len (by omega) (by omega) (by omega) (hcut.sort hk).1 (hcut.sort hk).2)) rfl ?_
        rintro _ h39 ⟨K38,hj,ownx,g⟩
        replace g0 := g0.trans g
        clear own_d; have own_d := ownx; clear ownx g
        refine sD [] ?_
        clear hF a; intro a hF
        show retK Try.prog Try.f38 (fun _ h' => ∃ M,Mgd n la lb L M ∧ Own h' (.slice ad n cap) 26 n 39 (rrow M) ∧ Grew (ad.map (fun (x : Addr) => x.block)) h h') .normal a h39
        refine ret_okN [] [] (.tuple #[]) rfl hF trivial rfl ?_
        exact ⟨K38,hcut.done hk hj,own_d,g0⟩
       ·skip
        have hj := hcut.right hk (by omega)
        refine cP 43 hF ?_
        refine sP 2 [nV mid,nV e] ?_
        refine s1 3 (.bool true) (.bool (decide (((mid : Nat) : Int) < ((e : Nat) : Int)))) (congrArg Value.bool (decide_eq_true (by omega))) ?_
        refine sP 6 [.bool true,nV e,nV lb] ?_
        refine s1 7 (.bool false) (.bool (decide (((e : Nat) : Int) < ((lb : Nat) : Int)))) (congrArg Value.bool (decide_eq_false (by omega))) ?_
        refine sP 8 [.bool false] ?_
        refine sD [(0,.slice ad n cap),(3,nV lb),(4,.func (.func 29) #[] #[]),(18,nV mid),(24,nV e),(213,.bool false)] ?_
        clear hF a; intro a hF
        refine tK ?_
        refine cF 213 hF ?_
        refine cN ?_
        show retK Try.prog Try.f38 (fun _ h' => ∃ M,Mgd n la lb L M ∧ Own h' (.slice ad n cap) 26 n 39 (rrow M) ∧ Grew (ad.map (fun (x : Addr) => x.block)) h h') .normal a h20
        refine ret_okN [] [] (.tuple #[]) rfl hF trivial rfl ?_
        exact ⟨L,hcut.done hk hj,own_d,g0⟩
       ·skip
        have hj := hcut.right hk (by omega)
        refine cP 43 hF ?_
        refine sP 2 [nV mid,nV e] ?_
        refine s1 3 (.bool false) (.bool (decide (((mid : Nat) : Int) < ((e : Nat) : Int)))) (congrArg Value.bool (decide_eq_false (by omega))) ?_
        refine sP 8 [.bool false,undef,undef,undef,.bool false] ?_
        refine sD [(0,.slice ad n cap),(3,nV lb),(4,.func (.func 29) #[] #[]),(18,nV mid),(24,nV e),(213,.bool false)] ?_
        clear hF a; intro a hF
        refine tK ?_
        refine cF 213 hF ?_
        refine cN ?_
        show retK Try.prog Try.f38 (fun _ h' => ∃ M,Mgd n la lb L M ∧ Own h' (.slice ad n cap) 26 n 39 (rrow M) ∧ Grew (ad.map (fun (x : Addr) => x.block)) h h') .normal a h20
        refine ret_okN [] [] (.tuple #[]) rfl hF trivial rfl ?_
        exact ⟨L,hcut.done hk hj,own_d,g0⟩
      ·skip
       have hk := hcut.left (by omega)
       refine cP 41 hF ?_
       refine sP 2 [nV la,nV i] ?_
       refine s1 3 (.bool false) (.bool (decide (((la : Nat) : Int) < ((i : Nat) : Int)))) (congrArg Value.bool (decide_eq_false (by omega))) ?_
       refine sP 8 [.bool false,undef,undef,undef,.bool false] ?_
       refine sD [(0,.slice ad n cap),(1,nV la),(3,nV lb),(4,.func (.func 29) #[] #[]),(18,nV mid),(20,nV i),(24,nV e),(199,.bool false)] ?_
       clear hF a; intro a hF
       refine tK ?_
       refine cF 199 hF ?_
       refine cN ?_
       refine tK ?_
       refine cS ?_
       rcases Nat.lt_or_ge mid e with hc1 | hc1
       rcases Nat.lt_or_ge e lb with hc2 | hc2
       ·skip
        refine cP 43 hF ?_
        refine sP 2 [nV mid,nV e] ?_
        refine s1 3 (.bool true) (.bool (decide (((mid : Nat) : Int) < ((e : Nat) : Int)))) (congrArg Value.bool (decide_eq_true (by omega))) ?_
        refine sP 6 [.bool true,nV e,nV lb] ?_
        refine s1 7 (.bool true) (.bool (decide (((e : Nat) : Int) < ((lb : Nat) : Int)))) (congrArg Value.bool (decide_eq_true (by omega))) ?_
        refine sP 8 [.bool true] ?_
        refine sD [(0,.slice ad n cap),(3,nV lb),(4,.func (.func 29) #[] #[]),(18,nV mid),(24,nV e),(213,.bool true)] ?_
        clear hF a; intro a hF
        refine tK ?_
        refine cT 213 hF ?_
        refine cP 44 hF ?_
        refine sP 5 [.slice ad n cap,nV mid,nV e,nV lb,.func (.func 29) #[] #[]] ?_
        refine SeqK.eff (k' := 6) (Does.call (f := 38) (args := #[.slice ad n cap,.int .i64 ((mid : Nat) : Int),.int .i64 ((e : Nat) : Int),.int .i64 ((lb : Nat) : Int),.func (.func 29) #[] #[]]) (by kernel_rfl) (ih _ mid e lb L (by omega) own_d hk.len (by omega) (by omega) (by omega) (hcut.sort hk).1 (hcut.sort hk).2)) rfl ?_
        rintro _ h41 ⟨K40,hj,ownx,g⟩
        replace g0 := g0.trans g
        clear own_d; have own_d := ownx; clear ownx g
        refine sD [] ?_
        clear hF a; intro a hF
        show retK Try.prog Try.f38 (fun _ h' => ∃ M,Mgd n la lb L M ∧ Own h' (.slice ad n cap) 26 n 39 (rrow M) ∧ Grew (ad.map (fun (x : Addr) => x.block)) h h') .normal a h41
        refine ret_okN [] [] (.tuple #[]) rfl hF trivial rfl ?_
        exact ⟨K40,hcut.done hk hj,own_d,g0⟩
       ·skip
        have hj := hcut.right hk (by omega)
        refine cP 43 hF ?_
        refine sP 2 [nV mid,nV e] ?_
        refine s1 3 (.bool true) (.bool (decide (((mid : Nat) : Int) < ((e : Nat) : Int)))) (congrArg Value.bool (decide_eq_true (by omega))) ?_
        refine sP 6 [.bool true,nV e,nV lb] ?_
        refine s1 7 (.bool false) (.bool (decide (((e : Nat) : Int) < ((lb : Nat) : Int)))) (congrArg Value.bool (decide_eq_false (by omega))) ?_
        refine sP 8 [.bool false] ?_
        refine sD [(0,.slice ad n cap),(3,nV lb),(4,.func (.func 29) #[] #[]),(18,nV mid),(24,nV e),(213,.bool false)] ?_
        clear hF a; intro a hF
        refine tK ?_
        refine cF 213 hF ?_
        refine cN ?_
        show retK Try.prog Try.f38 (fun _ h' => ∃ M,Mgd n la lb L M ∧ Own h' (.slice ad n cap) 26 n 39 (rrow M) ∧ Grew (ad.map (fun (x : Addr) => x.block)) h h') .normal a h20
        refine ret_okN [] [] (.tuple #[]) rfl hF trivial rfl ?_
        exact ⟨L,hcut.done hk hj,own_d,g0⟩
       ·skip
        have hj := hcut.right hk (by omega)
        refine cP 43 hF ?_
        refine sP 2 [nV mid,nV e] ?_
        refine s1 3 (.bool false) (.bool (decide (((mid : Nat) : Int) < ((e : Nat) : Int)))) (congrArg Value.bool (decide_eq_false (by omega))) ?_
        refine sP 8 [.bool false,undef,undef,undef,.bool false] ?_
        refine sD [(0,.slice ad n cap),(3,nV lb),(4,.func (.func 29) #[] #[]),(18,nV mid),(24,nV e),(213,.bool false)] ?_
        clear hF a; intro a hF
        refine tK ?_
        refine cF 213 hF ?_
        refine cN ?_
        show retK Try.prog Try.f38 (fun _ h' => ∃ M,Mgd n la lb L M ∧ Own h' (.slice ad n cap) 26 n 39 (rrow M) ∧ Grew (ad.map (fun (x : Addr) => x.block)) h h') .normal a h20
        refine ret_okN [] [] (.tuple #[]) rfl hF trivial rfl ?_
        exact ⟨L,hcut.done hk hj,own_d,g0⟩
     ·skip
      have hcut : Cut n la lm lb mid i e L L := ⟨hLn,List.Perm.refl _,Idx.refl _ (rtx_none (by omega)),hs1,hs2,ham,hlo3,hhi3⟩
      refine cP 39 hF ?_
      refine sP 2 [nV i,nV lm] ?_
      refine s1 3 (.bool false) (.bool (decide (((i : Nat) : Int) < ((lm : Nat) : Int)))) (congrArg Value.bool (decide_eq_false (by omega))) ?_
      refine sP 8 [.bool false,undef,undef,undef,.bool false] ?_
      refine sD [(0,.slice ad n cap),(1,nV la),(2,nV lm),(3,nV lb),(4,.func (.func 29) #[] #[]),(18,nV mid),(20,nV i),(24,nV e),(185,.bool false)] ?_
      clear hF a; intro a hF
      refine tK ?_
      refine cF 185 hF ?_
      refine cN ?_
      refine tK ?_
      refine cS ?_
      refine cS ?_
      rcases Nat.lt_or_ge la i with hc1 | hc1
      rcases Nat.lt_or_ge i mid with hc2 | hc2
      ·skip
       refine cP 41 hF ?_
       refine sP 2 [nV la,nV i] ?_
       refine s1 3 (.bool true) (.bool (decide (((la : Nat) : Int) < ((i : Nat) : Int)))) (congrArg Value.bool (decide_eq_true (by omega))) ?_
       refine sP 6 [.bool true,nV i,nV mid] ?_
       refine s1 7 (.bool true) (.bool (decide (((i : Nat) : Int) < ((mid : Nat) : Int)))) (congrArg Value.bool (decide_eq_true (by omega))) ?_
       refine sP 8 [.bool true] ?_
       refine sD [(0,.slice ad n cap),(1,nV la),(3,nV lb),(4,.func (.func 29) #[] #[]),(18,nV mid),(20,nV i),(24,nV e),(199,.bool true)] ?_
       clear hF a; intro a hF
       refine tK ?_
       refine cT 199 hF ?_
       refine cP 42 hF ?_
       refine sP 5 [.slice ad n cap,nV la,nV i,nV mid,.func (.func 29) #[] #[]] ?_
       refine SeqK.eff (k' := 6) (Does.call (f := 38) (args := #[.slice ad n cap,.int .i64 ((la : Nat) : Int),.int .i64 ((i : Nat) : Int),.int .i64 ((mid : Nat) : Int),.func (.func 29) #[] #[]]) (by kernel_rfl) (ih _ la i mid L (by omega) own_d hcut.len (by omega) (by omega) (by omega) hcut.r1 hcut.r2)) rfl ?_
       rintro _ h43 ⟨K42,hk,ownx,g⟩
       replace g0 := g0.trans g
       clear own_d; have own_d := ownx; clear ownx g
       refine sD [(0,.slice ad n cap),(3,nV lb),(4,.func (.func 29) #[] #[]),(18,nV mid),(24,nV e)] ?_
       clear hF a; intro a hF
       refine tK ?_
       refine cS ?_
       rcases Nat.lt_or_ge mid e with hc1 | hc1
       rcases Nat.lt_or_ge e lb with hc2 | hc2
       ·skip
        refine cP 43 hF ?_
        refine sP 2 [nV mid,nV e] ?_
        refine s1 3 (.bool true) (.bool (decide (((mid : Nat) : Int) < ((e : Nat) : Int)))) (congrArg Value.bool (decide_eq_true (by omega))) ?_
        refine sP 6 [.bool true,nV e,nV lb] ?_
        refine s1 7 (.bool true) (.bool (decide (((e : Nat) : Int) < ((lb : Nat) : Int)))) (congrArg Value.bool (decide_eq_true (by omega))) ?_
        refine sP 8 [.bool true] ?_
        refine sD [(0,.slice ad n cap),(3,nV lb),(4,.func (.func 29) #[] #[]),(18,nV mid),(24,nV e),(213,.bool true)] ?_
        clear hF a; intro a hF
        refine tK ?_
        refine cT 213 hF ?_
        refine cP 44 hF ?_
        refine sP 5 [.slice ad n cap,nV mid,nV e,nV lb,.func (.func 29) #[] #[]] ?_
        refine SeqK.eff (k' := 6) (Does.call (f := 38) (args := #[.slice ad n cap,.int .i64 ((mid : Nat) : Int),.int .i64 ((e : Nat) : Int),.int .i64 ((lb : Nat) : Int),.func (.func 29) #[] #[]]) (by kernel_rfl) (ih _ mid e lb K42 (by omega) own_d hk.len (by omega) (by omega) (by omega) (hcut.sort hk).1 (hcut.sort hk).2)) rfl ?_
        rintro _ h45 ⟨K44,hj,ownx,g⟩
        replace g0 := g0.trans g
        clear own_d; have own_d := ownx; clear ownx g
        refine sD [] ?_
        clear hF a; intro a hF
        show retK Try.prog Try.f38 (fun _ h' => ∃ M,Mgd n la lb L M ∧ Own h' (.slice ad n cap) 26 n 39 (rrow M) ∧ Grew (ad.map (fun (x : Addr) => x.block)) h h') .normal a h45
        refine ret_okN [] [] (.tuple #[]) rfl hF trivial rfl ?_
        exact ⟨K44,hcut.done hk hj,own_d,g0⟩
       ·skip
        have hj := hcut.right hk (by omega)
        refine cP 43 hF ?_
        refine sP 2 [nV mid,nV e] ?_
        refine s1 3 (.bool true) (.bool (decide (((mid : Nat) : Int) < ((e : Nat) : Int)))) (congrArg Value.bool (decide_eq_true (by omega))) ?_
        refine sP 6 [.bool true,nV e,nV lb] ?_
        refine s1 7 (.bool false) (.bool (decide (((e : Nat) : Int) < ((lb : Nat) : Int)))) (congrArg Value.bool (decide_eq_false (by omega))) ?_
        refine sP 8 [.bool false] ?_
        refine sD [(0,.slice ad n cap),(3,nV lb),(4,.func (.func 29) #[] #[]),(18,nV mid),(24,nV e),(213,.bool false)] ?_
        clear hF a; intro a hF
        refine tK ?_
        refine cF 213 hF ?_
        refine cN ?_
        show retK Try.prog Try.f38 (fun _ h' => ∃ M,Mgd n la lb L M ∧ Own h' (.slice ad n cap) 26 n 39 (rrow M) ∧ Grew (ad.map (fun (x : Addr) => x.block)) h h') .normal a h43
        refine ret_okN [] [] (.tuple #[]) rfl hF trivial rfl ?_
        exact ⟨K42,hcut.done hk hj,own_d,g0⟩
       ·skip
        have hj := hcut.right hk (by omega)
        refine cP 43 hF ?_
        refine sP 2 [nV mid,nV e] ?_
        refine s1 3 (.bool false) (.bool (decide (((mid : Nat) : Int) < ((e : Nat) : Int)))) (congrArg Value.bool (decide_eq_false (by omega))) ?_
        refine sP 8 [.bool false,undef,undef,undef,.bool false] ?_
        refine sD [(0,.slice ad n cap),(3,nV lb),(4,.func (.func 29) #[] #[]),(18,nV mid),(24,nV e),(213,.bool false)] ?_
        clear hF a; intro a hF
        refine tK ?_
        refine cF 213 hF ?_
        refine cN ?_
        show retK Try.prog Try.f38 (fun _ h' => ∃ M,Mgd n la lb L M ∧ Own h' (.slice ad n cap) 26 n 39 (rrow M) ∧ Grew (ad.map (fun (x : Addr) => x.block)) h h') .normal a h43
        refine ret_okN [] [] (.tuple #[]) rfl hF trivial rfl ?_
        exact ⟨K42,hcut.done hk hj,own_d,g0⟩
      ·skip
       have hk := hcut.left (by omega)
       refine cP 41 hF ?_
       refine sP 2 [nV la,nV i] ?_
       refine s1 3 (.bool true) (.bool (decide (((la : Nat) : Int) < ((i : Nat) : Int)))) (congrArg Value.bool (decide_eq_true (by omega))) ?_
       refine sP 6 [.bool true,nV i,nV mid] ?_
       refine s1 7 (.bool false) (.bool (decide (((i : Nat) : Int) < ((mid : Nat) : Int)))) (congrArg Value.bool (decide_eq_false (by omega))) ?_
       refine sP 8 [.bool false] ?_
       refine sD [(0,.slice ad n cap),(1,nV la),(3,nV lb),(4,.func (.func 29) #[] #[]),(18,nV mid),(20,nV i),(24,nV e),(199,.bool false)] ?_
       clear hF a; intro a hF
       refine tK ?_
       refine cF 199 hF ?_
       refine cN ?_
       refine tK ?_
       refine cS ?_
       rcases Nat.lt_or_ge mid e with hc1 | hc1
       rcases Nat.lt_or_ge e lb with hc2 | hc2
       ·skip
        refine cP 43 hF ?_
        refine sP 2 [nV mid,nV e] ?_
        refine s1 3 (.bool true) (.bool (decide (((mid : Nat) : Int) < ((e : Nat) : Int)))) (congrArg Value.bool (decide_eq_true (by omega))) ?_
        refine sP 6 [.bool true,nV e,nV lb] ?_
        refine s1 7 (.bool true) (.bool (decide (((e : Nat) : Int) < ((lb : Nat) : Int)))) (congrArg Value.bool (decide_eq_true (by omega))) ?_
        refine sP 8 [.bool true] ?_
        refine sD [(0,.slice ad n cap),(3,nV lb),(4,.func (.func 29) #[] #[]),(18,nV mid),(24,nV e),(213,.bool true)] ?_
        clear hF a; intro a hF
        refine tK ?_
        refine cT 213 hF ?_
        refine cP 44 hF ?_
        refine sP 5 [.slice ad n cap,nV mid,nV e,nV lb,.func (.func 29) #[] #[]] ?_
        refine SeqK.eff (k' := 6) (Does.call (f := 38) (args := #[.slice ad n cap,.int .i64 ((mid : Nat) : Int),.int .i64 ((e : Nat) : Int),.int .i64 ((lb : Nat) : Int),.func (.func 29) #[] #[]]) (by kernel_rfl) (ih _ mid e lb L (by omega) own_d hk.len (by omega) (by omega) (by omega) (hcut.sort hk).1 (hcut.sort hk).2)) rfl ?_
        rintro _ h47 ⟨K46,hj,ownx,g⟩
        replace g0 := g0.trans g
        clear own_d; have own_d := ownx; clear ownx g
        refine sD [] ?_
        clear hF a; intro a hF
        show retK Try.prog Try.f38 (fun _ h' => ∃ M,Mgd n la lb L M ∧ Own h' (.slice ad n cap) 26 n 39 (rrow M) ∧ Grew (ad.map (fun (x : Addr) => x.block)) h h') .normal a h47
        refine ret_okN [] [] (.tuple #[]) rfl hF trivial rfl ?_
        exact ⟨K46,hcut.done hk hj,own_d,g0⟩
       ·skip
        have hj := hcut.right hk (by omega)
        refine cP 43 hF ?_
        refine sP 2 [nV mid,nV e] ?_
        refine s1 3 (.bool true) (.bool (decide (((mid : Nat) : Int) < ((e : Nat) : Int)))) (congrArg Value.bool (decide_eq_true (by omega))) ?_
        refine sP 6 [.bool true,nV e,nV lb] ?_
        refine s1 7 (.bool false) (.bool (decide (((e : Nat) : Int) < ((lb : Nat) : Int)))) (congrArg Value.bool (decide_eq_false (by omega))) ?_
        refine sP 8 [.bool false] ?_
        refine sD [(0,.slice ad n cap),(3,nV lb),(4,.func (.func 29) #[] #[]),(18,nV mid),(24,nV e),(213,.bool false)] ?_
        clear hF a; intro a hF
        refine tK ?_
        refine cF 213 hF ?_
        refine cN ?_
        show retK Try.prog Try.f38 (fun _ h' => ∃ M,Mgd n la lb L M ∧ Own h' (.slice ad n cap) 26 n 39 (rrow M) ∧ Grew (ad.map (fun (x : Addr) => x.block)) h h') .normal a h20
        refine ret_okN [] [] (.tuple #[]) rfl hF trivial rfl ?_
        exact ⟨L,hcut.done hk hj,own_d,g0⟩
       ·skip
        have hj := hcut.right hk (by omega)
        refine cP 43 hF ?_
        refine sP 2 [nV mid,nV e] ?_
        refine s1 3 (.bool false) (.bool (decide (((mid : Nat) : Int) < ((e : Nat) : Int)))) (congrArg Value.bool (decide_eq_false (by omega))) ?_
        refine sP 8 [.bool false,undef,undef,undef,.bool false] ?_
        refine sD [(0,.slice ad n cap),(3,nV lb),(4,.func (.func 29) #[] #[]),(18,nV mid),(24,nV e),(213,.bool false)] ?_
        clear hF a; intro a hF
        refine tK ?_
        refine cF 213 hF ?_
        refine cN ?_
        show retK Try.prog Try.f38 (fun _ h' => ∃ M,Mgd n la lb L M ∧ Own h' (.slice ad n cap) 26 n 39 (rrow M) ∧ Grew (ad.map (fun (x : Addr) => x.block)) h h') .normal a h20
        refine ret_okN [] [] (.tuple #[]) rfl hF trivial rfl ?_
        exact ⟨L,hcut.done hk hj,own_d,g0⟩
      ·skip
       have hk := hcut.left (by omega)
       refine cP 41 hF ?_
       refine sP 2 [nV la,nV i] ?_
       refine s1 3 (.bool false) (.bool (decide (((la : Nat) : Int) < ((i : Nat) : Int)))) (congrArg Value.bool (decide_eq_false (by omega))) ?_
       refine sP 8 [.bool false,undef,undef,undef,.bool false] ?_
       refine sD [(0,.slice ad n cap),(1,nV la),(3,nV lb),(4,.func (.func 29) #[] #[]),(18,nV mid),(20,nV i),(24,nV e),(199,.bool false)] ?_
       clear hF a; intro a hF
       refine tK ?_
       refine cF 199 hF ?_
       refine cN ?_
       refine tK ?_
       refine cS ?_
       rcases Nat.lt_or_ge mid e with hc1 | hc1
       rcases Nat.lt_or_ge e lb with hc2 | hc2
       ·skip
        refine cP 43 hF ?_
        refine sP 2 [nV mid,nV e] ?_
        refine s1 3 (.bool true) (.bool (decide (((mid : Nat) : Int) < ((e : Nat) : Int)))) (congrArg Value.bool (decide_eq_true (by omega))) ?_
        refine sP 6 [.bool true,nV e,nV lb] ?_
        refine s1 7 (.bool true) (.bool (decide (((e : Nat) : Int) < ((lb : Nat) : Int)))) (congrArg Value.bool (decide_eq_true (by omega))) ?_
        refine sP 8 [.bool true] ?_
        refine sD [(0,.slice ad n cap),(3,nV lb),(4,.func (.func 29) #[] #[]),(18,nV mid),(24,nV e),(213,.bool true)] ?_
        clear hF a; intro a hF
        refine tK ?_
        refine cT 213 hF ?_
        refine cP 44 hF ?_
        refine sP 5 [.slice ad n cap,nV mid,nV e,nV lb,.func (.func 29) #[] #[]] ?_
        refine SeqK.eff (k' := 6) (Does.call (f := 38) (args := #[.slice ad n cap,.int .i64 ((mid : Nat) : Int),.int .i64 ((e : Nat) : Int),.int .i64 ((lb : Nat) : Int),.func (.func 29) #[] #[]]) (by kernel_rfl) (ih _ mid e lb L (by omega) own_d hk.len (by omega) (by omega) (by omega) (hcut.sort hk).1 (hcut.sort hk).2)) rfl ?_
        rintro _ h49 ⟨K48,hj,ownx,g⟩
        replace g0 := g0.trans g
        clear own_d; have own_d := ownx; clear ownx g
        refine sD [] ?_
        clear hF a; intro a hF
        show retK Try.prog Try.f38 (fun _ h' => ∃ M,Mgd n la lb L M ∧ Own h' (.slice ad n cap) 26 n 39 (rrow M) ∧ Grew (ad.map (fun (x : Addr) => x.block)) h h') .normal a h49
        refine ret_okN [] [] (.tuple #[]) rfl hF trivial rfl ?_
        exact ⟨K48,hcut.done hk hj,own_d,g0⟩
       ·skip
        have hj := hcut.right hk (by omega)
        refine cP 43 hF ?_
        refine sP 2 [nV mid,nV e] ?_
        refine s1 3 (.bool true) (.bool (decide (((mid : Nat) : Int) < ((e : Nat) : Int)))) (congrArg Value.bool (decide_eq_true (by omega))) ?_
        refine sP 6 [.bool true,nV e,nV lb] ?_
        refine s1 7 (.bool false) (.bool (decide (((e : Nat) : Int) < ((lb : Nat) : Int)))) (congrArg Value.bool (decide_eq_false (by omega))) ?_
        refine sP 8 [.bool false] ?_
        refine sD [(0,.slice ad n cap),(3,nV lb),(4,.func (.func 29) #[] #[]),(18,nV mid),(24,nV e),(213,.bool false)] ?_
        clear hF a; intro a hF
        refine tK ?_
        refine cF 213 hF ?_
        refine cN ?_
        show retK Try.prog Try.f38 (fun _ h' => ∃ M,Mgd n la lb L M ∧ Own h' (.slice ad n cap) 26 n 39 (rrow M) ∧ Grew (ad.map (fun (x : Addr) => x.block)) h h') .normal a h20
        refine ret_okN [] [] (.tuple #[]) rfl hF trivial rfl ?_
        exact ⟨L,hcut.done hk hj,own_d,g0⟩
       ·skip
        have hj := hcut.right hk (by omega)
        refine cP 43 hF ?_
        refine sP 2 [nV mid,nV e] ?_
        refine s1 3 (.bool false) (.bool (decide (((mid : Nat) : Int) < ((e : Nat) : Int)))) (congrArg Value.bool (decide_eq_false (by omega))) ?_
        refine sP 8 [.bool false,undef,undef,undef,.bool false] ?_
        refine sD [(0,.slice ad n cap),(3,nV lb),(4,.func (.func 29) #[] #[]),(18,nV mid),(24,nV e),(213,.bool false)] ?_
        clear hF a; intro a hF
        refine tK ?_
        refine cF 213 hF ?_
        refine cN ?_
        show retK Try.prog Try.f38 (fun _ h' => ∃ M,Mgd n la lb L M ∧ Own h' (.slice ad n cap) 26 n 39 (rrow M) ∧ Grew (ad.map (fun (x : Addr) => x.block)) h h') .normal a h20
        refine ret_okN [] [] (.tuple #[]) rfl hF trivial rfl ?_
        exact ⟨L,hcut.done hk hj,own_d,g0⟩
   ·skip
    replace hc19 := of_decide_eq_false hc19
    refine cS ?_
    refine cP 30 hF ?_
    refine sP 2 [nV la,nV la] ?_
    refine sD [(0,.slice ad n cap),(1,nV la),(2,nV lm),(3,nV lb),(4,.func (.func 29) #[] #[]),(18,nV mid),(19,nV (mid + lm)),(20,nV la)] ?_
    clear hF a; intro a hF
    refine tK ?_
    refine cP 31 hF ?_
    refine sP 2 [nV lm,nV lm] ?_
    refine sD [(0,.slice ad n cap),(1,nV la),(2,nV lm),(3,nV lb),(4,.func (.func 29) #[] #[]),(18,nV mid),(19,nV (mid + lm)),(20,nV la),(21,nV lm)] ?_
    clear hF a; intro a hF
    refine tK ?_
    refine cS ?_
    refine cP 32 hF ?_
    refine sP 1 [nV (mid + lm)] ?_
    refine s1 2 (.int .i64 (((mid + lm) - 1 : Nat) : Int)) (.int .i64 (IntKind.i64.wrap (((mid + lm : Nat) : Int) - 1))) (congrArg (Value.int .i64) (w64' (by omega) (by omega) (by omega))) ?_
    refine sP 3 [nV ((mid + lm) - 1)] ?_
    refine sD [(0,.slice ad n cap),(1,nV la),(2,nV lm),(3,nV lb),(4,.func (.func 29) #[] #[]),(18,nV mid),(19,nV (mid + lm)),(20,nV la),(21,nV lm),(22,nV ((mid + lm) - 1))] ?_
    clear hF a; intro a hF
    obtain ⟨s0,hs0⟩ : ∃ x,la = x := ⟨_,rfl⟩; obtain ⟨r0,hr0⟩ : ∃ x,lm = x := ⟨_,rfl⟩
    have hsr : (mid < lm ∧ s0 + lb = mid + lm ∧ r0 = mid) ∨ (lm ≤ mid ∧ s0 = la ∧ r0 = lm) := by omega
    have hsle : s0 ≤ r0 := by omega
    refine tK ?_
    refine cS ?_
    refine cB 8 ?_
    refine C.loop (fun m a h' => ∃ i : Nat,∃ j : Nat,m = j - i ∧ (Grew (ad.map (fun (x : Addr) => x.block)) h h') ∧ (s0 ≤ i ∧ i ≤ j ∧ j ≤ r0) ∧ (i = s0 ∨ ¬ cbR (L.getD (mid + lm - 1 - (i - 1)) rec0) (L.getD (i - 1) rec0) < 0) ∧ (j = r0 ∨ cbR (L.getD (mid + lm - 1 - (j)) rec0) (L.getD (j) rec0) < 0) ∧ (Own h' (.slice ad n cap) 26 n 39 (rrow L)) ∧ (Fr a 220 [(0,.slice ad n cap),(1,.int .i64 ((la : Nat) : Int)),(2,.int .i64 ((lm : Nat) : Int)),(3,.int .i64 ((lb : Nat) : Int)),(4,.func (.func 29) #[] #[]),(18,.int .i64 ((mid : Nat) : Int)),(19,.int .i64 ((mid + lm : Nat) : Int)),(20,.int .i64 ((i : Nat) : Int)),(21,.int .i64 ((j : Nat) : Int)),(22,.int .i64 (((mid + lm) - 1 : Nat) : Int))])) (lm - la) [1,1,1,1,1,1,1,0,0,0] (by kernel_rfl) ⟨la,lm,rfl,g0,(by omega),(.inl (by omega)),(.inl (by omega)),own_d,hF⟩ ?_
    clear hF a
    clear g0
    clear own_d
    rintro m a h50 ⟨i,j,rfl,g0,hij,hlo,hhi,own_d,hF⟩
    refine cS ?_
    refine cS ?_
    refine cP 33 hF ?_
    refine sP 3 [nV i,nV j,.bool (decide (((i : Nat) : Int) < ((j : Nat) : Int)))] ?_
    refine sD [(0,.slice ad n cap),(1,nV la),(2,nV lm),(3,nV lb),(4,.func (.func 29) #[] #[]),(18,nV mid),(19,nV (mid + lm)),(20,nV i),(21,nV j),(22,nV ((mid + lm) - 1)),(151,.bool (decide (((i : Nat) : Int) < ((j : Nat) : Int))))] ?_
    clear hF a; intro a hF
    refine tK ?_
    refine cC 151 (decide (((i : Nat) : Int) < ((j : Nat) : Int))) hF (fun hc51 => ?_) (fun hc51 => ?_)
    ·skip
     replace hc51 := of_decide_eq_true hc51
     have hijc : i < j := by omega
     obtain ⟨aa,rfl,hcap_aa⟩ := own_d.someA (by omega)
     refine cN ?_
     refine tK ?_
     refine cB 9 ?_
     refine cS ?_
     refine cP 34 hF ?_
     refine sP 2 [nV i,nV j] ?_
     refine s1 3 (.int .i64 ((i + j : Nat) : Int)) (.int .i64 (IntKind.i64.wrap (((i : Nat) : Int) + ((j : Nat) : Int)))) (congrArg (Value.int .i64) (w64' (by omega) (by omega) (by omega))) ?_
     refine s1 4 (.int .u64 ((i + j : Nat) : Int)) (.int .u64 (IntKind.u64.wrap ((i + j : Nat) : Int))) (congrArg (Value.int .u64) (u64n (by omega))) ?_
     refine s1 5 (.int .u64 (((i + j) / 2 ^ 1 : Nat) : Int)) (.int .u64 (Int.fdiv ((i + j : Nat) : Int) (2 ^ 1))) (congrArg (Value.int .u64) (fdivN (i + j) 1)) ?_
     refine s1 6 (.int .i64 (((i + j) / 2 ^ 1 : Nat) : Int)) (.int .i64 (IntKind.i64.wrap (((i + j) / 2 ^ 1 : Nat) : Int))) (congrArg (Value.int .i64) (w64 (by omega) (by omega))) ?_
     refine sP 7 [nV ((i + j) / 2 ^ 1)] ?_
     refine sD [(0,.slice (some aa) n cap),(1,nV la),(2,nV lm),(3,nV lb),(4,.func (.func 29) #[] #[]),(18,nV mid),(19,nV (mid + lm)),(20,nV i),(21,nV j),(22,nV ((mid + lm) - 1)),(23,nV ((i + j) / 2 ^ 1))] ?_
     clear hF a; intro a hF
     obtain ⟨c,hc⟩ : ∃ x,(i + j) / 2 ^ 1 = x := ⟨_,rfl⟩; rw [hc] at hF
     have hcb : i ≤ c ∧ c < j := by omega
     refine tK ?_
     refine cS ?_
     refine cD [0,0,0,0,12,30,62,0,0,384,896,2047,4095,8191] 35 mixed hF ?_
     refine mP 15 [0,1,2,3] [.func (.func 29) #[] #[],.slice (some aa) n cap,nV ((mid + lm) - 1),nV c] ?_
     refine m1 31 4 (.int .i64 ((((mid + lm) - 1) - c : Nat) : Int)) (.int .i64 (IntKind.i64.wrap ((((mid + lm) - 1 : Nat) : Int) - ((c : Nat) : Int)))) (congrArg (Value.int .i64) (w64' (by omega) (by omega) (by omega))) ?_
     refine mF 63 5 (.pointer (some (Addr.add aa ((((mid + lm) - 1) - c) * 39)))) (Calm.indexA (a := aa) (len := n) (sz := 39) (k := ((((mid + lm) - 1) - c : Nat) : Int)) (((mid + lm) - 1) - c) ((((mid + lm) - 1) - c) * 39) (by kernel_rfl) rfl (by omega) (by omega)) ?_
     refine mL 127 64 6 (.agg (rcs (L.getD (((mid + lm) - 1) - c) rec0)).toArray) (Calm.load (T := 26) (p := (Addr.add aa ((((mid + lm) - 1) - c) * 39))) (by kernel_rfl) (Row.fm (d := rec0) (i := (((mid + lm) - 1) - c)) rcs_len (own_d.row) (by kernel_rfl) (by omega) (by omega))) ?_
     refine mP 511 [7,8] [.slice (some aa) n cap,nV c] ?_
     refine mF 1023 9 (.pointer (some (Addr.add aa (c * 39)))) (Calm.indexA (a := aa) (len := n) (sz := 39) (k := ((c : Nat) : Int)) c (c * 39) (by kernel_rfl) rfl (by omega) (by omega)) ?_
     refine mL 2047 1088 10 (.agg (rcs (L.getD c rec0)).toArray) (Calm.load (T := 26) (p := (Addr.add aa (c * 39))) (by kernel_rfl) (Row.fm (d := rec0) (i := c) rcs_len (own_d.row) (by kernel_rfl) (by omega) (by omega))) ?_
     refine SimK.eff0 (i := 11) (D' := 4095) (X' := 4095) (by kernel_rfl) (by kernel_rfl) (by kernel_rfl) (by kernel_rfl) (Does.call (f := 29) (args := #[.agg (rcs (L.getD (((mid + lm) - 1) - c) rec0)).toArray,.agg (rcs (L.getD c rec0)).toArray]) (by kernel_rfl) (less_sat _ (L.getD (((mid + lm) - 1) - c) rec0) (L.getD c rec0))) ?_
     rintro _ h52 ⟨rfl,g⟩
     replace g0 := g0.trans (g.but _)
     replace own_d := own_d.ext g
     clear g
     refine mP 16383 [12,13] [.bool (decide ((cbR (L.getD (((mid + lm) - 1) - c) rec0) (L.getD c rec0)) < (0 : Int))),.bool (!(decide ((cbR (L.getD (((mid + lm) - 1) - c) rec0) (L.getD c rec0)) < (0 : Int))))] ?_
     refine mD [(0,.slice (some aa) n cap),(1,nV la),(2,nV lm),(3,nV lb),(4,.func (.func 29) #[] #[]),(18,nV mid),(19,nV (mid + lm)),(20,nV i),(21,nV j),(22,nV ((mid + lm) - 1)),(23,nV c),(171,.bool (!(decide ((cbR (L.getD (((mid + lm) - 1) - c) rec0) (L.getD c rec0)) < (0 : Int)))))] ?_
     clear hF a; intro a hF
     refine tK ?_
     refine cC 171 (!(decide ((cbR (L.getD (((mid + lm) - 1) - c) rec0) (L.getD c rec0)) < (0 : Int)))) hF (fun hc53 => ?_) (fun hc53 => ?_)
     ·skip
      have hlo2 : c + 1 = s0 ∨ ¬ cbR (L.getD (mid + lm - 1 - (c + 1 - 1)) rec0) (L.getD (c + 1 - 1) rec0) < 0 := .inr (by rw [show mid + lm - 1 - (c + 1 - 1) = mid + lm - 1 - c by omega]; simpa using hc53)
      have hhi2 := hhi
      refine cP 36 hF ?_
      refine sP 1 [nV c] ?_
      refine s1 2 (.int .i64 ((c + 1 : Nat) : Int)) (.int .i64 (IntKind.i64.wrap (((c : Nat) : Int) + 1))) (congrArg (Value.int .i64) (w64' (by omega) (by omega) (by omega))) ?_
      refine sP 3 [nV (c + 1)] ?_
      refine sD [(0,.slice (some aa) n cap),(1,nV la),(2,nV lm),(3,nV lb),(4,.func (.func 29) #[] #[]),(18,nV mid),(19,nV (mid + lm)),(20,nV (c + 1)),(21,nV j),(22,nV ((mid + lm) - 1))] ?_
      clear hF a; intro a hF
      show ∃ m',m' < _ ∧ _
      refine ⟨_,?_,c + 1,j,rfl,g0,(by omega),hlo2,hhi2,own_d,hF⟩
      omega
     ·skip
      have hhi2 : c = r0 ∨ cbR (L.getD (mid + lm - 1 - (c)) rec0) (L.getD (c) rec0) < 0 := .inr (by simpa using hc53)
      have hlo2 := hlo
      refine cP 37 hF ?_
      refine sP 2 [nV c,nV c] ?_
      refine sD [(0,.slice (some aa) n cap),(1,nV la),(2,nV lm),(3,nV lb),(4,.func (.func 29) #[] #[]),(18,nV mid),(19,nV (mid + lm)),(20,nV i),(21,nV c),(22,nV ((mid + lm) - 1))] ?_
      clear hF a; intro a hF
      show ∃ m',m' < _ ∧ _
      refine ⟨_,?_,i,c,rfl,g0,(by omega),hlo2,hhi2,own_d,hF⟩
      omega
    ·skip
     replace hc51 := of_decide_eq_false hc51
     obtain rfl : i = j := by omega
     refine cX 8 ?_
     show C Try.prog (sub b38 [1,1,1,1,1,1,1,1]) _ a h50
     refine cS ?_
     refine cP 38 hF ?_
     refine sP 2 [nV (mid + lm),nV i] ?_
     refine s1 3 (.int .i64 (((mid + lm) - i : Nat) : Int)) (.int .i64 (IntKind.i64.wrap (((mid + lm : Nat) : Int) - ((i : Nat) : Int)))) (congrArg (Value.int .i64) (w64' (by omega) (by omega) (by omega))) ?_
     refine sP 4 [nV ((mid + lm) - i)] ?_
     refine sD [(0,.slice ad n cap),(1,nV la),(2,nV lm),(3,nV lb),(4,.func (.func 29) #[] #[]),(18,nV mid),(20,nV i),(24,nV ((mid + lm) - i))] ?_
     clear hF a; intro a hF
     obtain ⟨e,he⟩ : ∃ x,(mid + lm) - i = x := ⟨_,rfl⟩; rw [he] at hF
     have ham : la ≤ i ∧ i ≤ lm ∧ lm ≤ e ∧ e ≤ lb ∧ i ≤ mid ∧ mid ≤ e ∧ i + e = mid + lm := by omega
     have hlo3 : i = la ∨ e = lb ∨ leR (L.getD (i - 1) rec0) (L.getD e rec0) := by
      rcases hlo with z | z
      ·omega
      ·by_cases hi0 : i = la
       ·exact .inl hi0
       ·rw [show mid + lm - 1 - (i - 1) = e by omega] at z; exact .inr (.inr (leR_of_not z))
     have hhi3 : i = lm ∨ i = mid ∨ leR (L.getD (e - 1) rec0) (L.getD i rec0) := by
      rcases hhi with z | z
      ·omega
      ·rw [show mid + lm - 1 - i = e - 1 by omega] at z; exact .inr (.inr (leR_of_lt z))
     refine tK ?_
     refine cS ?_
     refine cS ?_
     rcases Nat.lt_or_ge i lm with hc1 | hc1
     rcases Nat.lt_or_ge lm e with hc2 | hc2
     ·skip
      refine cP 39 hF ?_
      refine sP 2 [nV i,nV lm] ?_
      refine s1 3 (.bool true) (.bool (decide (((i : Nat) : Int) < ((lm : Nat) : Int)))) (congrArg Value.bool (decide_eq_true (by omega))) ?_
      refine sP 6 [.bool true,nV lm,nV e] ?_
      refine s1 7 (.bool true) (.bool (decide (((lm : Nat) : Int) < ((e : Nat) : Int)))) (congrArg Value.bool (decide_eq_true (by omega))) ?_
      refine sP 8 [.bool true] ?_
      refine sD [(0,.slice ad n cap),(1,nV la),(2,nV lm),(3,nV lb),(4,.func (.func 29) #[] #[]),(18,nV mid),(20,nV i),(24,nV e),(185,.bool true)] ?_
      clear hF a; intro a hF
      refine tK ?_
      refine cT 185 hF ?_
      refine cP 40 hF ?_
      refine sP 5 [.slice ad n cap,nV i,nV lm,nV e,.func (.func 29) #[] #[]] ?_
      refine SeqK.eff (k' := 6) (Does.call (f := 40) (args := #[.slice ad n cap,.int .i64 ((i : Nat) : Int),.int .i64 ((lm : Nat) : Int),.int .i64 ((e : Nat) : Int),.func (.func 29) #[] #[]]) (by kernel_rfl) (rot_sat _ ad cap n i lm e L own_d hLn (by omega) (by omega) (by omega) (by omega))) rfl ?_
      rintro _ h55 ⟨K54,hM,hP,hx,ownx,g⟩
      replace g0 := g0.trans g
      clear own_d; have own_d := ownx; clear ownx g
      have hcut : Cut n la lm lb mid i e L K54 := ⟨hM,hP,hx,hs1,hs2,ham,hlo3,hhi3⟩
      refine sD [(0,.slice ad n cap),(1,nV la),(3,nV lb),(4,.func (.func 29) #[] #[]),(18,nV mid),(20,nV i),(24,nV e)] ?_
      clear hF a; intro a hF
      refine tK ?_
      refine cS ?_
      refine cS ?_
      rcases Nat.lt_or_ge la i with hc1 | hc1
      rcases Nat.lt_or_ge i mid with hc2 | hc2
      ·skip
       refine cP 41 hF ?_
       refine sP 2 [nV la,nV i] ?_
       refine s1 3 (.bool true) (.bool (decide (((la : Nat) : Int) < ((i : Nat) : Int)))) (congrArg Value.bool (decide_eq_true (by omega))) ?_
       refine sP 6 [.bool true,nV i,nV mid] ?_
       refine s1 7 (.bool true) (.bool (decide (((i : Nat) : Int) < ((mid : Nat) : Int)))) (congrArg Value.bool (decide_eq_true (by omega))) ?_
       refine sP 8 [.bool true] ?_
       refine sD [(0,.slice ad n cap),(1,nV la),(3,nV lb),(4,.func (.func 29) #[] #[]),(18,nV mid),(20,nV i),(24,nV e),(199,.bool true)] ?_
       clear hF a; intro a hF
       refine tK ?_
       refine cT 199 hF ?_
       refine cP 42 hF ?_
       refine sP 5 [.slice ad n cap,nV la,nV i,nV mid,.func (.func 29) #[] #[]] ?_
       refine SeqK.eff (k' := 6) (Does.call (f := 38) (args := #[.slice ad n cap,.int .i64 ((la : Nat) : Int),.int .i64 ((i : Nat) : Int),.int .i64 ((mid : Nat) : Int),.func (.func 29) #[] #[]]) (by kernel_rfl) (ih _ la i mid K54 (by omega) own_d hcut.len (by omega) (by omega) (by omega) hcut.r1 hcut.r2)) rfl ?_
       rintro _ h57 ⟨K56,hk,ownx,g⟩
       replace g0 := g0.trans g
       clear own_d; have own_d := ownx; clear ownx g
       refine sD [(0,.slice ad n cap),(3,nV lb),(4,.func (.func 29) #[] #[]),(18,nV mid),(24,nV e)] ?_
       clear hF a; intro a hF
       refine tK ?_
       refine cS ?_
       rcases Nat.lt_or_ge mid e with hc1 | hc1
       rcases Nat.lt_or_ge e lb with hc2 | hc2
       ·skip
        refine cP 43 hF ?_
        refine sP 2 [nV mid,nV e] ?_
        refine s1 3 (.bool true) (.bool (decide (((mid : Nat) : Int) < ((e : Nat) : Int)))) (congrArg Value.bool (decide_eq_true (by omega))) ?_
        refine sP 6 [.bool true,nV e,nV lb] ?_
        refine s1 7 (.bool true) (.bool (decide (((e : Nat) : Int) < ((lb : Nat) : Int)))) (congrArg Value.bool (decide_eq_true (by omega))) ?_
        refine sP 8 [.bool true] ?_
        refine sD [(0,.slice ad n cap),(3,nV lb),(4,.func (.func 29) #[] #[]),(18,nV mid),(24,nV e),(213,.bool true)] ?_
        clear hF a; intro a hF
        refine tK ?_
        refine cT 213 hF ?_
        refine cP 44 hF ?_
        refine sP 5 [.slice ad n cap,nV mid,nV e,nV lb,.func (.func 29) #[] #[]] ?_
        refine SeqK.eff (k' := 6) (Does.call (f := 38) (args := #[.slice ad n cap,.int .i64 ((mid : Nat) : Int),.int .i64 ((e : Nat) : Int),.int .i64 ((lb : Nat) : Int),.func (.func 29) #[] #[]]) (by kernel_rfl) (ih _ mid e lb K56 (by omega) own_d hk.len (by omega) (by omega) (by omega) (hcut.sort hk).1 (hcut.sort hk).2)) rfl ?_
        rintro _ h59 ⟨K58,hj,ownx,g⟩
        replace g0 := g0.trans g
        clear own_d; have own_d := ownx; clear ownx g
        refine sD [] ?_
        clear hF a; intro a hF
        show retK Try.prog Try.f38 (fun _ h' => ∃ M,Mgd n la lb L M ∧ Own h' (.slice ad n cap) 26 n 39 (rrow M) ∧ Grew (ad.map (fun (x : Addr) => x.block)) h h') .normal a h59
        refine ret_okN [] [] (.tuple #[]) rfl hF trivial rfl ?_
        exact ⟨K58,hcut.done hk hj,own_d,g0⟩
       ·skip
        have hj := hcut.right hk (by omega)
        refine cP 43 hF ?_
        refine sP 2 [nV mid,nV e] ?_
        refine s1 3 (.bool true) (.bool (decide (((mid : Nat) : Int) < ((e : Nat) : Int)))) (congrArg Value.bool (decide_eq_true (by omega))) ?_
        refine sP 6 [.bool true,nV e,nV lb] ?_
        refine s1 7 (.bool false) (.bool (decide (((e : Nat) : Int) < ((lb : Nat) : Int)))) (congrArg Value.bool (decide_eq_false (by omega))) ?_
        refine sP 8 [.bool false] ?_
        refine sD [(0,.slice ad n cap),(3,nV lb),(4,.func (.func 29) #[] #[]),(18,nV mid),(24,nV e),(213,.bool false)] ?_
        clear hF a; intro a hF
        refine tK ?_
        refine cF 213 hF ?_
        refine cN ?_
        show retK Try.prog Try.f38 (fun _ h' => ∃ M,Mgd n la lb L M ∧ Own h' (.slice ad n cap) 26 n 39 (rrow M) ∧ Grew (ad.map (fun (x : Addr) => x.block)) h h') .normal a h57
        refine ret_okN [] [] (.tuple #[]) rfl hF trivial rfl ?_
        exact ⟨K56,hcut.done hk hj,own_d,g0⟩
       ·skip
        have hj := hcut.right hk (by omega)
        refine cP 43 hF ?_
        refine sP 2 [nV mid,nV e] ?_
        refine s1 3 (.bool false) (.bool (decide (((mid : Nat) : Int) < ((e : Nat) : Int)))) (congrArg Value.bool (decide_eq_false (by omega))) ?_
        refine sP 8 [.bool false,undef,undef,undef,.bool false] ?_
        refine sD [(0,.slice ad n cap),(3,nV lb),(4,.func (.func 29) #[] #[]),(18,nV mid),(24,nV e),(213,.bool false)] ?_
        clear hF a; intro a hF
        refine tK ?_
        refine cF 213 hF ?_
        refine cN ?_
        show retK Try.prog Try.f38 (fun _ h' => ∃ M,Mgd n la lb L M ∧ Own h' (.slice ad n cap) 26 n 39 (rrow M) ∧ Grew (ad.map (fun (x : Addr) => x.block)) h h') .normal a h57
        refine ret_okN [] [] (.tuple #[]) rfl hF trivial rfl ?_
        exact ⟨K56,hcut.done hk hj,own_d,g0⟩
      ·skip
       have hk := hcut.left (by omega)
       refine cP 41 hF ?_
       refine sP 2 [nV la,nV i] ?_
       refine s1 3 (.bool true) (.bool (decide (((la : Nat) : Int) < ((i : Nat) : Int)))) (congrArg Value.bool (decide_eq_true (by omega))) ?_
       refine sP 6 [.bool true,nV i,nV mid] ?_
       refine s1 7 (.bool false) (.bool (decide (((i : Nat) : Int) < ((mid : Nat) : Int)))) (congrArg Value.bool (decide_eq_false (by omega))) ?_
       refine sP 8 [.bool false] ?_
       refine sD [(0,.slice ad n cap),(1,nV la),(3,nV lb),(4,.func (.func 29) #[] #[]),(18,nV mid),(20,nV i),(24,nV e),(199,.bool false)] ?_
       clear hF a; intro a hF
       refine tK ?_
       refine cF 199 hF ?_
       refine cN ?_
       refine tK ?_
       refine cS ?_
       rcases Nat.lt_or_ge mid e with hc1 | hc1
       rcases Nat.lt_or_ge e lb with hc2 | hc2
       ·skip
        refine cP 43 hF ?_
        refine sP 2 [nV mid,nV e] ?_
        refine s1 3 (.bool true) (.bool (decide (((mid : Nat) : Int) < ((e : Nat) : Int)))) (congrArg Value.bool (decide_eq_true (by omega))) ?_
        refine sP 6 [.bool true,nV e,nV lb] ?_
        refine s1 7 (.bool true) (.bool (decide (((e : Nat) : Int) < ((lb : Nat) : Int)))) (congrArg Value.bool (decide_eq_true (by omega))) ?_
        refine sP 8 [.bool true] ?_
        refine sD [(0,.slice ad n cap),(3,nV lb),(4,.func (.func 29) #[] #[]),(18,nV mid),(24,nV e),(213,.bool true)] ?_
        clear hF a; intro a hF
        refine tK ?_
        refine cT 213 hF ?_
        refine cP 44 hF ?_
        refine sP 5 [.slice ad n cap,nV mid,nV e,nV lb,.func (.func 29) #[] #[]] ?_
        refine SeqK.eff (k' := 6) (Does.call (f := 38) (args := #[.slice ad n cap,.int .i64 ((mid : Nat) : Int),.int .i64 ((e : Nat) : Int),.int .i64 ((lb : Nat) : Int),.func (.func 29) #[] #[]]) (by kernel_rfl) (ih _ mid e lb K54 (by omega) own_d hk.len (by omega) (by omega) (by omega) (hcut.sort hk).1 (hcut.sort hk).2)) rfl ?_
        rintro _ h61 ⟨K60,hj,ownx,g⟩
        replace g0 := g0.trans g
        clear own_d; have own_d := ownx; clear ownx g
        refine sD [] ?_
        clear hF a; intro a hF
        show retK Try.prog Try.f38 (fun _ h' => ∃ M,Mgd n la lb L M ∧ Own h' (.slice ad n cap) 26 n 39 (rrow M) ∧ Grew (ad.map (fun (x : Addr) => x.block)) h h') .normal a h61
        refine ret_okN [] [] (.tuple #[]) rfl hF trivial rfl ?_
        exact ⟨K60,hcut.done hk hj,own_d,g0⟩
       ·skip
        have hj := hcut.right hk (by omega)
        refine cP 43 hF ?_
        refine sP 2 [nV mid,nV e] ?_
        refine s1 3 (.bool true) (.bool (decide (((mid : Nat) : Int) < ((e : Nat) : Int)))) (congrArg Value.bool (decide_eq_true (by omega))) ?_
        refine sP 6 [.bool true,nV e,nV lb] ?_
        refine s1 7 (.bool false) (.bool (decide (((e : Nat) : Int) < ((lb : Nat) : Int)))) (congrArg Value.bool (decide_eq_false (by omega))) ?_
        refine sP 8 [.bool false] ?_
        refine sD [(0,.slice ad n cap),(3,nV lb),(4,.func (.func 29) #[] #[]),(18,nV mid),(24,nV e),(213,.bool false)] ?_
        clear hF a; intro a hF
        refine tK ?_
        refine cF 213 hF ?_
        refine cN ?_
        show retK Try.prog Try.f38 (fun _ h' => ∃ M,Mgd n la lb L M ∧ Own h' (.slice ad n cap) 26 n 39 (rrow M) ∧ Grew (ad.map (fun (x : Addr) => x.block)) h h') .normal a h55
        refine ret_okN [] [] (.tuple #[]) rfl hF trivial rfl ?_
        exact ⟨K54,hcut.done hk hj,own_d,g0⟩
       ·skip
        have hj := hcut.right hk (by omega)
        refine cP 43 hF ?_
        refine sP 2 [nV mid,nV e] ?_
        refine s1 3 (.bool false) (.bool (decide (((mid : Nat) : Int) < ((e : Nat) : Int)))) (congrArg Value.bool (decide_eq_false (by omega))) ?_
        refine sP 8 [.bool false,undef,undef,undef,.bool false] ?_
        refine sD [(0,.slice ad n cap),(3,nV lb),(4,.func (.func 29) #[] #[]),(18,nV mid),(24,nV e),(213,.bool false)] ?_
        clear hF a; intro a hF
        refine tK ?_
        refine cF 213 hF ?_
        refine cN ?_
        show retK Try.prog Try.f38 (fun _ h' => ∃ M,Mgd n la lb L M ∧ Own h' (.slice ad n cap) 26 n 39 (rrow M) ∧ Grew (ad.map (fun (x : Addr) => x.block)) h h') .normal a h55
        refine ret_okN [] [] (.tuple #[]) rfl hF trivial rfl ?_
        exact ⟨K54,hcut.done hk hj,own_d,g0⟩
      ·skip
       have hk := hcut.left (by omega)
       refine cP 41 hF ?_
       refine sP 2 [nV la,nV i] ?_
       refine s1 3 (.bool false) (.bool (decide (((la : Nat) : Int) < ((i : Nat) : Int)))) (congrArg Value.bool (decide_eq_false (by omega))) ?_
       refine sP 8 [.bool false,undef,undef,undef,.bool false] ?_
       refine sD [(0,.slice ad n cap),(1,nV la),(3,nV lb),(4,.func (.func 29) #[] #[]),(18,nV mid),(20,nV i),(24,nV e),(199,.bool false)] ?_
       clear hF a; intro a hF
       refine tK ?_
       refine cF 199 hF ?_
       refine cN ?_
       refine tK ?_
       refine cS ?_
       rcases Nat.lt_or_ge mid e with hc1 | hc1
       rcases Nat.lt_or_ge e lb with hc2 | hc2
       ·skip
        refine cP 43 hF ?_
        refine sP 2 [nV mid,nV e] ?_
        refine s1 3 (.bool true) (.bool (decide (((mid : Nat) : Int) < ((e : Nat) : Int)))) (congrArg Value.bool (decide_eq_true (by omega))) ?_
        refine sP 6 [.bool true,nV e,nV lb] ?_
        refine s1 7 (.bool true) (.bool (decide (((e : Nat) : Int) < ((lb : Nat) : Int)))) (congrArg Value.bool (decide_eq_true (by omega))) ?_
        refine sP 8 [.bool true] ?_
        refine sD [(0,.slice ad n cap),(3,nV lb),(4,.func (.func 29) #[] #[]),(18,nV mid),(24,nV e),(213,.bool true)] ?_
        clear hF a; intro a hF
        refine tK ?_
        refine cT 213 hF ?_
        refine cP 44 hF ?_
        refine sP 5 [.slice ad n cap,nV mid,nV e,nV lb,.func (.func 29) #[] #[]] ?_
        refine SeqK.eff (k' := 6) (Does.call (f := 38) (args := #[.slice ad n cap,.int .i64 ((mid : Nat) : Int),.int .i64 ((e : Nat) : Int),.int .i64 ((lb : Nat) : Int),.func (.func 29) #[] #[]]) (by kernel_rfl) (ih _ mid e lb K54 (by omega) own_d hk.len (by omega) (by omega) (by omega) (hcut.sort hk).1 (hcut.sort hk).2)) rfl ?_
        rintro _ h63 ⟨K62,hj,ownx,g⟩
        replace g0 := g0.trans g
        clear own_d; have own_d := ownx; clear ownx g
        refine sD [] ?_
        clear hF a; intro a hF
        show retK Try.prog Try.f38 (fun _ h' => ∃ M,Mgd n la lb L M ∧ Own h' (.slice ad n cap) 26 n 39 (rrow M) ∧ Grew (ad.map (fun (x : Addr) => x.block)) h h') .normal a h63
        refine ret_okN [] [] (.tuple #[]) rfl hF trivial rfl ?_
        exact ⟨K62,hcut.done hk hj,own_d,g0⟩
       ·skip
        have hj := hcut.right hk (by omega)
        refine cP 43 hF ?_
        refine sP 2 [nV mid,nV e] ?_
        refine s1 3 (.bool true) (.bool (decide (((mid : Nat) : Int) < ((e : Nat) : Int)))) (congrArg Value.bool (decide_eq_true (by omega))) ?_
        refine sP 6 [.bool true,nV e,nV lb] ?_
        refine s1 7 (.bool false) (.bool (decide (((e : Nat) : Int) < ((lb : Nat) : Int)))) (congrArg Value.bool (decide_eq_false (by omega))) ?_
        refine sP 8 [.bool false] ?_
        refine sD [(0,.slice ad n cap),(3,nV lb),(4,.func (.func 29) #[] #[]),(18,nV mid),(24,nV e),(213,.bool false)] ?_
        clear hF a; intro a hF
        refine tK ?_
        refine cF 213 hF ?_
        refine cN ?_
        show retK Try.prog Try.f38 (fun _ h' => ∃ M,Mgd n la lb L M ∧ Own h' (.slice ad n cap) 26 n 39 (rrow M) ∧ Grew (ad.map (fun (x : Addr) => x.block)) h h') .normal a h55
        refine ret_okN [] [] (.tuple #[]) rfl hF trivial rfl ?_
        exact ⟨K54,hcut.done hk hj,own_d,g0⟩
       ·skip
        have hj := hcut.right hk (by omega)
        refine cP 43 hF ?_
        refine sP 2 [nV mid,nV e] ?_
        refine s1 3 (.bool false) (.bool (decide (((mid : Nat) : Int) < ((e : Nat) : Int)))) (congrArg Value.bool (decide_eq_false (by omega))) ?_
        refine sP 8 [.bool false,undef,undef,undef,.bool false] ?_
        refine sD [(0,.slice ad n cap),(3,nV lb),(4,.func (.func 29) #[] #[]),(18,nV mid),(24,nV e),(213,.bool false)] ?_
        clear hF a; intro a hF
        refine tK ?_
        refine cF 213 hF ?_
        refine cN ?_
        show retK Try.prog Try.f38 (fun _ h' => ∃ M,Mgd n la lb L M ∧ Own h' (.slice ad n cap) 26 n 39 (rrow M) ∧ Grew (ad.map (fun (x : Addr) => x.block)) h h') .normal a h55
        refine ret_okN [] [] (.tuple #[]) rfl hF trivial rfl ?_
        exact ⟨K54,hcut.done hk hj,own_d,g0⟩
     ·skip
      have hcut : Cut n la lm lb mid i e L L := ⟨hLn,List.Perm.refl _,Idx.refl _ (rtx_none (by omega)),hs1,hs2,ham,hlo3,hhi3⟩
      refine cP 39 hF ?_
      refine sP 2 [nV i,nV lm] ?_
      refine s1 3 (.bool true) (.bool (decide (((i : Nat) : Int) < ((lm : Nat) : Int)))) (congrArg Value.bool (decide_eq_true (by omega))) ?_
      refine sP 6 [.bool true,nV lm,nV e] ?_
      refine s1 7 (.bool false) (.bool (decide (((lm : Nat) : Int) < ((e : Nat) : Int)))) (congrArg Value.bool (decide_eq_false (by omega))) ?_
      refine sP 8 [.bool false] ?_
      refine sD [(0,.slice ad n cap),(1,nV la),(2,nV lm),(3,nV lb),(4,.func (.func 29) #[] #[]),(18,nV mid),(20,nV i),(24,nV e),(185,.bool false)] ?_
      clear hF a; intro a hF
      refine tK ?_
      refine cF 185 hF ?_
      refine cN ?_
      refine tK ?_
      refine cS ?_
      refine cS ?_
      rcases Nat.lt_or_ge la i with hc1 | hc1
      rcases Nat.lt_or_ge i mid with hc2 | hc2
      ·skip
       refine cP 41 hF ?_
       refine sP 2 [nV la,nV i] ?_
       refine s1 3 (.bool true) (.bool (decide (((la : Nat) : Int) < ((i : Nat) : Int)))) (congrArg Value.bool (decide_eq_true (by omega))) ?_
       refine sP 6 [.bool true,nV i,nV mid] ?_
       refine s1 7 (.bool true) (.bool (decide (((i : Nat) : Int) < ((mid : Nat) : Int)))) (congrArg Value.bool (decide_eq_true (by omega))) ?_
       refine sP 8 [.bool true] ?_
       refine sD [(0,.slice ad n cap),(1,nV la),(3,nV lb),(4,.func (.func 29) #[] #[]),(18,nV mid),(20,nV i),(24,nV e),(199,.bool true)] ?_
       clear hF a; intro a hF
       refine tK ?_
       refine cT 199 hF ?_
       refine cP 42 hF ?_
       refine sP 5 [.slice ad n cap,nV la,nV i,nV mid,.func (.func 29) #[] #[]] ?_
       refine SeqK.eff (k' := 6) (Does.call (f := 38) (args := #[.slice ad n cap,.int .i64 ((la : Nat) : Int),.int .i64 ((i : Nat) : Int),.int .i64 ((mid : Nat) : Int),.func (.func 29) #[] #[]]) (by kernel_rfl) (ih _ la i mid L (by omega) own_d hcut.len (by omega) (by omega) (by omega) hcut.r1 hcut.r2)) rfl ?_
       rintro _ h65 ⟨K64,hk,ownx,g⟩
       replace g0 := g0.trans g
       clear own_d; have own_d := ownx; clear ownx g
       refine sD [(0,.slice ad n cap),(3,nV lb),(4,.func (.func 29) #[] #[]),(18,nV mid),(24,nV e)] ?_
       clear hF a; intro a hF
       refine tK ?_
       refine cS ?_
       rcases Nat.lt_or_ge mid e with hc1 | hc1
       rcases Nat.lt_or_ge e lb with hc2 | hc2
       ·skip
        refine cP 43 hF ?_
        refine sP 2 [nV mid,nV e] ?_
        refine s1 3 (.bool true) (.bool (decide (((mid : Nat) : Int) < ((e : Nat) : Int)))) (congrArg Value.bool (decide_eq_true (by omega))) ?_
        refine sP 6 [.bool true,nV e,nV lb] ?_
        refine s1 7 (.bool true) (.bool (decide (((e : Nat) : Int) < ((lb : Nat) : Int)))) (congrArg Value.bool (decide_eq_true (by omega))) ?_
        refine sP 8 [.bool true] ?_
        refine sD [(0,.slice ad n cap),(3,nV lb),(4,.func (.func 29) #[] #[]),(18,nV mid),(24,nV e),(213,.bool true)] ?_
        clear hF a; intro a hF
        refine tK ?_
        refine cT 213 hF ?_
        refine cP 44 hF ?_
        refine sP 5 [.slice ad n cap,nV mid,nV e,nV lb,.func (.func 29) #[] #[]] ?_
        refine SeqK.eff (k' := 6) (Does.call (f := 38) (args := #[.slice ad n cap,.int .i64 ((mid : Nat) : Int),.int .i64 ((e : Nat) : Int),.int .i64 ((lb : Nat) : Int),.func (.func 29) #[] #[]]) (by kernel_rfl) (ih _ mid e lb K64 (by omega) own_d hk.len (by omega) (by omega) (by omega) (hcut.sort hk).1 (hcut.sort hk).2)) rfl ?_
        rintro _ h67 ⟨K66,hj,ownx,g⟩
        replace g0 := g0.trans g
        clear own_d; have own_d := ownx; clear ownx g
        refine sD [] ?_
        clear hF a; intro a hF
        show retK Try.prog Try.f38 (fun _ h' => ∃ M,Mgd n la lb L M ∧ Own h' (.slice ad n cap) 26 n 39 (rrow M) ∧ Grew (ad.map (fun (x : Addr) => x.block)) h h') .normal a h67
        refine ret_okN [] [] (.tuple #[]) rfl hF trivial rfl ?_
        exact ⟨K66,hcut.done hk hj,own_d,g0⟩
       ·skip
        have hj := hcut.right hk (by omega)
        refine cP 43 hF ?_
        refine sP 2 [nV mid,nV e] ?_
        refine s1 3 (.bool true) (.bool (decide (((mid : Nat) : Int) < ((e : Nat) : Int)))) (congrArg Value.bool (decide_eq_true (by omega))) ?_
        refine sP 6 [.bool true,nV e,nV lb] ?_
        refine s1 7 (.bool false) (.bool (decide (((e : Nat) : Int) < ((lb : Nat) : Int)))) (congrArg Value.bool (decide_eq_false (by omega))) ?_
        refine sP 8 [.bool false] ?_
        refine sD [(0,.slice ad n cap),(3,nV lb),(4,.func (.func 29) #[] #[]),(18,nV mid),(24,nV e),(213,.bool false)] ?_
        clear hF a; intro a hF
        refine tK ?_
        refine cF 213 hF ?_
        refine cN ?_
        show retK Try.prog Try.f38 (fun _ h' => ∃ M,Mgd n la lb L M ∧ Own h' (.slice ad n cap) 26 n 39 (rrow M) ∧ Grew (ad.map (fun (x : Addr) => x.block)) h h') .normal a h65
        refine ret_okN [] [] (.tuple #[]) rfl hF trivial rfl ?_
        exact ⟨K64,hcut.done hk hj,own_d,g0⟩
       ·skip
        have hj := hcut.right hk (by omega)
        refine cP 43 hF ?_
        refine sP 2 [nV mid,nV e] ?_
        refine s1 3 (.bool false) (.bool (decide (((mid : Nat) : Int) < ((e : Nat) : Int)))) (congrArg Value.bool (decide_eq_false (by omega))) ?_
        refine sP 8 [.bool false,undef,undef,undef,.bool false] ?_
        refine sD [(0,.slice ad n cap),(3,nV lb),(4,.func (.func 29) #[] #[]),(18,nV mid),(24,nV e),(213,.bool false)] ?_
        clear hF a; intro a hF
        refine tK ?_
        refine cF 213 hF ?_
        refine cN ?_
        show retK Try.prog Try.f38 (fun _ h' => ∃ M,Mgd n la lb L M ∧ Own h' (.slice ad n cap) 26 n 39 (rrow M) ∧ Grew (ad.map (fun (x : Addr) => x.block)) h h') .normal a h65
        refine ret_okN [] [] (.tuple #[]) rfl hF trivial rfl ?_
        exact ⟨K64,hcut.done hk hj,own_d,g0⟩
      ·skip
       have hk := hcut.left (by omega)
       refine cP 41 hF ?_
       refine sP 2 [nV la,nV i] ?_
       refine s1 3 (.bool true) (.bool (decide (((la : Nat) : Int) < ((i : Nat) : Int)))) (congrArg Value.bool (decide_eq_true (by omega))) ?_
       refine sP 6 [.bool true,nV i,nV mid] ?_
       refine s1 7 (.bool false) (.bool (decide (((i : Nat) : Int) < ((mid : Nat) : Int)))) (congrArg Value.bool (decide_eq_false (by omega))) ?_
       refine sP 8 [.bool false] ?_
       refine sD [(0,.slice ad n cap),(1,nV la),(3,nV lb),(4,.func (.func 29) #[] #[]),(18,nV mid),(20,nV i),(24,nV e),(199,.bool false)] ?_
       clear hF a; intro a hF
       refine tK ?_
       refine cF 199 hF ?_
       refine cN ?_
       refine tK ?_
       refine cS ?_
       rcases Nat.lt_or_ge mid e with hc1 | hc1
       rcases Nat.lt_or_ge e lb with hc2 | hc2
       ·skip
        refine cP 43 hF ?_
        refine sP 2 [nV mid,nV e] ?_
        refine s1 3 (.bool true) (.bool (decide (((mid : Nat) : Int) < ((e : Nat) : Int)))) (congrArg Value.bool (decide_eq_true (by omega))) ?_
        refine sP 6 [.bool true,nV e,nV lb] ?_
        refine s1 7 (.bool true) (.bool (decide (((e : Nat) : Int) < ((lb : Nat) : Int)))) (congrArg Value.bool (decide_eq_true (by omega))) ?_
        refine sP 8 [.bool true] ?_
        refine sD [(0,.slice ad n cap),(3,nV lb),(4,.func (.func 29) #[] #[]),(18,nV mid),(24,nV e),(213,.bool true)] ?_
        clear hF a; intro a hF
        refine tK ?_
        refine cT 213 hF ?_
        refine cP 44 hF ?_
        refine sP 5 [.slice ad n cap,nV mid,nV e,nV lb,.func (.func 29) #[] #[]] ?_
        refine SeqK.eff (k' := 6) (Does.call (f := 38) (args := #[.slice ad n cap,.int .i64 ((mid : Nat) : Int),.int .i64 ((e : Nat) : Int),.int .i64 ((lb : Nat) : Int),.func (.func 29) #[] #[]]) (by kernel_rfl) (ih _ mid e lb L (by omega) own_d hk.len (by omega) (by omega) (by omega) (hcut.sort hk).1 (hcut.sort hk).2)) rfl ?_
        rintro _ h69 ⟨K68,hj,ownx,g⟩
        replace g0 := g0.trans g
        clear own_d; have own_d := ownx; clear ownx g
        refine sD [] ?_
        clear hF a; intro a hF
        show retK Try.prog Try.f38 (fun _ h' => ∃ M,Mgd n la lb L M ∧ Own h' (.slice ad n cap) 26 n 39 (rrow M) ∧ Grew (ad.map (fun (x : Addr) => x.block)) h h') .normal a h69
        refine ret_okN [] [] (.tuple #[]) rfl hF trivial rfl ?_
        exact ⟨K68,hcut.done hk hj,own_d,g0⟩
       ·skip
        have hj := hcut.right hk (by omega)
        refine cP 43 hF ?_
        refine sP 2 [nV mid,nV e] ?_
        refine s1 3 (.bool true) (.bool (decide (((mid : Nat) : Int) < ((e : Nat) : Int)))) (congrArg Value.bool (decide_eq_true (by omega))) ?_
        refine sP 6 [.bool true,nV e,nV lb] ?_
        refine s1 7 (.bool false) (.bool (decide (((e : Nat) : Int) < ((lb : Nat) : Int)))) (congrArg Value.bool (decide_eq_false (by omega))) ?_
        refine sP 8 [.bool false] ?_
        refine sD [(0,.slice ad n cap),(3,nV lb),(4,.func (.func 29) #[] #[]),(18,nV mid),(24,nV e),(213,.bool false)] ?_
        clear hF a; intro a hF
        refine tK ?_
        refine cF 213 hF ?_
        refine cN ?_
        show retK Try.prog Try.f38 (fun _ h' => ∃ M,Mgd n la lb L M ∧ Own h' (.slice ad n cap) 26 n 39 (rrow M) ∧ Grew (ad.map (fun (x : Addr) => x.block)) h h') .normal a h50
        refine ret_okN [] [] (.tuple #[]) rfl hF trivial rfl ?_
        exact ⟨L,hcut.done hk hj,own_d,g0⟩
       ·skip
        have hj := hcut.right hk (by omega)
        refine cP 43 hF ?_
        refine sP 2 [nV mid,nV e] ?_
        refine s1 3 (.bool false) (.bool (decide (((mid : Nat) : Int) < ((e : Nat) : Int)))) (congrArg Value.bool (decide_eq_false (by omega))) ?_
        refine sP 8 [.bool false,undef,undef,undef,.bool false] ?_
        refine sD [(0,.slice ad n cap),(3,nV lb),(4,.func (.func 29) #[] #[]),(18,nV mid),(24,nV e),(213,.bool false)] ?_
        clear hF a; intro a hF
        refine tK ?_
        refine cF 213 hF ?_
        refine cN ?_
        show retK Try.prog Try.f38 (fun _ h' => ∃ M,Mgd n la lb L M ∧ Own h' (.slice ad n cap) 26 n 39 (rrow M) ∧ Grew (ad.map (fun (x : Addr) => x.block)) h h') .normal a h50
        refine ret_okN [] [] (.tuple #[]) rfl hF trivial rfl ?_
        exact ⟨L,hcut.done hk hj,own_d,g0⟩
      ·skip
       have hk := hcut.left (by omega)
       refine cP 41 hF ?_
       refine sP 2 [nV la,nV i] ?_
       refine s1 3 (.bool false) (.bool (decide (((la : Nat) : Int) < ((i : Nat) : Int)))) (congrArg Value.bool (decide_eq_false (by omega))) ?_
       refine sP 8 [.bool false,undef,undef,undef,.bool false] ?_
       refine sD [(0,.slice ad n cap),(1,nV la),(3,nV lb),(4,.func (.func 29) #[] #[]),(18,nV mid),(20,nV i),(24,nV e),(199,.bool false)] ?_
       clear hF a; intro a hF
       refine tK ?_
       refine cF 199 hF ?_
       refine cN ?_
       refine tK ?_
       refine cS ?_
       rcases Nat.lt_or_ge mid e with hc1 | hc1
       rcases Nat.lt_or_ge e lb with hc2 | hc2
       ·skip
        refine cP 43 hF ?_
        refine sP 2 [nV mid,nV e] ?_
        refine s1 3 (.bool true) (.bool (decide (((mid : Nat) : Int) < ((e : Nat) : Int)))) (congrArg Value.bool (decide_eq_true (by omega))) ?_
        refine sP 6 [.bool true,nV e,nV lb] ?_
        refine s1 7 (.bool true) (.bool (decide (((e : Nat) : Int) < ((lb : Nat) : Int)))) (congrArg Value.bool (decide_eq_true (by omega))) ?_
        refine sP 8 [.bool true] ?_
        refine sD [(0,.slice ad n cap),(3,nV lb),(4,.func (.func 29) #[] #[]),(18,nV mid),(24,nV e),(213,.bool true)] ?_
        clear hF a; intro a hF
        refine tK ?_
        refine cT 213 hF ?_
        refine cP 44 hF ?_
        refine sP 5 [.slice ad n cap,nV mid,nV e,nV lb,.func (.func 29) #[] #[]] ?_
        refine SeqK.eff (k' := 6) (Does.call (f := 38) (args := #[.slice ad n cap,.int .i64 ((mid : Nat) : Int),.int .i64 ((e : Nat) : Int),.int .i64 ((lb : Nat) : Int),.func (.func 29) #[] #[]]) (by kernel_rfl) (ih _ mid e lb L (by omega) own_d hk.len (by omega) (by omega) (by omega) (hcut.sort hk).1 (hcut.sort hk).2)) rfl ?_
        rintro _ h71 ⟨K70,hj,ownx,g⟩
        replace g0 := g0.trans g
        clear own_d; have own_d := ownx; clear ownx g
        refine sD [] ?_
        clear hF a; intro a hF
        show retK Try.prog Try.f38 (fun _ h' => ∃ M,Mgd n la lb L M ∧ Own h' (.slice ad n cap) 26 n 39 (rrow M) ∧ Grew (ad.map (fun (x : Addr) => x.block)) h h') .normal a h71
        refine ret_okN [] [] (.tuple #[]) rfl hF trivial rfl ?_
        exact ⟨K70,hcut.done hk hj,own_d,g0⟩
       ·skip
        have hj := hcut.right hk (by omega)
        refine cP 43 hF ?_
        refine sP 2 [nV mid,nV e] ?_
        refine s1 3 (.bool true) (.bool (decide (((mid : Nat) : Int) < ((e : Nat) : Int)))) (congrArg Value.bool (decide_eq_true (by omega))) ?_
        refine sP 6 [.bool true,nV e,nV lb] ?_
        refine s1 7 (.bool false) (.bool (decide (((e : Nat) : Int) < ((lb : Nat) : Int)))) (congrArg Value.bool (decide_eq_false (by omega))) ?_
        refine sP 8 [.bool false] ?_
        refine sD [(0,.slice ad n cap),(3,nV lb),(4,.func (.func 29) #[] #[]),(18,nV mid),(24,nV e),(213,.bool false)] ?_
        clear hF a; intro a hF
        refine tK ?_
        refine cF 213 hF ?_
        refine cN ?_
        show retK Try.prog Try.f38 (fun _ h' => ∃ M,Mgd n la lb L M ∧ Own h' (.slice ad n cap) 26 n 39 (rrow M) ∧ Grew (ad.map (fun (x : Addr) => x.block)) h h') .normal a h50
        refine ret_okN [] [] (.tuple #[]) rfl hF trivial rfl ?_
        exact ⟨L,hcut.done hk hj,own_d,g0⟩
       ·skip
        have hj := hcut.right hk (by omega)
        refine cP 43 hF ?_
        refine sP 2 [nV mid,nV e] ?_
        refine s1 3 (.bool false) (.bool (decide (((mid : Nat) : Int) < ((e : Nat) : Int)))) (congrArg Value.bool (decide_eq_false (by omega))) ?_
        refine sP 8 [.bool false,undef,undef,undef,.bool false] ?_
        refine sD [(0,.slice ad n cap),(3,nV lb),(4,.func (.func 29) #[] #[]),(18,nV mid),(24,nV e),(213,.bool false)] ?_
        clear hF a; intro a hF
        refine tK ?_
        refine cF 213 hF ?_
        refine cN ?_
        show retK Try.prog Try.f38 (fun _ h' => ∃ M,Mgd n la lb L M ∧ Own h' (.slice ad n cap) 26 n 39 (rrow M) ∧ Grew (ad.map (fun (x : Addr) => x.block)) h h') .normal a h50
        refine ret_okN [] [] (.tuple #[]) rfl hF trivial rfl ?_
        exact ⟨L,hcut.done hk hj,own_d,g0⟩
     ·skip
      have hcut : Cut n la lm lb mid i e L L := ⟨hLn,List.Perm.refl _,Idx.refl _ (rtx_none (by omega)),hs1,hs2,ham,hlo3,hhi3⟩
      refine cP 39 hF ?_
      refine sP 2 [nV i,nV lm] ?_
      refine s1 3 (.bool false) (.bool (decide (((i : Nat) : Int) < ((lm : Nat) : Int)))) (congrArg Value.bool (decide_eq_false (by omega))) ?_
      refine sP 8 [.bool false,undef,undef,undef,.bool false] ?_
      refine sD [(0,.slice ad n cap),(1,nV la),(2,nV lm),(3,nV lb),(4,.func (.func 29) #[] #[]),(18,nV mid),(20,nV i),(24,nV e),(185,.bool false)] ?_
      clear hF a; intro a hF
      refine tK ?_
      refine cF 185 hF ?_
      refine cN ?_
      refine tK ?_
      refine cS ?_
      refine cS ?_
      rcases Nat.lt_or_ge la i with hc1 | hc1
      rcases Nat.lt_or_ge i mid with hc2 | hc2
      ·skip
       refine cP 41 hF ?_
       refine sP 2 [nV la,nV i] ?_
       refine s1 3 (.bool true) (.bool (decide (((la : Nat) : Int) < ((i : Nat) : Int)))) (congrArg Value.bool (decide_eq_true (by omega))) ?_
       refine sP 6 [.bool true,nV i,nV mid] ?_
       refine s1 7 (.bool true) (.bool (decide (((i : Nat) : Int) < ((mid : Nat) : Int)))) (congrArg Value.bool (decide_eq_true (by omega))) ?_
       refine sP 8 [.bool true] ?_
       refine sD [(0,.slice ad n cap),(1,nV la),(3,nV lb),(4,.func (.func 29) #[] #[]),(18,nV mid),(20,nV i),(24,nV e),(199,.bool true)] ?_
       clear hF a; intro a hF
       refine tK ?_
       refine cT 199 hF ?_
       refine cP 42 hF ?_
       refine sP 5 [.slice ad n cap,nV la,nV i,nV mid,.func (.func 29) #[] #[]] ?_
       refine SeqK.eff (k' := 6) (Does.call (f := 38) (args := #[.slice ad n cap,.int .i64 ((la : Nat) : Int),.int .i64 ((i : Nat) : Int),.int .i64 ((mid : Nat) : Int),.func (.func 29) #[] #[]]) (by kernel_rfl) (ih _ la i mid L (by omega) own_d hcut.len (by omega) (by omega) (by omega) hcut.r1 hcut.r2)) rfl ?_
       rintro _ h73 ⟨K72,hk,ownx,g⟩
       replace g0 := g0.trans g
       clear own_d; have own_d := ownx; clear ownx g
       refine sD [(0,.slice ad n cap),(3,nV lb),(4,.func (.func 29) #[] #[]),(18,nV mid),(24,nV e)] ?_
       clear hF a; intro a hF
       refine tK ?_
       refine cS ?_
       rcases Nat.lt_or_ge mid e with hc1 | hc1
       rcases Nat.lt_or_ge e lb with hc2 | hc2
       ·skip
        refine cP 43 hF ?_
        refine sP 2 [nV mid,nV e] ?_
        refine s1 3 (.bool true) (.bool (decide (((mid : Nat) : Int) < ((e : Nat) : Int)))) (congrArg Value.bool (decide_eq_true (by omega))) ?_
        refine sP 6 [.bool true,nV e,nV lb] ?_
        refine s1 7 (.bool true) (.bool (decide (((e : Nat) : Int) < ((lb : Nat) : Int)))) (congrArg Value.bool (decide_eq_true (by omega))) ?_
        refine sP 8 [.bool true] ?_
        refine sD [(0,.slice ad n cap),(3,nV lb),(4,.func (.func 29) #[] #[]),(18,nV mid),(24,nV e),(213,.bool true)] ?_
        clear hF a; intro a hF
        refine tK ?_
        refine cT 213 hF ?_
        refine cP 44 hF ?_
        refine sP 5 [.slice ad n cap,nV mid,nV e,nV lb,.func (.func 29) #[] #[]] ?_
        refine SeqK.eff (k' := 6) (Does.call (f := 38) (args := #[.slice ad n cap,.int .i64 ((mid : Nat) : Int),.int .i64 ((e : Nat) : Int),.int .i64 ((lb : Nat) : Int),.func (.func 29) #[] #[]]) (by kernel_rfl) (ih _ mid e lb K72 (by omega) own_d hk.len (by omega) (by omega) (by omega) (hcut.sort hk).1 (hcut.sort hk).2)) rfl ?_
        rintro _ h75 ⟨K74,hj,ownx,g⟩
        replace g0 := g0.trans g
        clear own_d; have own_d := ownx; clear ownx g
        refine sD [] ?_
        clear hF a; intro a hF
        show retK Try.prog Try.f38 (fun _ h' => ∃ M,Mgd n la lb L M ∧ Own h' (.slice ad n cap) 26 n 39 (rrow M) ∧ Grew (ad.map (fun (x : Addr) => x.block)) h h') .normal a h75
        refine ret_okN [] [] (.tuple #[]) rfl hF trivial rfl ?_
        exact ⟨K74,hcut.done hk hj,own_d,g0⟩
       ·skip
        have hj := hcut.right hk (by omega)
        refine cP 43 hF ?_
        refine sP 2 [nV mid,nV e] ?_
        refine s1 3 (.bool true) (.bool (decide (((mid : Nat) : Int) < ((e : Nat) : Int)))) (congrArg Value.bool (decide_eq_true (by omega))) ?_
        refine sP 6 [.bool true,nV e,nV lb] ?_
        refine s1 7 (.bool false) (.bool (decide (((e : Nat) : Int) < ((lb : Nat) : Int)))) (congrArg Value.bool (decide_eq_false (by omega))) ?_
        refine sP 8 [.bool false] ?_
        refine sD [(0,.slice ad n cap),(3,nV lb),(4,.func (.func 29) #[] #[]),(18,nV mid),(24,nV e),(213,.bool false)] ?_
        clear hF a; intro a hF
        refine tK ?_
        refine cF 213 hF ?_
        refine cN ?_
        show retK Try.prog Try.f38 (fun _ h' => ∃ M,Mgd n la lb L M ∧ Own h' (.slice ad n cap) 26 n 39 (rrow M) ∧ Grew (ad.map (fun (x : Addr) => x.block)) h h') .normal a h73
        refine ret_okN [] [] (.tuple #[]) rfl hF trivial rfl ?_
        exact ⟨K72,hcut.done hk hj,own_d,g0⟩
       ·skip
        have hj := hcut.right hk (by omega)
        refine cP 43 hF ?_
        refine sP 2 [nV mid,nV e] ?_
        refine s1 3 (.bool false) (.bool (decide (((mid : Nat) : Int) < ((e : Nat) : Int)))) (congrArg Value.bool (decide_eq_false (by omega))) ?_
        refine sP 8 [.bool false,undef,undef,undef,.bool false] ?_
        refine sD [(0,.slice ad n cap),(3,nV lb),(4,.func (.func 29) #[] #[]),(18,nV mid),(24,nV e),(213,.bool false)] ?_
        clear hF a; intro a hF
        refine tK ?_
        refine cF 213 hF ?_
        refine cN ?_
        show retK Try.prog Try.f38 (fun _ h' => ∃ M,Mgd n la lb L M ∧ Own h' (.slice ad n cap) 26 n 39 (rrow M) ∧ Grew (ad.map (fun (x : Addr) => x.block)) h h') .normal a h73
        refine ret_okN [] [] (.tuple #[]) rfl hF trivial rfl ?_
        exact ⟨K72,hcut.done hk hj,own_d,g0⟩
      ·skip
       have hk := hcut.left (by omega)
       refine cP 41 hF ?_
       refine sP 2 [nV la,nV i] ?_
       refine s1 3 (.bool true) (.bool (decide (((la : Nat) : Int) < ((i : Nat) : Int)))) (congrArg Value.bool (decide_eq_true (by omega))) ?_
       refine sP 6 [.bool true,nV i,nV mid] ?_
       refine s1 7 (.bool false) (.bool (decide (((i : Nat) : Int) < ((mid : Nat) : Int)))) (congrArg Value.bool (decide_eq_false (by omega))) ?_
       refine sP 8 [.bool false] ?_
       refine sD [(0,.slice ad n cap),(1,nV la),(3,nV lb),(4,.func (.func 29) #[] #[]),(18,nV mid),(20,nV i),(24,nV e),(199,.bool false)] ?_
       clear hF a; intro a hF
       refine tK ?_
       refine cF 199 hF ?_
       refine cN ?_
       refine tK ?_
       refine cS ?_
       rcases Nat.lt_or_ge mid e with hc1 | hc1
       rcases Nat.lt_or_ge e lb with hc2 | hc2
       ·skip
        refine cP 43 hF ?_
        refine sP 2 [nV mid,nV e] ?_
        refine s1 3 (.bool true) (.bool (decide (((mid : Nat) : Int) < ((e : Nat) : Int)))) (congrArg Value.bool (decide_eq_true (by omega))) ?_
        refine sP 6 [.bool true,nV e,nV lb] ?_
        refine s1 7 (.bool true) (.bool (decide (((e : Nat) : Int) < ((lb : Nat) : Int)))) (congrArg Value.bool (decide_eq_true (by omega))) ?_
        refine sP 8 [.bool true] ?_
        refine sD [(0,.slice ad n cap),(3,nV lb),(4,.func (.func 29) #[] #[]),(18,nV mid),(24,nV e),(213,.bool true)] ?_
        clear hF a; intro a hF
        refine tK ?_
        refine cT 213 hF ?_
        refine cP 44 hF ?_
        refine sP 5 [.slice ad n cap,nV mid,nV e,nV lb,.func (.func 29) #[] #[]] ?_
        refine SeqK.eff (k' := 6) (Does.call (f := 38) (args := #[.slice ad n cap,.int .i64 ((mid : Nat) : Int),.int .i64 ((e : Nat) : Int),.int .i64 ((lb : Nat) : Int),.func (.func 29) #[] #[]]) (by kernel_rfl) (ih _ mid e lb L (by omega) own_d hk.len (by omega) (by omega) (by omega) (hcut.sort hk).1 (hcut.sort hk).2)) rfl ?_
        rintro _ h77 ⟨K76,hj,ownx,g⟩
        replace g0 := g0.trans g
        clear own_d; have own_d := ownx; clear ownx g
        refine sD [] ?_
        clear hF a; intro a hF
        show retK Try.prog Try.f38 (fun _ h' => ∃ M,Mgd n la lb L M ∧ Own h' (.slice ad n cap) 26 n 39 (rrow M) ∧ Grew (ad.map (fun (x : Addr) => x.block)) h h') .normal a h77
        refine ret_okN [] [] (.tuple #[]) rfl hF trivial rfl ?_
        exact ⟨K76,hcut.done hk hj,own_d,g0⟩
       ·skip
        have hj := hcut.right hk (by omega)
        refine cP 43 hF ?_
        refine sP 2 [nV mid,nV e] ?_
        refine s1 3 (.bool true) (.bool (decide (((mid : Nat) : Int) < ((e : Nat) : Int)))) (congrArg Value.bool (decide_eq_true (by omega))) ?_
        refine sP 6 [.bool true,nV e,nV lb] ?_
        refine s1 7 (.bool false) (.bool (decide (((e : Nat) : Int) < ((lb : Nat) : Int)))) (congrArg Value.bool (decide_eq_false (by omega))) ?_
        refine sP 8 [.bool false] ?_
        refine sD [(0,.slice ad n cap),(3,nV lb),(4,.func (.func 29) #[] #[]),(18,nV mid),(24,nV e),(213,.bool false)] ?_
        clear hF a; intro a hF
        refine tK ?_
        refine cF 213 hF ?_
        refine cN ?_
        show retK Try.prog Try.f38 (fun _ h' => ∃ M,Mgd n la lb L M ∧ Own h' (.slice ad n cap) 26 n 39 (rrow M) ∧ Grew (ad.map (fun (x : Addr) => x.block)) h h') .normal a h50
        refine ret_okN [] [] (.tuple #[]) rfl hF trivial rfl ?_
        exact ⟨L,hcut.done hk hj,own_d,g0⟩
       ·skip
        have hj := hcut.right hk (by omega)
        refine cP 43 hF ?_
        refine sP 2 [nV mid,nV e] ?_
        refine s1 3 (.bool false) (.bool (decide (((mid : Nat) : Int) < ((e : Nat) : Int)))) (congrArg Value.bool (decide_eq_false (by omega))) ?_
        refine sP 8 [.bool false,undef,undef,undef,.bool false] ?_
        refine sD [(0,.slice ad n cap),(3,nV lb),(4,.func (.func 29) #[] #[]),(18,nV mid),(24,nV e),(213,.bool false)] ?_
        clear hF a; intro a hF
        refine tK ?_
        refine cF 213 hF ?_
        refine cN ?_
        show retK Try.prog Try.f38 (fun _ h' => ∃ M,Mgd n la lb L M ∧ Own h' (.slice ad n cap) 26 n 39 (rrow M) ∧ Grew (ad.map (fun (x : Addr) => x.block)) h h') .normal a h50
        refine ret_okN [] [] (.tuple #[]) rfl hF trivial rfl ?_
        exact ⟨L,hcut.done hk hj,own_d,g0⟩
      ·skip
       have hk := hcut.left (by omega)
       refine cP 41 hF ?_
       refine sP 2 [nV la,nV i] ?_
       refine s1 3 (.bool false) (.bool (decide (((la : Nat) : Int) < ((i : Nat) : Int)))) (congrArg Value.bool (decide_eq_false (by omega))) ?_
       refine sP 8 [.bool false,undef,undef,undef,.bool false] ?_
       refine sD [(0,.slice ad n cap),(1,nV la),(3,nV lb),(4,.func (.func 29) #[] #[]),(18,nV mid),(20,nV i),(24,nV e),(199,.bool false)] ?_
       clear hF a; intro a hF
       refine tK ?_
       refine cF 199 hF ?_
       refine cN ?_
       refine tK ?_
       refine cS ?_
       rcases Nat.lt_or_ge mid e with hc1 | hc1
       rcases Nat.lt_or_ge e lb with hc2 | hc2
       ·skip
        refine cP 43 hF ?_
        refine sP 2 [nV mid,nV e] ?_
        refine s1 3 (.bool true) (.bool (decide (((mid : Nat) : Int) < ((e : Nat) : Int)))) (congrArg Value.bool (decide_eq_true (by omega))) ?_
        refine sP 6 [.bool true,nV e,nV lb] ?_
        refine s1 7 (.bool true) (.bool (decide (((e : Nat) : Int) < ((lb : Nat) : Int)))) (congrArg Value.bool (decide_eq_true (by omega))) ?_
        refine sP 8 [.bool true] ?_
        refine sD [(0,.slice ad n cap),(3,nV lb),(4,.func (.func 29) #[] #[]),(18,nV mid),(24,nV e),(213,.bool true)] ?_
        clear hF a; intro a hF
        refine tK ?_
        refine cT 213 hF ?_
        refine cP 44 hF ?_
        refine sP 5 [.slice ad n cap,nV mid,nV e,nV lb,.func (.func 29) #[] #[]] ?_
        refine SeqK.eff (k' := 6) (Does.call (f := 38) (args := #[.slice ad n cap,.int .i64 ((mid : Nat) : Int),.int .i64 ((e : Nat) : Int),.int .i64 ((lb : Nat) : Int),.func (.func 29) #[] #[]]) (by kernel_rfl) (ih _ mid e lb L (by omega) own_d hk.len (by omega) (by omega) (by omega) (hcut.sort hk).1 (hcut.sort hk).2)) rfl ?_
        rintro _ h79 ⟨K78,hj,ownx,g⟩
        replace g0 := g0.trans g
        clear own_d; have own_d := ownx; clear ownx g
        refine sD [] ?_
        clear hF a; intro a hF
        show retK Try.prog Try.f38 (fun _ h' => ∃ M,Mgd n la lb L M ∧ Own h' (.slice ad n cap) 26 n 39 (rrow M) ∧ Grew (ad.map (fun (x : Addr) => x.block)) h h') .normal a h79
        refine ret_okN [] [] (.tuple #[]) rfl hF trivial rfl ?_
        exact ⟨K78,hcut.done hk hj,own_d,g0⟩
       ·skip
        have hj := hcut.right hk (by omega)
        refine cP 43 hF ?_
        refine sP 2 [nV mid,nV e] ?_
        refine s1 3 (.bool true) (.bool (decide (((mid : Nat) : Int) < ((e : Nat) : Int)))) (congrArg Value.bool (decide_eq_true (by omega))) ?_
        refine sP 6 [.bool true,nV e,nV lb] ?_
        refine s1 7 (.bool false) (.bool (decide (((e : Nat) : Int) < ((lb : Nat) : Int)))) (congrArg Value.bool (decide_eq_false (by omega))) ?_
        refine sP 8 [.bool false] ?_
        refine sD [(0,.slice ad n cap),(3,nV lb),(4,.func (.func 29) #[] #[]),(18,nV mid),(24,nV e),(213,.bool false)] ?_
        clear hF a; intro a hF
        refine tK ?_
        refine cF 213 hF ?_
        refine cN ?_
        show retK Try.prog Try.f38 (fun _ h' => ∃ M,Mgd n la lb L M ∧ Own h' (.slice ad n cap) 26 n 39 (rrow M) ∧ Grew (ad.map (fun (x : Addr) => x.block)) h h') .normal a h50
        refine ret_okN [] [] (.tuple #[]) rfl hF trivial rfl ?_
        exact ⟨L,hcut.done hk hj,own_d,g0⟩
       ·skip
        have hj := hcut.right hk (by omega)
        refine cP 43 hF ?_
        refine sP 2 [nV mid,nV e] ?_
        refine s1 3 (.bool false) (.bool (decide (((mid : Nat) : Int) < ((e : Nat) : Int)))) (congrArg Value.bool (decide_eq_false (by omega))) ?_
        refine sP 8 [.bool false,undef,undef,undef,.bool false] ?_
        refine sD [(0,.slice ad n cap),(3,nV lb),(4,.func (.func 29) #[] #[]),(18,nV mid),(24,nV e),(213,.bool false)] ?_
        clear hF a; intro a hF
        refine tK ?_
        refine cF 213 hF ?_
        refine cN ?_
        show retK Try.prog Try.f38 (fun _ h' => ∃ M,Mgd n la lb L M ∧ Own h' (.slice ad n cap) 26 n 39 (rrow M) ∧ Grew (ad.map (fun (x : Addr) => x.block)) h h') .normal a h50
        refine ret_okN [] [] (.tuple #[]) rfl hF trivial rfl ?_
        exact ⟨L,hcut.done hk hj,own_d,g0⟩
theorem sym_all (ad : Option Addr) (cap n : Nat) (hn : n ≤ 1099511627776) : ∀ (k : Nat),∀ (h : Heap) (a m b : Nat) (L : List Rec),b - a ≤ k → Own h (.slice ad n cap) 26 n 39 (rrow L) → L.length = n → a < m → m < b → b ≤ n → SrtOn L a m → SrtOn L m b → Sat Try.prog 38 #[.slice ad n cap,.int .i64 ((a : Nat) : Int),.int .i64 ((m : Nat) : Int),.int .i64 ((b : Nat) : Int),.func (.func 29) #[] #[]] h fun _ h' => ∃ M,Mgd n a b L M ∧ Own h' (.slice ad n cap) 26 n 39 (rrow M) ∧ Grew (ad.map (fun (x : Addr) => x.block)) h h'
 | 0,_,_,_,_,_,hk,_,_,h1,h2,_,_,_ => by omega
 | k + 1,h,a,m,b,L,hk,o,hL,h1,h2,h3,h4,h5 => sym_step h ad cap n a m b L o hL h1 h2 h3 hn h4 h5 fun h a' m' b' L hlt => sym_all ad cap n hn k h a' m' b' L (by omega)
theorem sym_sat (ad : Option Addr) (cap n : Nat) (hn : n ≤ 1099511627776) : ∀ (h : Heap) (a m b : Nat) (L : List Rec),Own h (.slice ad n cap) 26 n 39 (rrow L) → L.length = n → a < m → m < b → b ≤ n → SrtOn L a m → SrtOn L m b → Sat Try.prog 38 #[.slice ad n cap,.int .i64 ((a : Nat) : Int),.int .i64 ((m : Nat) : Int),.int .i64 ((b : Nat) : Int),.func (.func 29) #[] #[]] h fun _ h' => ∃ M,Mgd n a b L M ∧ Own h' (.slice ad n cap) 26 n 39 (rrow M) ∧ Grew (ad.map (fun (x : Addr) => x.block)) h h' := fun h a m b L => sym_all ad cap n hn (b - a) h a m b L (Nat.le_refl _)
end Go.Proofs.Ytlghdimpgfhmcaa
