/- ranges exchanged, rotated: what it comes to. Conditions: those that each theorem names. -/
import Derived.Test.YtlghdimpgfhmcaaRetF
import Derived.Test.YtlghdimpgfhmcaaRetSort
namespace Go.Proofs.Ytlghdimpgfhmcaa
open Go Go.Lane Go.Sha
noncomputable def b41 : Code := Try.f41.body.getD .skip
set_option maxHeartbeats 1000000 in
theorem swr_sat (h : Heap) (ad : Option Addr) (cap n la lb lc : Nat) (L : List Rec) (own_d : Own h (.slice ad n cap) 26 n 39 (rrow L)) (hLn : L.length = n) (hac : la + lc ≤ lb) (hbc : lb + lc ≤ n) (hn : n ≤ 1099511627776) : Sat Try.prog 41 #[.slice ad n cap,.int .i64 ((la : Nat) : Int),.int .i64 ((lb : Nat) : Int),.int .i64 ((lc : Nat) : Int),.func (.func 29) #[] #[]] h fun _ h' => ∃ M,M.length = n ∧ M.Perm L ∧ Idx M L (swx la lb lc) ∧ Own h' (.slice ad n cap) 26 n 39 (rrow M) ∧ Grew (ad.map (fun (x : Addr) => x.block)) h h' := by
 have g0 := Grew.refl (ad.map (fun (x : Addr) => x.block)) h
 refine sat_of (args := [.slice ad n cap,.int .i64 ((la : Nat) : Int),.int .i64 ((lb : Nat) : Int),.int .i64 ((lc : Nat) : Int),.func (.func 29) #[] #[]]) (fn := Try.f41) (B := b41) (n := 38) (L := [(0,.slice ad n cap),(1,.int .i64 ((la : Nat) : Int)),(2,.int .i64 ((lb : Nat) : Int)),(3,.int .i64 ((lc : Nat) : Int)),(4,.func (.func 29) #[] #[])]) Try.func41 rfl (by kernel_rfl) rfl ?_
 intro a hF
 refine cS ?_
 refine cP 0 hF ?_
 refine sP 1 [.int .i64 0] ?_
 refine sD [(0,.slice ad n cap),(1,nV la),(2,nV lb),(3,nV lc),(10,.int .i64 0)] ?_
 clear hF a; intro a hF
 refine tK ?_
 refine cB 0 ?_
 refine C.loop (fun m a h' => ∃ i : Nat,∃ M : List Rec,m = lc - i ∧ (Grew (ad.map (fun (x : Addr) => x.block)) h h') ∧ (i ≤ lc) ∧ (M.length = n) ∧ (M.Perm L) ∧ (Idx M L (swx la lb i)) ∧ (Own h' (.slice ad n cap) 26 n 39 (rrow M)) ∧ (Fr a 38 [(0,.slice ad n cap),(1,.int .i64 ((la : Nat) : Int)),(2,.int .i64 ((lb : Nat) : Int)),(3,.int .i64 ((lc : Nat) : Int)),(10,.int .i64 ((i : Nat) : Int))])) (lc - 0) [1,0,0] (by kernel_rfl) ⟨0,L,rfl,g0,(by omega),hLn,(List.Perm.refl _),(Idx.refl _ (swx_0 la lb)),own_d,hF⟩ ?_
 clear hF a
 clear g0
 clear hLn
 clear own_d
 rintro m a h1 ⟨i,M,rfl,g0,hi,hM,hP,hx,own_d,hF⟩
 refine cS ?_
 refine cS ?_
 refine cP 1 hF ?_
 refine sP 3 [nV i,nV lc,.bool (decide (((i : Nat) : Int) < ((lc : Nat) : Int)))] ?_
 refine sD [(0,.slice ad n cap),(1,nV la),(2,nV lb),(3,nV lc),(10,nV i),(13,.bool (decide (((i : Nat) : Int) < ((lc : Nat) : Int))))] ?_
 clear hF a; intro a hF
 refine tK ?_
 refine cC 13 (decide (((i : Nat) : Int) < ((lc : Nat) : Int))) hF (fun hc2 => ?_) (fun hc2 => ?_)
 ·skip
  replace hc2 := of_decide_eq_true hc2
  have hic : i < lc := by omega
  obtain ⟨aa,rfl,hcap_aa⟩ := own_d.someA (by omega)
  refine cN ?_
  refine tK ?_
  refine cS ?_
  refine cB 1 ?_
  refine cD [0,0,0,6,0,0,0,96,0,0,0,1536,3840,7936,0,0,0,98304,245760,507904,1048335,2096911,4194303,8388607] 3 mixed hF ?_
  refine mP 7 [0,1,2] [.slice (some aa) n cap,nV la,nV i] ?_
  refine m1 15 3 (.int .i64 ((la + i : Nat) : Int)) (.int .i64 (IntKind.i64.wrap (((la : Nat) : Int) + ((i : Nat) : Int)))) (congrArg (Value.int .i64) (w64' (by omega) (by omega) (by omega))) ?_
  refine mP 127 [4,5,6] [.slice (some aa) n cap,nV lb,nV i] ?_
  refine m1 255 7 (.int .i64 ((lb + i : Nat) : Int)) (.int .i64 (IntKind.i64.wrap (((lb : Nat) : Int) + ((i : Nat) : Int)))) (congrArg (Value.int .i64) (w64' (by omega) (by omega) (by omega))) ?_
  refine mP 2047 [8,9,10] [.slice (some aa) n cap,nV lb,nV i] ?_
  refine m1 4095 11 (.int .i64 ((lb + i : Nat) : Int)) (.int .i64 (IntKind.i64.wrap (((lb : Nat) : Int) + ((i : Nat) : Int)))) (congrArg (Value.int .i64) (w64' (by omega) (by omega) (by omega))) ?_
  refine mF 8191 12 (.pointer (some (Addr.add aa ((lb + i) * 39)))) (Calm.indexA (a := aa) (len := n) (sz := 39) (k := ((lb + i : Nat) : Int)) (lb + i) ((lb + i) * 39) (by kernel_rfl) rfl (by omega) (by omega)) ?_
  refine mL 16383 8192 13 (.agg (rcs (M.getD (lb + i) rec0)).toArray) (Calm.load (T := 26) (p := (Addr.add aa ((lb + i) * 39))) (by kernel_rfl) (Row.fm (d := rec0) (i := (lb + i)) rcs_len (own_d.row) (by kernel_rfl) (by omega) (by omega))) ?_
  refine mP 131071 [14,15,16] [.slice (some aa) n cap,nV la,nV i] ?_
  refine m1 262143 17 (.int .i64 ((la + i : Nat) : Int)) (.int .i64 (IntKind.i64.wrap (((la : Nat) : Int) + ((i : Nat) : Int)))) (congrArg (Value.int .i64) (w64' (by omega) (by omega) (by omega))) ?_
  refine mF 524287 18 (.pointer (some (Addr.add aa ((la + i) * 39)))) (Calm.indexA (a := aa) (len := n) (sz := 39) (k := ((la + i : Nat) : Int)) (la + i) ((la + i) * 39) (by kernel_rfl) rfl (by omega) (by omega)) ?_
  refine mL 1048575 532480 19 (.agg (rcs (M.getD (la + i) rec0)).toArray) (Calm.load (T := 26) (p := (Addr.add aa ((la + i) * 39))) (by kernel_rfl) (Row.fm (d := rec0) (i := (la + i)) rcs_len (own_d.row) (by kernel_rfl) (by omega) (by omega))) ?_
  refine mF 2097151 20 (.pointer (some (Addr.add aa ((la + i) * 39)))) (Calm.indexA (a := aa) (len := n) (sz := 39) (k := ((la + i : Nat) : Int)) (la + i) ((la + i) * 39) (by kernel_rfl) rfl (by omega) (by omega)) ?_
  refine SimK.eff0 (i := 21) (D' := 4194303) (X' := 4194063) (by kernel_rfl) (by kernel_rfl) (by kernel_rfl) (by kernel_rfl) (Does.storeOwn (a := aa) (q := (la + i) * 39) (vs := rcs (M.getD (lb + i) rec0)) (by kernel_rfl) own_d (by show _ + 39 ≤ _; omega) (rcs_one _)) ?_
  rintro _ h3 ⟨rfl,ownx,g⟩
  replace g0 := g0.trans g
  rw [fm_set rcs_len (by first | omega | (rw [List.length_set]; omega))] at ownx
  clear own_d; have own_d := ownx; clear ownx g
  refine mF 8388607 22 (.pointer (some (Addr.add aa ((lb + i) * 39)))) (Calm.indexA (a := aa) (len := n) (sz := 39) (k := ((lb + i : Nat) : Int)) (lb + i) ((lb + i) * 39) (by kernel_rfl) rfl (by omega) (by omega)) ?_
  refine SimK.eff0 (i := 23) (D' := 16777215) (X' := 16777215) (by kernel_rfl) (by kernel_rfl) (by kernel_rfl) (by kernel_rfl) (Does.storeOwn (a := aa) (q := (lb + i) * 39) (vs := rcs (M.getD (la + i) rec0)) (by kernel_rfl) own_d (by show _ + 39 ≤ _; omega) (rcs_one _)) ?_
  rintro _ h4 ⟨rfl,ownx,g⟩
  replace g0 := g0.trans g
  rw [fm_set rcs_len (by first | omega | (rw [List.length_set]; omega))] at ownx
  clear own_d; have own_d := ownx; clear ownx g
  refine mD [(0,.slice (some aa) n cap),(1,nV la),(2,nV lb),(3,nV lc),(10,nV i)] ?_
  clear hF a; intro a hF
  show C Try.prog (sub b41 [1,0,0,1,1]) _ a h4
  refine cP 2 hF ?_
  refine sP 1 [nV i] ?_
  refine s1 2 (.int .i64 ((i + 1 : Nat) : Int)) (.int .i64 (IntKind.i64.wrap (((i : Nat) : Int) + 1))) (congrArg (Value.int .i64) (w64' (by omega) (by omega) (by omega))) ?_
  refine sP 3 [nV (i + 1)] ?_
  refine sD [(0,.slice (some aa) n cap),(1,nV la),(2,nV lb),(3,nV lc),(10,nV (i + 1))] ?_
  clear hF a; intro a hF
  show ∃ m',m' < _ ∧ _
  refine ⟨_,?_,(i + 1),(swp2 M (la + i) (lb + i)),rfl,g0,(by omega),((swp2_length M _ _).trans hM),((swp2_perm (by omega) (by omega)).trans hP),(hx.swp (by omega) (by omega) (swx_next (by omega))),own_d,hF⟩
  omega
 ·skip
  replace hc2 := of_decide_eq_false hc2
  refine cX 0 ?_
  show retK Try.prog Try.f41 (fun _ h' => ∃ M,M.length = n ∧ M.Perm L ∧ Idx M L (swx la lb lc) ∧ Own h' (.slice ad n cap) 26 n 39 (rrow M) ∧ Grew (ad.map (fun (x : Addr) => x.block)) h h') .normal a h1
  refine ret_okN [] [] (.tuple #[]) rfl hF trivial rfl ?_
  obtain rfl : lc = i := by omega
  exact ⟨M,hM,hP,hx,own_d,g0⟩
noncomputable def b40 : Code := Try.f40.body.getD .skip
theorem rot_sat (h : Heap) (ad : Option Addr) (cap n la lm lb : Nat) (L : List Rec) (own_d : Own h (.slice ad n cap) 26 n 39 (rrow L)) (hLn : L.length = n) (ham : la < lm) (hmb : lm < lb) (hbn : lb ≤ n) (hn : n ≤ 1099511627776) : Sat Try.prog 40 #[.slice ad n cap,.int .i64 ((la : Nat) : Int),.int .i64 ((lm : Nat) : Int),.int .i64 ((lb : Nat) : Int),.func (.func 29) #[] #[]] h fun _ h' => ∃ M,M.length = n ∧ M.Perm L ∧ Idx M L (rtx lm (lm - la) (lb - lm)) ∧ Own h' (.slice ad n cap) 26 n 39 (rrow M) ∧ Grew (ad.map (fun (x : Addr) => x.block)) h h' := by
 have g0 := Grew.refl (ad.map (fun (x : Addr) => x.block)) h
 refine sat_of (args := [.slice ad n cap,.int .i64 ((la : Nat) : Int),.int .i64 ((lm : Nat) : Int),.int .i64 ((lb : Nat) : Int),.func (.func 29) #[] #[]]) (fn := Try.f40) (B := b40) (n := 58) (L := [(0,.slice ad n cap),(1,.int .i64 ((la : Nat) : Int)),(2,.int .i64 ((lm : Nat) : Int)),(3,.int .i64 ((lb : Nat) : Int)),(4,.func (.func 29) #[] #[])]) Try.func40 rfl (by kernel_rfl) rfl ?_
 intro a hF
 refine cS ?_
 refine cP 0 hF ?_
 refine sP 2 [nV lm,nV la] ?_
 refine s1 3 (.int .i64 ((lm - la : Nat) : Int)) (.int .i64 (IntKind.i64.wrap (((lm : Nat) : Int) - ((la : Nat) : Int)))) (congrArg (Value.int .i64) (w64' (by omega) (by omega) (by omega))) ?_
 refine sP 4 [nV (lm - la)] ?_
 refine sD [(0,.slice ad n cap),(2,nV lm),(3,nV lb),(4,.func (.func 29) #[] #[]),(10,nV (lm - la))] ?_
 clear hF a; intro a hF
 refine tK ?_
 refine cS ?_
 refine cP 1 hF ?_
 refine sP 2 [nV lb,nV lm] ?_
 refine s1 3 (.int .i64 ((lb - lm : Nat) : Int)) (.int .i64 (IntKind.i64.wrap (((lb : Nat) : Int) - ((lm : Nat) : Int)))) (congrArg (Value.int .i64) (w64' (by omega) (by omega) (by omega))) ?_
 refine sP 4 [nV (lb - lm)] ?_
 refine sD [(0,.slice ad n cap),(2,nV lm),(4,.func (.func 29) #[] #[]),(10,nV (lm - la)),(11,nV (lb - lm))] ?_
 clear hF a; intro a hF
 refine tK ?_
 refine cS ?_
 refine cB 0 ?_
 refine C.loop (fun m a h' => ∃ i : Nat,∃ j : Nat,∃ M : List Rec,m = i + j ∧ (Grew (ad.map (fun (x : Addr) => x.block)) h h') ∧ (0 < i ∧ 0 < j ∧ i ≤ lm ∧ lm + j ≤ lb) ∧ (M.length = n) ∧ (M.Perm L) ∧ (RotI L M lm la lb i j) ∧ (Own h' (.slice ad n cap) 26 n 39 (rrow M)) ∧ (Fr a 58 [(0,.slice ad n cap),(2,.int .i64 ((lm : Nat) : Int)),(4,.func (.func 29) #[] #[]),(10,.int .i64 ((i : Nat) : Int)),(11,.int .i64 ((j : Nat) : Int))])) ((lm - la) + (lb - lm)) [1,1,0,0,0] (by kernel_rfl) ⟨(lm - la),(lb - lm),L,rfl,g0,(by omega),hLn,(List.Perm.refl _),(RotI.start _ _ _ _),own_d,hF⟩ ?_
 clear hF a
 clear g0
 clear hLn
 clear own_d
 rintro m a h1 ⟨i,j,M,rfl,g0,hij,hM,hP,hr,own_d,hF⟩
 refine cS ?_
 refine cS ?_
 refine cP 2 hF ?_
 refine sP 3 [nV i,nV j,.bool (!decide (((i : Nat) : Int) = ((j : Nat) : Int)))] ?_
 refine sD [(0,.slice ad n cap),(2,nV lm),(4,.func (.func 29) #[] #[]),(10,nV i),(11,nV j),(20,.bool (!decide (((i : Nat) : Int) = ((j : Nat) : Int))))] ?_
 clear hF a; intro a hF
 refine tK ?_
 refine cC 20 (!decide (((i : Nat) : Int) = ((j : Nat) : Int))) hF (fun hc2 => ?_) (fun hc2 => ?_)
 ·skip
  replace hc2 := not_decide_true hc2
  refine cN ?_
  refine tK ?_
  refine cB 1 ?_
  refine cS ?_
  refine cP 3 hF ?_
  refine sP 3 [nV i,nV j,.bool (decide (((j : Nat) : Int) < ((i : Nat) : Int)))] ?_
  refine sD [(0,.slice ad n cap),(2,nV lm),(4,.func (.func 29) #[] #[]),(10,nV i),(11,nV j),(23,.bool (decide (((j : Nat) : Int) < ((i : Nat) : Int))))] ?_
  clear hF a; intro a hF
  refine tK ?_
  refine cC 23 (decide (((j : Nat) : Int) < ((i : Nat) : Int))) hF (fun hc3 => ?_) (fun hc3 => ?_)
  ·skip
   replace hc3 := of_decide_eq_true hc3
   refine cS ?_
   refine cP 4 hF ?_
   refine sP 3 [.slice ad n cap,nV lm,nV i] ?_
   refine s1 4 (.int .i64 ((lm - i : Nat) : Int)) (.int .i64 (IntKind.i64.wrap (((lm : Nat) : Int) - ((i : Nat) : Int)))) (congrArg (Value.int .i64) (w64' (by omega) (by omega) (by omega))) ?_
   refine sP 7 [nV lm,nV j,.func (.func 29) #[] #[]] ?_
   refine SeqK.eff (k' := 8) (Does.call (f := 41) (args := #[.slice ad n cap,.int .i64 ((lm - i : Nat) : Int),.int .i64 ((lm : Nat) : Int),.int .i64 ((j : Nat) : Int),.func (.func 29) #[] #[]]) (by kernel_rfl) (swr_sat _ ad cap n (lm - i) (lm) (j) M own_d hM (by omega) (by omega) (by omega))) rfl ?_
   rintro _ h5 ⟨K4,hM2,hP2,hx,ownx,g⟩
   replace g0 := g0.trans g
   clear own_d; have own_d := ownx; clear ownx g
   replace hP := hP2.trans hP; replace hM := hM2; clear hP2 hM2
   replace hr := hr.big hx (by omega) (by omega)
   refine sD [(0,.slice ad n cap),(2,nV lm),(4,.func (.func 29) #[] #[]),(10,nV i),(11,nV j)] ?_
   clear hF a; intro a hF
   refine tK ?_
   refine cP 5 hF ?_
   refine sP 2 [nV i,nV j] ?_
   refine s1 3 (.int .i64 ((i - j : Nat) : Int)) (.int .i64 (IntKind.i64.wrap (((i : Nat) : Int) - ((j : Nat) : Int)))) (congrArg (Value.int .i64) (w64' (by omega) (by omega) (by omega))) ?_
   refine sP 4 [nV (i - j)] ?_
   refine sD [(0,.slice ad n cap),(2,nV lm),(4,.func (.func 29) #[] #[]),(10,nV (i - j)),(11,nV j)] ?_
   clear hF a; intro a hF
   show ∃ m',m' < _ ∧ _
   refine ⟨_,?_,i - j,j,K4,rfl,g0,(by omega),hM,hP,hr,own_d,hF⟩
   omega
  ·skip
   replace hc3 := of_decide_eq_false hc3
   have hlt : i < j := by omega
   refine cS ?_
   refine cP 6 hF ?_
   refine sP 3 [.slice ad n cap,nV lm,nV i] ?_
   refine s1 4 (.int .i64 ((lm - i : Nat) : Int)) (.int .i64 (IntKind.i64.wrap (((lm : Nat) : Int) - ((i : Nat) : Int)))) (congrArg (Value.int .i64) (w64' (by omega) (by omega) (by omega))) ?_
   refine sP 6 [nV lm,nV j] ?_
   refine s1 7 (.int .i64 ((lm + j : Nat) : Int)) (.int .i64 (IntKind.i64.wrap (((lm : Nat) : Int) + ((j : Nat) : Int)))) (congrArg (Value.int .i64) (w64' (by omega) (by omega) (by omega))) ?_
   refine sP 8 [nV i] ?_
   refine s1 9 (.int .i64 (((lm + j) - i : Nat) : Int)) (.int .i64 (IntKind.i64.wrap (((lm + j : Nat) : Int) - ((i : Nat) : Int)))) (congrArg (Value.int .i64) (w64' (by omega) (by omega) (by omega))) ?_
   refine sP 11 [nV i,.func (.func 29) #[] #[]] ?_
   refine SeqK.eff (k' := 12) (Does.call (f := 41) (args := #[.slice ad n cap,.int .i64 ((lm - i : Nat) : Int),.int .i64 (((lm + j) - i : Nat) : Int),.int .i64 ((i : Nat) : Int),.func (.func 29) #[] #[]]) (by kernel_rfl) (swr_sat _ ad cap n (lm - i) ((lm + j) - i) (i) M own_d hM (by omega) (by omega) (by omega))) rfl ?_
   rintro _ h7 ⟨K6,hM2,hP2,hx,ownx,g⟩
   replace g0 := g0.trans g
   clear own_d; have own_d := ownx; clear ownx g
   replace hP := hP2.trans hP; replace hM := hM2; clear hP2 hM2
   replace hr := hr.small hx (by omega) (by omega)
   refine sD [(0,.slice ad n cap),(2,nV lm),(4,.func (.func 29) #[] #[]),(10,nV i),(11,nV j)] ?_
   clear hF a; intro a hF
   show C Try.prog (sub b40 [1,1,0,0,0,1,0,1,1,1]) _ a h7
   refine cP 7 hF ?_
   refine sP 2 [nV j,nV i] ?_
   refine s1 3 (.int .i64 ((j - i : Nat) : Int)) (.int .i64 (IntKind.i64.wrap (((j : Nat) : Int) - ((i : Nat) : Int)))) (congrArg (Value.int .i64) (w64' (by omega) (by omega) (by omega))) ?_
   refine sP 4 [nV (j - i)] ?_
   refine sD [(0,.slice ad n cap),(2,nV lm),(4,.func (.func 29) #[] #[]),(10,nV i),(11,nV (j - i))] ?_
   clear hF a; intro a hF
   show ∃ m',m' < _ ∧ _
   refine ⟨_,?_,i,j - i,K6,rfl,g0,(by omega),hM,hP,hr,own_d,hF⟩
   omega
 ·skip
  replace hc2 := not_decide_false hc2
  have heq : i = j := by omega
  refine cX 0 ?_
  show C Try.prog (sub b40 [1,1,1]) _ a h1
  refine cP 8 hF ?_
  refine sP 3 [.slice ad n cap,nV lm,nV i] ?_
  refine s1 4 (.int .i64 ((lm - i : Nat) : Int)) (.int .i64 (IntKind.i64.wrap (((lm : Nat) : Int) - ((i : Nat) : Int)))) (congrArg (Value.int .i64) (w64' (by omega) (by omega) (by omega))) ?_
  refine sP 7 [nV lm,nV i,.func (.func 29) #[] #[]] ?_
  refine SeqK.eff (k' := 8) (Does.call (f := 41) (args := #[.slice ad n cap,.int .i64 ((lm - i : Nat) : Int),.int .i64 ((lm : Nat) : Int),.int .i64 ((i : Nat) : Int),.func (.func 29) #[] #[]]) (by kernel_rfl) (swr_sat _ ad cap n (lm - i) (lm) (i) M own_d hM (by omega) (by omega) (by omega))) rfl ?_
  rintro _ h9 ⟨K8,hM2,hP2,hx,ownx,g⟩
  replace g0 := g0.trans g
  clear own_d; have own_d := ownx; clear ownx g
  replace hP := hP2.trans hP; replace hM := hM2; clear hP2 hM2
  replace hr := hr.last hx (by omega) (by omega)
  refine sD [] ?_
  clear hF a; intro a hF
  show retK Try.prog Try.f40 (fun _ h' => ∃ M,M.length = n ∧ M.Perm L ∧ Idx M L (rtx lm (lm - la) (lb - lm)) ∧ Own h' (.slice ad n cap) 26 n 39 (rrow M) ∧ Grew (ad.map (fun (x : Addr) => x.block)) h h') .normal a h9
  refine ret_okN [] [] (.tuple #[]) rfl hF trivial rfl ?_
  exact ⟨K8,hM,hP,hr,own_d,g0⟩
end Go.Proofs.Ytlghdimpgfhmcaa
