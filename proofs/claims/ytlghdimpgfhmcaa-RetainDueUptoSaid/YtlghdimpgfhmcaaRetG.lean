/- the stable sort of few; what is due: what it comes to. Conditions: those that each theorem names. -/
import Derived.Test.YtlghdimpgfhmcaaRetF
namespace Go.Proofs.Ytlghdimpgfhmcaa
open Go Go.Lane Go.Sha
noncomputable def b34 : Code := Try.f34.body.getD .skip
theorem stable_small (h : Heap) (ad : Option Addr) (cap n : Nat) (L : List Rec) (own_d : Own h (.slice ad n cap) 26 n 39 (rrow L)) (hLn : L.length = n) (hn : n ≤ 19) : Sat Try.prog 34 #[.slice ad n cap,.int .i64 ((n : Nat) : Int),.func (.func 29) #[] #[]] h fun _ h' => ∃ M,M.length = n ∧ M.Perm L ∧ SrtOn M 0 n ∧ Own h' (.slice ad n cap) 26 n 39 (rrow M) ∧ Grew (ad.map (fun (x : Addr) => x.block)) h h' := by
 refine sat_of (args := [.slice ad n cap,.int .i64 ((n : Nat) : Int),.func (.func 29) #[] #[]]) (fn := Try.f34) (B := b34) (n := 63) (L := [(0,.slice ad n cap),(1,.int .i64 ((n : Nat) : Int)),(2,.func (.func 29) #[] #[])]) Try.func34 rfl (by kernel_rfl) rfl ?_
 intro a hF
 refine cS ?_
 refine cP 0 hF ?_
 refine sP 1 [.int .i64 20] ?_
 refine sD [(0,.slice ad n cap),(1,nV n),(2,.func (.func 29) #[] #[]),(6,.int .i64 20)] ?_
 clear hF a; intro a hF
 refine tK ?_
 refine cS ?_
 refine cP 1 hF ?_
 refine sP 3 [.int .i64 20,.int .i64 0,.int .i64 20] ?_
 refine sD [(0,.slice ad n cap),(1,nV n),(2,.func (.func 29) #[] #[]),(6,.int .i64 20),(7,.int .i64 0),(8,.int .i64 20)] ?_
 clear hF a; intro a hF
 refine tK ?_
 refine cS ?_
 refine cB 0 ?_
 refine C.unroll 1 [1,1,0,0,0] (by kernel_rfl) ?_
 refine Cround.step ?_
 refine cS ?_
 refine cS ?_
 refine cP 2 hF ?_
 refine sP 2 [.int .i64 20,nV n] ?_
 refine s1 3 (.bool false) (.bool (decide ((20 : Int) ≤ ((n : Nat) : Int)))) (congrArg Value.bool (decide_eq_false (by omega))) ?_
 refine sD [(0,.slice ad n cap),(1,nV n),(2,.func (.func 29) #[] #[]),(6,.int .i64 20),(7,.int .i64 0),(8,.int .i64 20),(13,.bool false)] ?_
 clear hF a; intro a hF
 refine tK ?_
 refine cF 13 hF ?_
 refine cX 0 ?_
 show C Try.prog (sub b34 [1,1,1]) _ a h
 refine cS ?_
 refine cP 6 hF ?_
 refine sP 4 [.slice ad n cap,.int .i64 0,nV n,.func (.func 29) #[] #[]] ?_
 refine SeqK.eff (k' := 5) (Does.call (f := 37) (args := #[.slice ad n cap,.int .i64 0,.int .i64 ((n : Nat) : Int),.func (.func 29) #[] #[]]) (by kernel_rfl) (ins_sat _ ad cap n 0 n L own_d hLn (by omega) (by omega) (by omega))) rfl ?_
 rintro _ h1 ⟨M,hM,hP,_,hs,ownx,g0⟩
 clear own_d
 refine sD [(0,.slice ad n cap),(1,nV n),(2,.func (.func 29) #[] #[]),(6,.int .i64 20)] ?_
 clear hF a; intro a hF
 refine tK ?_
 refine cB 2 ?_
 refine C.unroll 1 [1,1,1,1,0,0] (by kernel_rfl) ?_
 refine Cround.step ?_
 refine cS ?_
 refine cS ?_
 refine cP 7 hF ?_
 refine sP 2 [.int .i64 20,nV n] ?_
 refine s1 3 (.bool false) (.bool (decide ((20 : Int) < ((n : Nat) : Int)))) (congrArg Value.bool (decide_eq_false (by omega))) ?_
 refine sD [(0,.slice ad n cap),(1,nV n),(2,.func (.func 29) #[] #[]),(6,.int .i64 20),(30,.bool false)] ?_
 clear hF a; intro a hF
 refine tK ?_
 refine cF 30 hF ?_
 refine cX 2 ?_
 show retK Try.prog Try.f34 (fun _ h' => ∃ M,M.length = n ∧ M.Perm L ∧ SrtOn M 0 n ∧ Own h' (.slice ad n cap) 26 n 39 (rrow M) ∧ Grew (ad.map (fun (x : Addr) => x.block)) h h') .normal a h1
 refine ret_okN [] [] (.tuple #[]) rfl hF trivial rfl ?_
 exact ⟨M,hM,hP,hs,ownx,g0⟩
noncomputable def b28 : Code := Try.f28.body.getD .skip
theorem sort_small (h : Heap) (ad : Option Addr) (cap n : Nat) (L : List Rec) (own_d : Own h (.slice ad n cap) 26 n 39 (rrow L)) (hLn : L.length = n) (hn : n ≤ 19) : Sat Try.prog 28 #[.slice ad n cap,.func (.func 29) #[] #[]] h fun _ h' => ∃ M,M.length = n ∧ M.Perm L ∧ SrtOn M 0 n ∧ Own h' (.slice ad n cap) 26 n 39 (rrow M) ∧ Grew (ad.map (fun (x : Addr) => x.block)) h h' := by
 refine sat_of (args := [.slice ad n cap,.func (.func 29) #[] #[]]) (fn := Try.f28) (B := b28) (n := 9) (L := [(0,.slice ad n cap),(1,.func (.func 29) #[] #[])]) Try.func28 rfl (by kernel_rfl) rfl ?_
 intro a hF
 refine cP 0 hF ?_
 refine sP 4 [.slice ad n cap,.slice ad n cap,nV n,.func (.func 29) #[] #[]] ?_
 refine SeqK.eff (k' := 5) (Does.call (f := 34) (args := #[.slice ad n cap,.int .i64 ((n : Nat) : Int),.func (.func 29) #[] #[]]) (by kernel_rfl) (stable_small _ ad cap n L own_d hLn (by omega))) rfl ?_
 rintro _ h1 ⟨M,hM,hP,hs,ownx,g0⟩
 refine sD [] ?_
 clear hF a; intro a hF
 show retK Try.prog Try.f28 (fun _ h' => ∃ M,M.length = n ∧ M.Perm L ∧ SrtOn M 0 n ∧ Own h' (.slice ad n cap) 26 n 39 (rrow M) ∧ Grew (ad.map (fun (x : Addr) => x.block)) h h') .normal a h1
 refine ret_okN [] [] (.tuple #[]) rfl hF trivial rfl ?_
 exact ⟨M,hM,hP,hs,ownx,g0⟩
theorem sorts_small : Sorts Try.prog 28 (.func (.func 29) #[] #[]) 26 19 := fun h ad cap n L o hL hn _ => sort_small h ad cap n L o hL hn
theorem del_any (h : Heap) (r : Rec) (now : Int) (ok : RecOk h r) : Sat Try.prog 18 #[.agg (rcs r).toArray,.int .i64 now] h fun v h' => ∃ (w : Rec) (z : Int),v = .tuple #[.agg (rcs w).toArray,.int .i64 z] ∧ (z = 0 ↔ delB now r) ∧ Ext h h' := by
 obtain ⟨P,hP,hr,hn⟩ := ok
 obtain ⟨x,e,ho,go,ad,n,cap⟩ := r
 simp only at hP hr hn
 subst hP
 cases go with
 | true => exact (del_gone h x e ho P ad cap now).mono fun v h' ⟨e1,g⟩ => ⟨rec0,213,e1,by simp [delB],g⟩
 | false =>
  cases ho with
  | true => exact (del_held h x e P ad cap now).mono fun v h' ⟨e1,g⟩ => ⟨rec0,214,e1,by simp [delB],g⟩
  | false =>
   by_cases hu : e ≤ now
   ·exact (del_ok h x e P ad cap hr hn now hu).mono fun v h' ⟨e1,g⟩ => ⟨⟨x,e,false,true,none,0,0⟩,0,e1,by simp [delB,hu],g⟩
   ·exact (del_soon h x e P ad cap now (by omega)).mono fun v h' ⟨e1,g⟩ => ⟨rec0,214,e1,by simp [delB,hu],g⟩
noncomputable def b20 : Code := Try.f20.body.getD .skip
set_option maxHeartbeats 1000000 in
theorem due_sat (h : Heap) (L : List Rec) (va : Option Addr) (vc : Nat) (now : Int) (K : Nat) (hsort : Sorts Try.prog 28 (.func (.func 29) #[] #[]) 26 K) (hr : Row h (.slice va L.length vc) L.length 39 (rrow L)) (hL : L.length ≤ 1099511627776) (hok : ∀ r ∈ L,RecOk h r) (hK : (L.filter (dueB now)).length ≤ K) : Sat Try.prog 20 #[.slice va L.length vc,.int .i64 now] h fun v h' => ∃ (M : List Rec) (ad : Option Addr) (cap : Nat),M.Perm (L.filter (dueB now)) ∧ SrtOn M 0 M.length ∧ v = .slice ad M.length cap ∧ Own h' (.slice ad M.length cap) 9 M.length 1 ((ids M).map Value.string) ∧ (∀ k,ad.map (fun (x : Addr) => x.block) = some k → h.size ≤ k) ∧ Ext h h' := by
 have e0 := Ext.refl h
 have sep : Sep h.size h.size [] := Sep.nil _ _
 refine sat_of (args := [.slice va L.length vc,.int .i64 now]) (fn := Try.f20) (B := b20) (n := 50) (L := [(0,.slice va L.length vc),(1,.int .i64 now)]) Try.func20 rfl (by kernel_rfl) rfl ?_
 intro a hF
 refine cS ?_
 refine cP 0 hF ?_
 refine sP 1 [.slice none 0 0] ?_
 refine sD [(0,.slice va L.length vc),(1,.int .i64 now)] ?_
 clear hF a; intro a hF
 refine tK ?_
 refine cS ?_
 refine cP 1 hF ?_
 refine sP 1 [.slice none 0 0] ?_
 refine sD [(0,.slice va L.length vc),(1,.int .i64 now),(5,.slice none 0 0)] ?_
 clear hF a; intro a hF
 refine tK ?_
 refine cS ?_
 refine cS ?_
 refine cP 2 hF ?_
 refine sP 3 [.slice va L.length vc,nV L.length,.int .i64 0] ?_
 refine sD [(1,.int .i64 now),(5,.slice none 0 0),(13,.slice va L.length vc),(14,nV L.length),(15,.int .i64 0)] ?_
 clear hF a; intro a hF
 refine tK ?_
 refine cB 0 ?_
 have own_o : Own h (.slice none 0 0) 26 0 39 (rrow []) := Own.nil _ _ _
 have hlo := e0.size
 replace sep := sep.none hlo; clear hlo
 refine C.loop (fun m a h' => ∃ i : Nat,∃ D : List Rec,∃ ad : Option Addr,∃ cap : Nat,m = L.length - i ∧ (Ext h h') ∧ (i ≤ L.length) ∧ ((L.take i).filter (dueB now) = D) ∧ (Own h' (.slice ad D.length cap) 26 D.length 39 (rrow D)) ∧ (Sep h.size h'.size [ad.map (·.block)]) ∧ (Fr a 50 [(1,.int .i64 now),(5,.slice ad D.length cap),(13,.slice va L.length vc),(14,.int .i64 ((L.length : Nat) : Int)),(15,.int .i64 ((i : Nat) : Int))])) (L.length - 0) [1,1,0,1,0,0] (by kernel_rfl) ⟨0,[],none,0,rfl,e0,(by omega),rfl,own_o,sep,hF⟩ ?_
 clear hF a
 clear e0
 clear own_o
 clear sep
 rintro m a h1 ⟨i,D,ad,cap,rfl,e0,hi,hD,own_o,sep,hF⟩
 refine cS ?_
 refine cP 3 hF ?_
 refine sP 1 [.bool (decide (((i : Nat) : Int) < ((L.length : Nat) : Int)))] ?_
 refine sD [(1,.int .i64 now),(5,.slice ad D.length cap),(13,.slice va L.length vc),(14,nV L.length),(15,nV i),(16,.bool (decide (((i : Nat) : Int) < ((L.length : Nat) : Int))))] ?_
 clear hF a; intro a hF
 refine tK ?_
 refine cS ?_
 refine cC 16 (decide (((i : Nat) : Int) < ((L.length : Nat) : Int))) hF (fun hc2 => ?_) (fun hc2 => ?_)
 ·skip
  replace hc2 := of_decide_eq_true hc2
  have hia : i < L.length := by omega
  have hDl := filt_le hD
  obtain ⟨aa,rfl,hcap_aa⟩ := hr.someA (by omega)
  refine cN ?_
  refine tK ?_
  refine cS ?_
  refine cB 1 ?_
  refine cS ?_
  refine cP 4 hF ?_
  refine sC 1 (.pointer (some (Addr.add aa (i * 39)))) ((Calm.indexA (a := aa) (len := L.length) (sz := 39) (k := ((i : Nat) : Int)) i (i * 39) (by kernel_rfl) rfl (by omega) (by omega)) _) ?_
  refine sC 2 (.agg (rcs (L.getD i rec0)).toArray) (Calm.load (T := 26) (p := (Addr.add aa (i * 39))) (by kernel_rfl) (Row.fm (d := rec0) (i := i) rcs_len (hr.ext e0) (by kernel_rfl) (by omega) (by omega))) ?_
  refine SeqK.eff (k' := 3) (Does.new (v := .pointer (some ⟨h1.size,0,none⟩)) (o := .cells (rc rb0 (0 : Int) false false (.slice none 0 0)).toArray 26) (by kernel_rfl)) rfl ?_
  rintro _ h3 ⟨rfl,hh⟩
  have g4 : Ext h1 h3 := push_ext hh
  have m5 : h3[h1.size]? = some (.cells (rc rb0 (0 : Int) false false (.slice none 0 0)).toArray 26) := push_at hh
  clear hh
  have lt6 := blk_lt m5
  have zs7 := e0.size
  have hlo := e0.size
  have sepo := sep
  replace e0 := e0.ext g4
  replace own_o := own_o.ext g4
  replace sep := sep.up g4.size
  replace sep := sepo.new hlo (blk_lt m5)
  clear sepo hlo
  refine SeqK.eff (k' := 4) (Does.store (b := h1.size) (off := 0) (vs := rcs (L.getD i rec0)) (l := rc rb0 (0 : Int) false false (.slice none 0 0)) (by kernel_rfl) m5 (of_decide_eq_true (by kernel_rfl)) (List.all_eq_true.1 (by kernel_rfl))) rfl ?_
  rintro _ h8 ⟨rfl,hh⟩
  have g9 : Grew (some (h1.size)) h3 h8 := hput_gr hh
  replace m5 : h8[h1.size]? = some (.cells (rcs (L.getD i rec0)).toArray 26) := hput_at (off := 0) (vs := rcs (L.getD i rec0)) (l := (rc rb0 (0 : Int) false false (.slice none 0 0))) hh (by kernel_rfl) m5
  clear hh
  replace e0 := e0.grew g9 (sep.low 0 rfl)
  replace own_o := own_o.kept g9 (by rw [blkOf_slice]; exact (sep.ap 1 0))
  replace sep := sep.up g9.size
  refine sD [(1,.int .i64 now),(5,.slice ad D.length cap),(7,pV h1.size),(13,.slice (some aa) L.length vc),(14,nV L.length),(15,nV i)] ?_
  clear hF a; intro a hF
  refine tK ?_
  refine cS ?_
  refine cP 5 hF ?_
  refine sP 1 [.pointer (some ⟨h1.size,35,none⟩)] ?_
  refine sC 2 (.int .i64 ((L.getD i rec0).e)) (Calm.load (T := 3) (p := ⟨h1.size,35,none⟩) (by kernel_rfl) (Loads.one (k := 1) (by kernel_rfl) ((hcell_blk m5).trans (rfl)))) ?_
  refine sP 3 [.bool (decide ((0 : Int) < ((L.getD i rec0).e)))] ?_
  refine sD [(1,.int .i64 now),(5,.slice ad D.length cap),(7,pV h1.size),(13,.slice (some aa) L.length vc),(14,nV L.length),(15,nV i),(21,.bool (decide ((0 : Int) < ((L.getD i rec0).e))))] ?_
  clear hF a; intro a hF
  refine tK ?_
  refine cC 21 (decide ((0 : Int) < ((L.getD i rec0).e))) hF (fun hc10 => ?_) (fun hc10 => ?_)
  ·skip
   replace hc10 := of_decide_eq_true hc10
   have hpos := hc10
   refine cS ?_
   refine cP 6 hF ?_
   refine sC 1 (.agg (rcs (L.getD i rec0)).toArray) (Calm.load (T := 26) (p := ⟨h1.size,0,none⟩) (by kernel_rfl) (Loads.blk (vs := rcs (L.getD i rec0)) (by kernel_rfl) m5 rfl)) ?_
   refine sP 2 [.int .i64 now] ?_
   refine SeqK.eff (k' := 3) (Does.call (f := 18) (args := #[.agg (rcs (L.getD i rec0)).toArray,.int .i64 now]) (by kernel_rfl) (del_any _ (L.getD i rec0) now ((hok _ (getD_mem hia)).ext e0))) rfl ?_
   rintro _ h11 ⟨w,z,rfl,hz,g⟩
   replace e0 := e0.ext g
   replace own_o := own_o.ext g
   replace m5 := Ext.blk g m5
   replace sep := sep.up g.size
   clear g
   refine sP 6 [.tuple #[.agg (rcs w).toArray,.int .i64 z],.agg (rcs w).toArray,.int .i64 z] ?_
   refine SeqK.eff (k' := 7) (Does.new (v := .pointer (some ⟨h11.size,0,none⟩)) (o := .cells (rc rb0 (0 : Int) false false (.slice none 0 0)).toArray 26) (by kernel_rfl)) rfl ?_
   rintro _ h12 ⟨rfl,hh⟩
   have g13 : Ext h11 h12 := push_ext hh
   have m14 : h12[h11.size]? = some (.cells (rc rb0 (0 : Int) false false (.slice none 0 0)).toArray 26) := push_at hh
   clear hh
   have lt15 := blk_lt m14
   have zs16 := e0.size
   have hlo := e0.size
   have sepo := sep
   replace e0 := e0.ext g13
   replace own_o := own_o.ext g13
   replace m5 := Ext.blk g13 m5
   replace sep := sep.up g13.size
   replace sep := sepo.new hlo (blk_lt m14)
   clear sepo hlo
   refine SeqK.eff (k' := 8) (Does.store (b := h11.size) (off := 0) (vs := rcs w) (l := rc rb0 (0 : Int) false false (.slice none 0 0)) (by kernel_rfl) m14 (of_decide_eq_true (by kernel_rfl)) (List.all_eq_true.1 (by kernel_rfl))) rfl ?_
   rintro _ h17 ⟨rfl,hh⟩
   have g18 : Grew (some (h11.size)) h12 h17 := hput_gr hh
   replace m14 : h17[h11.size]? = some (.cells (rcs w).toArray 26) := hput_at (off := 0) (vs := rcs w) (l := (rc rb0 (0 : Int) false false (.slice none 0 0))) hh (by kernel_rfl) m14
   clear hh
   replace e0 := e0.grew g18 (sep.low 0 rfl)
   replace own_o := own_o.kept g18 (by rw [blkOf_slice]; exact (sep.ap 2 0))
   replace m5 := Grew.blk g18 m5 ((sep.bp 1 0))
   replace sep := sep.up g18.size
   refine sP 9 [.int .i64 z] ?_
   refine sD [(1,.int .i64 now),(5,.slice ad D.length cap),(7,pV h1.size),(9,.int .i64 z),(13,.slice (some aa) L.length vc),(14,nV L.length),(15,nV i)] ?_
   clear hF a; intro a hF
   refine tK ?_
   refine cS ?_
   refine cP 7 hF ?_
   refine sP 2 [.int .i64 z,.bool (decide (z = (0 : Int)))] ?_
   refine sD [(1,.int .i64 now),(5,.slice ad D.length cap),(7,pV h1.size),(13,.slice (some aa) L.length vc),(14,nV L.length),(15,nV i),(29,.bool (decide (z = (0 : Int))))] ?_
   clear hF a; intro a hF
   refine tK ?_
   refine cC 29 (decide (z = (0 : Int))) hF (fun hc19 => ?_) (fun hc19 => ?_)
   ·skip
    replace hc19 := of_decide_eq_true hc19
    have hD2 := tf_yes hia hD (dueB_iff.2 ⟨hpos,hz.1 hc19⟩)
    refine cP 8 hF ?_
    refine sP 1 [.slice ad D.length cap] ?_
    refine sC 2 (.agg (rcs (L.getD i rec0)).toArray) (Calm.load (T := 26) (p := ⟨h1.size,0,none⟩) (by kernel_rfl) (Loads.blk (vs := rcs (L.getD i rec0)) (by kernel_rfl) m5 rfl)) ?_
    refine SeqK.eff (k' := 3) (Does.new (v := .slice (some ⟨h17.size,0,none⟩) 1 1) (o := .cells (rrow [L.getD i rec0]).toArray 26) (by kernel_rfl)) rfl ?_
    rintro _ h20 ⟨rfl,hh⟩
    have g21 : Ext h17 h20 := push_ext hh
    have m22 : h20[h17.size]? = some (.cells (rrow [L.getD i rec0]).toArray 26) := push_at hh
    clear hh
    have lt23 := blk_lt m22
    have zs24 := e0.size
    have hlo := e0.size
    have sepo := sep
    replace e0 := e0.ext g21
    replace own_o := own_o.ext g21
    replace m5 := Ext.blk g21 m5
    replace m14 := Ext.blk g21 m14
    replace sep := sep.up g21.size
    replace sep := sepo.new hlo (blk_lt m22)
    clear sepo hlo
    refine SeqK.eff (k' := 4) (Does.append2 (t := 37) (E := 26) (sz := 39) (by_ := 104) (n := D.length) (m := 1) (v := .slice ad D.length cap) (x := .slice (some ⟨h17.size,0,none⟩) 1 1) (xs := (rrow D)) (ys := (rrow ([L.getD i rec0]))) (by kernel_rfl) (by kernel_rfl) own_o (Row.blk (n := 1) (sz := 39) (l := rrow [L.getD i rec0]) m22 rfl) (rrow_one _) (by unfold maxLen; omega) (by omega)) rfl ?_
    rintro _ h27 ⟨ad25,cap26,rfl,ownx,g,hb⟩
    rw [blkOf_slice] at g hb
    have hlo := e0.size
    have sepo := sep
    replace e0 := e0.grew g (sep.low 3 rfl)
    replace m5 := Grew.blk g m5 ((sep.bp 2 3))
    replace m14 := Grew.blk g m14 ((sep.bp 1 3))
    replace m22 := Grew.blk g m22 ((sep.bp 0 3))
    replace sep := sep.up g.size
    replace sep : Sep h.size h27.size [some (h17.size),some (h11.size),some (h1.size),ad25.map (·.block)] := sepo.set g.size hlo 3 (y := ad25.map (fun (x : Addr) => x.block)) rfl (hb.imp id fun e => .inr ⟨_,e,Nat.le_refl _⟩) (fun k e => ownx.lt (by rw [blkOf_slice]; exact e))
    replace own_o : Own h27 (.slice ad25 ((D ++ [L.getD i rec0]).length) cap26) 26 ((D ++ [L.getD i rec0]).length) 39 (rrow (D ++ [L.getD i rec0])) := Own.appG ownx (by first | rfl | exact List.flatMap_append.symm | simp [rrow]) (by first | rfl | (simp; done) | (simp; omega))
    clear ownx g hb hlo sepo
    refine sP 5 [.slice ad25 (D.length + 1) cap26] ?_
    refine sD [(1,.int .i64 now),(5,.slice ad25 (D.length + 1) cap26),(13,.slice (some aa) L.length vc),(14,nV L.length),(15,nV i)] ?_
    clear hF a; intro a hF
    have hcan : (D.length + 1 : Nat) = (D ++ [L.getD i rec0]).length := by first | (simp; done) | (simp; omega)
    rw [hcan] at hF; clear hcan
    show C Try.prog (sub b20 [1,1,0,1,0,0,1,1,1]) _ a h27
    refine cP 9 hF ?_
    refine s1 1 (.int .i64 ((i + 1 : Nat) : Int)) (.int .i64 (IntKind.i64.wrap (((i : Nat) : Int) + 1))) (congrArg (Value.int .i64) (w64' (by omega) (by omega) (by omega))) ?_
    refine sP 2 [nV (i + 1)] ?_
    refine sD [(1,.int .i64 now),(5,.slice ad25 ((D ++ [L.getD i rec0]).length) cap26),(13,.slice (some aa) L.length vc),(14,nV L.length),(15,nV (i + 1))] ?_
    clear hF a; intro a hF
    clear m5 lt6 zs7
    clear m14 lt15 zs16
    clear m22 lt23 zs24
    replace sep := sep.sub (l' := [ad25.map (·.block)]) (.cons _ (.cons _ (.cons _ (.cons_cons _ (.slnil)))))
    show ∃ m',m' < _ ∧ _
    refine ⟨_,?_,(i + 1),(D ++ [L.getD i rec0]),ad25,cap26,rfl,e0,(by omega),hD2,own_o,sep,hF⟩
    omega
   ·skip
    replace hc19 := of_decide_eq_false hc19
    have hD2 := tf_no hia hD (dueB_no (now := now) (fun hb => hc19 (hz.2 hb)))
    refine cN ?_
    show C Try.prog (sub b20 [1,1,0,1,0,0,1,1,1]) _ a h17
    refine cP 9 hF ?_
    refine s1 1 (.int .i64 ((i + 1 : Nat) : Int)) (.int .i64 (IntKind.i64.wrap (((i : Nat) : Int) + 1))) (congrArg (Value.int .i64) (w64' (by omega) (by omega) (by omega))) ?_
    refine sP 2 [nV (i + 1)] ?_
    refine sD [(1,.int .i64 now),(5,.slice ad D.length cap),(13,.slice (some aa) L.length vc),(14,nV L.length),(15,nV (i + 1))] ?_
    clear hF a; intro a hF
    clear m5 lt6 zs7
    clear m14 lt15 zs16
    replace sep := sep.sub (l' := [ad.map (·.block)]) (.cons _ (.cons _ (.cons_cons _ (.slnil))))
    show ∃ m',m' < _ ∧ _
    refine ⟨_,?_,(i + 1),D,ad,cap,rfl,e0,(by omega),hD2,own_o,sep,hF⟩
    omega
  ·skip
   replace hc10 := of_decide_eq_false hc10
   have hD2 := tf_no hia hD (dueB_early (now := now) hc10)
   refine cN ?_
   show C Try.prog (sub b20 [1,1,0,1,0,0,1,1,1]) _ a h8
   refine cP 9 hF ?_
   refine s1 1 (.int .i64 ((i + 1 : Nat) : Int)) (.int .i64 (IntKind.i64.wrap (((i : Nat) : Int) + 1))) (congrArg (Value.int .i64) (w64' (by omega) (by omega) (by omega))) ?_
   refine sP 2 [nV (i + 1)] ?_
   refine sD [(1,.int .i64 now),(5,.slice ad D.length cap),(13,.slice (some aa) L.length vc),(14,nV L.length),(15,nV (i + 1))] ?_
   clear hF a; intro a hF
   clear m5 lt6 zs7
   replace sep := sep.sub (l' := [ad.map (·.block)]) (.cons _ (.cons_cons _ (.slnil)))
   show ∃ m',m' < _ ∧ _
   refine ⟨_,?_,(i + 1),D,ad,cap,rfl,e0,(by omega),hD2,own_o,sep,hF⟩
   omega
 ·skip
  replace hc2 := of_decide_eq_false hc2
  obtain rfl : i = L.length := by omega
  rw [List.take_length] at hD
  refine cX 0 ?_
  show C Try.prog (sub b20 [1,1,1]) _ a h1
  refine cS ?_
  refine cP 10 hF ?_
  refine sP 1 [.slice ad D.length cap] ?_
  have hfl : D.length ≤ L.length := by rw [← hD]; exact List.length_filter_le _ _
  refine SeqK.eff (k' := 2) (Does.call (f := 28) (args := #[.slice ad D.length cap,.func (.func 29) #[] #[]]) (by kernel_rfl) (hsort _ _ _ _ _ own_o rfl (by rw [← hD]; exact hK) (by omega))) rfl ?_
  rintro _ h28 ⟨M,hM,hP,hS,ownx,g⟩
  replace e0 := e0.grew g (sep.low 0 rfl)
  replace sep := sep.up g.size
  clear own_o; have own_o := ownx; clear ownx g
  refine sD [(5,.slice ad D.length cap)] ?_
  clear hF a; intro a hF
  refine tK ?_
  refine cS ?_
  refine cP 11 hF ?_
  refine sP 1 [.slice none 0 0] ?_
  refine sD [(5,.slice ad D.length cap),(10,.slice none 0 0)] ?_
  clear hF a; intro a hF
  refine tK ?_
  refine cS ?_
  refine cS ?_
  refine cP 12 hF ?_
  refine sP 3 [.slice ad D.length cap,nV D.length,.int .i64 0] ?_
  refine sD [(10,.slice none 0 0),(37,.slice ad D.length cap),(38,nV D.length),(39,.int .i64 0)] ?_
  clear hF a; intro a hF
  refine tK ?_
  refine cB 2 ?_
  have own_s : Own h28 (.slice none 0 0) 9 0 1 ((ids (M.take 0)).map Value.string) := Own.nil _ _ _
  have hlo := e0.size
  replace sep := sep.none hlo; clear hlo
  refine C.loop (fun m a h' => ∃ i : Nat,∃ ad2 : Option Addr,∃ cap2 : Nat,m = D.length - i ∧ (Ext h h') ∧ (i ≤ D.length) ∧ (Own h' (.slice ad2 i cap2) 9 i 1 ((ids (M.take i)).map Value.string)) ∧ (Own h' (.slice ad D.length cap) 26 D.length 39 (rrow M)) ∧ (Sep h.size h'.size [ad2.map (·.block),ad.map (·.block)]) ∧ (Fr a 50 [(10,.slice ad2 i cap2),(37,.slice ad D.length cap),(38,.int .i64 ((D.length : Nat) : Int)),(39,.int .i64 ((i : Nat) : Int))])) (D.length - 0) [1,1,1,1,1,0,1,0,0] (by kernel_rfl) ⟨0,none,0,rfl,e0,(by omega),own_s,own_o,sep,hF⟩ ?_
  clear hF a
  clear e0
  clear own_s
  clear own_o
  clear sep
  rintro m a h29 ⟨i,ad2,cap2,rfl,e0,hi,own_s,own_o,sep,hF⟩
  refine cS ?_
  refine cP 13 hF ?_
  refine sP 1 [.bool (decide (((i : Nat) : Int) < ((D.length : Nat) : Int)))] ?_
  refine sD [(10,.slice ad2 i cap2),(37,.slice ad D.length cap),(38,nV D.length),(39,nV i),(40,.bool (decide (((i : Nat) : Int) < ((D.length : Nat) : Int))))] ?_
  clear hF a; intro a hF
  refine tK ?_
  refine cS ?_
  refine cC 40 (decide (((i : Nat) : Int) < ((D.length : Nat) : Int))) hF (fun hc30 => ?_) (fun hc30 => ?_)
  ·skip
   replace hc30 := of_decide_eq_true hc30
   have hia : i < D.length := by omega
   obtain ⟨ab,rfl,hcap_ab⟩ := own_o.someA (by omega)
   refine cN ?_
   refine tK ?_
   refine cS ?_
   refine cB 3 ?_
   refine cS ?_
   refine cP 14 hF ?_
   refine sC 1 (.pointer (some (Addr.add ab (i * 39)))) ((Calm.indexA (a := ab) (len := D.length) (sz := 39) (k := ((i : Nat) : Int)) i (i * 39) (by kernel_rfl) rfl (by omega) (by omega)) _) ?_
   refine sC 2 (.agg (rcs (M.getD i rec0)).toArray) (Calm.load (T := 26) (p := (Addr.add ab (i * 39))) (by kernel_rfl) (Row.fm (d := rec0) (i := i) rcs_len (own_o.row) (by kernel_rfl) (by omega) (by omega))) ?_
   refine SeqK.eff (k' := 3) (Does.new (v := .pointer (some ⟨h29.size,0,none⟩)) (o := .cells (rc rb0 (0 : Int) false false (.slice none 0 0)).toArray 26) (by kernel_rfl)) rfl ?_
   rintro _ h31 ⟨rfl,hh⟩
   have g32 : Ext h29 h31 := push_ext hh
   have m33 : h31[h29.size]? = some (.cells (rc rb0 (0 : Int) false false (.slice none 0 0)).toArray 26) := push_at hh
   clear hh
   have lt34 := blk_lt m33
   have zs35 := e0.size
   have hlo := e0.size
   have sepo := sep
   replace e0 := e0.ext g32
   replace own_s := own_s.ext g32
   replace own_o := own_o.ext g32
   replace sep := sep.up g32.size
   replace sep := sepo.new hlo (blk_lt m33)
   clear sepo hlo
   refine SeqK.eff (k' := 4) (Does.store (b := h29.size) (off := 0) (vs := rcs (M.getD i rec0)) (l := rc rb0 (0 : Int) false false (.slice none 0 0)) (by kernel_rfl) m33 (of_decide_eq_true (by kernel_rfl)) (List.all_eq_true.1 (by kernel_rfl))) rfl ?_
   rintro _ h36 ⟨rfl,hh⟩
   have g37 : Grew (some (h29.size)) h31 h36 := hput_gr hh
   replace m33 : h36[h29.size]? = some (.cells (rcs (M.getD i rec0)).toArray 26) := hput_at (off := 0) (vs := rcs (M.getD i rec0)) (l := (rc rb0 (0 : Int) false false (.slice none 0 0))) hh (by kernel_rfl) m33
   clear hh
   replace e0 := e0.grew g37 (sep.low 0 rfl)
   replace own_s := own_s.kept g37 (by rw [blkOf_slice]; exact (sep.ap 1 0))
   replace own_o := own_o.kept g37 (by rw [blkOf_slice]; exact (sep.ap 2 0))
   replace sep := sep.up g37.size
   refine sD [(10,.slice ad2 i cap2),(12,pV h29.size),(37,.slice (some ab) D.length cap),(38,nV D.length),(39,nV i)] ?_
   clear hF a; intro a hF
   refine tK ?_
   refine cP 15 hF ?_
   refine sP 2 [.slice ad2 i cap2,pV h29.size] ?_
   refine sC 3 (.string (((M.getD i rec0).b).id)) (Calm.load (T := 9) (p := ⟨h29.size,0,none⟩) (by kernel_rfl) (Loads.one (k := 1) (by kernel_rfl) ((hcell_blk m33).trans (rfl)))) ?_
   refine SeqK.eff (k' := 4) (Does.new (v := .slice (some ⟨h36.size,0,none⟩) 1 1) (o := .cells #[.string (((M.getD i rec0).b).id)] 9) (by kernel_rfl)) rfl ?_
   rintro _ h38 ⟨rfl,hh⟩
   have g39 : Ext h36 h38 := push_ext hh
   have m40 : h38[h36.size]? = some (.cells #[.string (((M.getD i rec0).b).id)] 9) := push_at hh
   clear hh
   have lt41 := blk_lt m40
   have zs42 := e0.size
   have hlo := e0.size
   have sepo := sep
   replace e0 := e0.ext g39
   replace own_s := own_s.ext g39
   replace own_o := own_o.ext g39
   replace m33 := Ext.blk g39 m33
   replace sep := sep.up g39.size
   replace sep := sepo.new hlo (blk_lt m40)
   clear sepo hlo
   refine SeqK.eff (k' := 5) (Does.append2 (t := 38) (E := 9) (sz := 1) (by_ := 16) (n := i) (m := 1) (v := .slice ad2 i cap2) (x := .slice (some ⟨h36.size,0,none⟩) 1 1) (xs := ((ids (M.take i)).map Value.string)) (ys := (([((M.getD i rec0).b).id]).map Value.string)) (by kernel_rfl) (by kernel_rfl) own_s (Row.blk (n := 1) (sz := 1) (l := [((M.getD i rec0).b).id].map Value.string) m40 rfl) (ones_str _) (by unfold maxLen; omega) (by omega)) rfl ?_
   rintro _ h45 ⟨ad43,cap44,rfl,ownx,g,hb⟩
   rw [blkOf_slice] at g hb
   have hlo := e0.size
   have sepo := sep
   replace e0 := e0.grew g (sep.low 2 rfl)
   replace own_o := own_o.kept g (by rw [blkOf_slice]; exact (sep.ap 3 2))
   replace m33 := Grew.blk g m33 ((sep.bp 1 2))
   replace m40 := Grew.blk g m40 ((sep.bp 0 2))
   replace sep := sep.up g.size
   replace sep : Sep h.size h45.size [some (h36.size),some (h29.size),ad43.map (·.block),(some ab : Option Addr).map (·.block)] := sepo.set g.size hlo 2 (y := ad43.map (fun (x : Addr) => x.block)) rfl (hb.imp id fun e => .inr ⟨_,e,Nat.le_refl _⟩) (fun k e => ownx.lt (by rw [blkOf_slice]; exact e))
   replace own_s : Own h45 (.slice ad43 (i + 1) cap44) 9 (i + 1) 1 ((ids (M.take i) ++ [((M.getD i rec0).b).id]).map Value.string) := Own.appG ownx (by first | rfl | simp) (by first | rfl | (simp; done) | (simp; omega))
   clear ownx g hb hlo sepo
   refine sP 6 [.slice ad43 (i + 1) cap44] ?_
   refine sD [(10,.slice ad43 (i + 1) cap44),(37,.slice (some ab) D.length cap),(38,nV D.length),(39,nV i)] ?_
   clear hF a; intro a hF
   have hcan : (i + 1 : Nat) = (i + 1) := by first | (simp; done) | (simp; omega)
   rw [hcan] at hF; clear hcan
   show C Try.prog (sub b20 [1,1,1,1,1,0,1,0,0,1,1,1]) _ a h45
   refine cP 16 hF ?_
   refine s1 1 (.int .i64 ((i + 1 : Nat) : Int)) (.int .i64 (IntKind.i64.wrap (((i : Nat) : Int) + 1))) (congrArg (Value.int .i64) (w64' (by omega) (by omega) (by omega))) ?_
   refine sP 2 [nV (i + 1)] ?_
   refine sD [(10,.slice ad43 (i + 1) cap44),(37,.slice (some ab) D.length cap),(38,nV D.length),(39,nV (i + 1))] ?_
   clear hF a; intro a hF
   rw [ids_next (by omega)] at own_s
   clear m33 lt34 zs35
   clear m40 lt41 zs42
   replace sep := sep.sub (l' := [ad43.map (·.block),(some ab : Option Addr).map (·.block)]) (.cons _ (.cons _ (.cons_cons _ (.cons_cons _ (.slnil)))))
   show ∃ m',m' < _ ∧ _
   refine ⟨_,?_,(i + 1),ad43,cap44,rfl,e0,(by omega),own_s,own_o,sep,hF⟩
   omega
  ·skip
   replace hc30 := of_decide_eq_false hc30
   refine cX 2 ?_
   show C Try.prog (sub b20 [1,1,1,1,1,1]) _ a h29
   refine cS ?_
   refine cP 17 hF ?_
   refine sP 2 [.slice ad2 i cap2,.slice ad2 i cap2] ?_
   refine sD [(4,.slice ad2 i cap2)] ?_
   clear hF a; intro a hF
   refine tK ?_
   refine cR ?_
   show retK Try.prog Try.f20 (fun v h' => ∃ (M : List Rec) (ad : Option Addr) (cap : Nat),M.Perm (L.filter (dueB now)) ∧ SrtOn M 0 M.length ∧ v = .slice ad M.length cap ∧ Own h' (.slice ad M.length cap) 9 M.length 1 ((ids M).map Value.string) ∧ (∀ k,ad.map (fun (x : Addr) => x.block) = some k → h.size ≤ k) ∧ Ext h h') .ret a h29
   refine ret_ok [.tmp 4] [.slice ad2 i cap2] (.slice ad2 i cap2) rfl hF ⟨rfl,trivial⟩ rfl ?_
   obtain rfl : i = D.length := by omega
   rw [← hM,List.take_length] at own_s
   rw [← hM]
   exact ⟨M,ad2,cap2,hD ▸ hP,by rw [hM]; exact hS,rfl,own_s,sep.low 0 rfl,e0⟩
end Go.Proofs.Ytlghdimpgfhmcaa
