/- records compared; a record's copies spoilt: what it comes to. Conditions: those that each theorem names. -/
import Derived.Test.YtlghdimpgfhmcaaRetC
namespace Go.Proofs.Ytlghdimpgfhmcaa
open Go Go.Lane Go.Sha
noncomputable def b14 : Code := Try.f14.body.getD .skip
theorem same_sat (h : Heap) (x : RB) (e : Int) (ho go : Bool) (L : List Pl) (va : Option Addr) (vc : Nat) (hr : Row h (.slice va L.length vc) L.length 4 (prow L)) (hL : L.length ≤ 1099511627776) (wa : Option Addr) (wc : Nat) (hr2 : Row h (.slice wa L.length wc) L.length 4 (prow L)) : Sat Try.prog 14 #[.agg (rc x e ho go (.slice va L.length vc)).toArray,.agg (rc x e ho go (.slice wa L.length wc)).toArray] h fun v h' => v = .bool true ∧ Ext h h' := by
 have e0 := Ext.refl h
 refine sat_of (args := [.agg (rc x e ho go (.slice va L.length vc)).toArray,.agg (rc x e ho go (.slice wa L.length wc)).toArray]) (fn := Try.f14) (B := b14) (n := 80) (L := [(0,.agg (rc x e ho go (.slice va L.length vc)).toArray),(1,.agg (rc x e ho go (.slice wa L.length wc)).toArray)]) Try.func14 rfl (by kernel_rfl) rfl ?_
 intro a hF
 refine cS ?_
 refine cP 0 hF ?_
 refine SeqK.eff (k' := 1) (Does.new (v := .pointer (some ⟨h.size,0,none⟩)) (o := .cells (rc x e ho go (.slice va L.length vc)).toArray 26) (by kernel_rfl)) rfl ?_
 rintro _ h1 ⟨rfl,hh⟩
 have g2 : Ext h h1 := push_ext hh
 have m3 : h1[h.size]? = some (.cells (rc x e ho go (.slice va L.length vc)).toArray 26) := push_at hh
 clear hh
 have lt4 := blk_lt m3
 have zs5 := e0.size
 replace e0 := e0.ext g2
 refine SeqK.eff (k' := 2) (Does.new (v := .pointer (some ⟨h1.size,0,none⟩)) (o := .cells (rc x e ho go (.slice wa L.length wc)).toArray 26) (by kernel_rfl)) rfl ?_
 rintro _ h6 ⟨rfl,hh⟩
 have g7 : Ext h1 h6 := push_ext hh
 have m8 : h6[h1.size]? = some (.cells (rc x e ho go (.slice wa L.length wc)).toArray 26) := push_at hh
 clear hh
 have lt9 := blk_lt m8
 have zs10 := e0.size
 replace e0 := e0.ext g7
 replace m3 := Ext.blk g7 m3
 refine sP 3 [.bool false] ?_
 refine sD [(2,pV h.size),(3,pV h1.size)] ?_
 clear hF a; intro a hF
 refine tK ?_
 refine cS ?_
 refine cS ?_
 refine cP 1 hF ?_
 refine sP 1 [pV h.size] ?_
 refine sC 2 (.string x.id) (Calm.load (T := 9) (p := ⟨h.size,0,none⟩) (by kernel_rfl) (Loads.one (k := 1) (by kernel_rfl) ((hcell_blk m3).trans (rfl)))) ?_
 refine sP 3 [pV h1.size] ?_
 refine sC 4 (.string x.id) (Calm.load (T := 9) (p := ⟨h1.size,0,none⟩) (by kernel_rfl) (Loads.one (k := 1) (by kernel_rfl) ((hcell_blk m8).trans (rfl)))) ?_
 refine s1 5 (.bool false) (.bool (!(x.id.toList == x.id.toList))) (congrArg Value.bool (by simp)) ?_
 refine sP 7 [.bool false,.pointer (some ⟨h.size,1,none⟩)] ?_
 refine sC 8 (.int .i64 x.len) (Calm.load (T := 3) (p := ⟨h.size,1,none⟩) (by kernel_rfl) (Loads.one (k := 1) (by kernel_rfl) ((hcell_blk m3).trans (rfl)))) ?_
 refine sP 9 [.pointer (some ⟨h1.size,1,none⟩)] ?_
 refine sC 10 (.int .i64 x.len) (Calm.load (T := 3) (p := ⟨h1.size,1,none⟩) (by kernel_rfl) (Loads.one (k := 1) (by kernel_rfl) ((hcell_blk m8).trans (rfl)))) ?_
 refine s1 11 (.bool false) (.bool (!(x.len == x.len))) (congrArg (fun b => Value.bool (!b)) (beq_iff_eq.2 (by omega))) ?_
 refine sP 14 [.bool false,.bool false,.pointer (some ⟨h.size,2,none⟩)] ?_
 refine sC 15 (.agg ((hl x).map bv).toArray) (Calm.load (T := 23) (p := ⟨h.size,2,none⟩) (by kernel_rfl) (Loads.blk (vs := (hl x).map bv) (by kernel_rfl) m3 rfl)) ?_
 refine sP 16 [.pointer (some ⟨h1.size,2,none⟩)] ?_
 refine sC 17 (.agg ((hl x).map bv).toArray) (Calm.load (T := 23) (p := ⟨h1.size,2,none⟩) (by kernel_rfl) (Loads.blk (vs := (hl x).map bv) (by kernel_rfl) m8 rfl)) ?_
 refine sC 18 (.bool false) ((eqHT (q := false) (l := (hl x)) (r := (hl x)) (n := 32) (by kernel_rfl) rfl rfl rfl) _) ?_
 refine sP 21 [.bool false,.bool false,.pointer (some ⟨h.size,34,none⟩)] ?_
 refine sC 22 (.int .i64 x.idx) (Calm.load (T := 3) (p := ⟨h.size,34,none⟩) (by kernel_rfl) (Loads.one (k := 1) (by kernel_rfl) ((hcell_blk m3).trans (rfl)))) ?_
 refine sP 23 [.pointer (some ⟨h1.size,34,none⟩)] ?_
 refine sC 24 (.int .i64 x.idx) (Calm.load (T := 3) (p := ⟨h1.size,34,none⟩) (by kernel_rfl) (Loads.one (k := 1) (by kernel_rfl) ((hcell_blk m8).trans (rfl)))) ?_
 refine s1 25 (.bool false) (.bool (!(x.idx == x.idx))) (congrArg (fun b => Value.bool (!b)) (beq_iff_eq.2 (by omega))) ?_
 refine sP 28 [.bool false,.bool false,.pointer (some ⟨h.size,35,none⟩)] ?_
 refine sC 29 (.int .i64 e) (Calm.load (T := 3) (p := ⟨h.size,35,none⟩) (by kernel_rfl) (Loads.one (k := 1) (by kernel_rfl) ((hcell_blk m3).trans (rfl)))) ?_
 refine sP 30 [.pointer (some ⟨h1.size,35,none⟩)] ?_
 refine sC 31 (.int .i64 e) (Calm.load (T := 3) (p := ⟨h1.size,35,none⟩) (by kernel_rfl) (Loads.one (k := 1) (by kernel_rfl) ((hcell_blk m8).trans (rfl)))) ?_
 refine s1 32 (.bool false) (.bool (!(e == e))) (congrArg (fun b => Value.bool (!b)) (beq_iff_eq.2 (by omega))) ?_
 refine sP 35 [.bool false,.bool false,.pointer (some ⟨h.size,36,none⟩)] ?_
 refine sC 36 (.bool ho) (Calm.load (T := 4) (p := ⟨h.size,36,none⟩) (by kernel_rfl) (Loads.one (k := 1) (by kernel_rfl) ((hcell_blk m3).trans (rfl)))) ?_
 refine sP 37 [.pointer (some ⟨h1.size,36,none⟩)] ?_
 refine sC 38 (.bool ho) (Calm.load (T := 4) (p := ⟨h1.size,36,none⟩) (by kernel_rfl) (Loads.one (k := 1) (by kernel_rfl) ((hcell_blk m8).trans (rfl)))) ?_
 refine s1 39 (.bool false) (.bool (!(ho == ho))) (congrArg Value.bool (by simp)) ?_
 refine sP 42 [.bool false,.bool false,.pointer (some ⟨h.size,37,none⟩)] ?_
 refine sC 43 (.bool go) (Calm.load (T := 4) (p := ⟨h.size,37,none⟩) (by kernel_rfl) (Loads.one (k := 1) (by kernel_rfl) ((hcell_blk m3).trans (rfl)))) ?_
 refine sP 44 [.pointer (some ⟨h1.size,37,none⟩)] ?_
 refine sC 45 (.bool go) (Calm.load (T := 4) (p := ⟨h1.size,37,none⟩) (by kernel_rfl) (Loads.one (k := 1) (by kernel_rfl) ((hcell_blk m8).trans (rfl)))) ?_
 refine s1 46 (.bool false) (.bool (!(go == go))) (congrArg Value.bool (by simp)) ?_
 refine sP 49 [.bool false,.bool false,.pointer (some ⟨h.size,38,none⟩)] ?_
 refine sC 50 (.slice va L.length vc) (Calm.load (T := 24) (p := ⟨h.size,38,none⟩) (by kernel_rfl) (Loads.one (k := 1) (by kernel_rfl) ((hcell_blk m3).trans (rfl)))) ?_
 refine sP 52 [nV L.length,.pointer (some ⟨h1.size,38,none⟩)] ?_
 refine sC 53 (.slice wa L.length wc) (Calm.load (T := 24) (p := ⟨h1.size,38,none⟩) (by kernel_rfl) (Loads.one (k := 1) (by kernel_rfl) ((hcell_blk m8).trans (rfl)))) ?_
 refine sP 54 [nV L.length] ?_
 refine s1 55 (.bool false) (.bool (!(((L.length : Nat) : Int) == ((L.length : Nat) : Int)))) (congrArg (fun b => Value.bool (!b)) (beq_iff_eq.2 (by omega))) ?_
 refine sP 56 [.bool false] ?_
 refine sD [(2,pV h.size),(3,pV h1.size),(61,.bool false)] ?_
 clear hF a; intro a hF
 refine tK ?_
 refine cF 61 hF ?_
 refine cN ?_
 refine tK ?_
 refine cS ?_
 refine cS ?_
 refine cP 3 hF ?_
 refine sP 1 [.int .i64 0] ?_
 refine sD [(2,pV h.size),(3,pV h1.size),(5,.int .i64 0)] ?_
 clear hF a; intro a hF
 refine tK ?_
 refine cB 0 ?_
 refine C.loop (fun m a h' => ∃ i : Nat,m = L.length - i ∧ (Ext h h') ∧ (h'[h.size]? = some (.cells (rc x e ho go (.slice va L.length vc)).toArray 26)) ∧ (h'[h1.size]? = some (.cells (rc x e ho go (.slice wa L.length wc)).toArray 26)) ∧ (i ≤ L.length) ∧ (Fr a 80 [(2,.pointer (some ⟨h.size,0,none⟩)),(3,.pointer (some ⟨h1.size,0,none⟩)),(5,.int .i64 ((i : Nat) : Int))])) (L.length - 0) [1,1,0,1,0,0] (by kernel_rfl) ⟨0,rfl,e0,m3,m8,(by omega),hF⟩ ?_
 clear hF a
 clear e0
 clear m3
 clear m8
 rintro m a h11 ⟨i,rfl,e0,m3,m8,hi,hF⟩
 refine cS ?_
 refine cS ?_
 refine cP 4 hF ?_
 refine sP 2 [nV i,.pointer (some ⟨h.size,38,none⟩)] ?_
 refine sC 3 (.slice va L.length vc) (Calm.load (T := 24) (p := ⟨h.size,38,none⟩) (by kernel_rfl) (Loads.one (k := 1) (by kernel_rfl) ((hcell_blk m3).trans (rfl)))) ?_
 refine sP 5 [nV L.length,.bool (decide (((i : Nat) : Int) < ((L.length : Nat) : Int)))] ?_
 refine sD [(2,pV h.size),(3,pV h1.size),(5,nV i),(66,.bool (decide (((i : Nat) : Int) < ((L.length : Nat) : Int))))] ?_
 clear hF a; intro a hF
 refine tK ?_
 refine cC 66 (decide (((i : Nat) : Int) < ((L.length : Nat) : Int))) hF (fun hc12 => ?_) (fun hc12 => ?_)
 ·skip
  replace hc12 := of_decide_eq_true hc12
  obtain ⟨aa,rfl,hcap_aa⟩ := hr.someA (by omega)
  obtain ⟨ab,rfl,hcap_ab⟩ := hr2.someA (by omega)
  refine cN ?_
  refine tK ?_
  refine cS ?_
  refine cB 1 ?_
  refine cS ?_
  refine cD [0,1,0,7,15,0,32,0,224,480,1023] 6 mixed hF ?_
  refine mP 1 [0] [.pointer (some ⟨h.size,38,none⟩)] ?_
  refine mL 3 2 1 (.slice (some aa) L.length vc) (Calm.load (T := 24) (p := ⟨h.size,38,none⟩) (by kernel_rfl) (Loads.one (k := 1) (by kernel_rfl) ((hcell_blk m3).trans (rfl)))) ?_
  refine mP 7 [2] [nV i] ?_
  refine mF 15 3 (.pointer (some (Addr.add aa (i * 4)))) (Calm.indexA (a := aa) (len := L.length) (sz := 4) (k := ((i : Nat) : Int)) i (i * 4) (by kernel_rfl) rfl (by omega) (by omega)) ?_
  refine mL 31 18 4 (.agg (pcs (L.getD i pl0)).toArray) (Calm.load (T := 49) (p := (Addr.add aa (i * 4))) (by kernel_rfl) (Row.fm (d := pl0) (i := i) pcs_len (hr.ext e0) (by kernel_rfl) (by omega) rfl)) ?_
  refine mP 63 [5] [.pointer (some ⟨h1.size,38,none⟩)] ?_
  refine mL 127 82 6 (.slice (some ab) L.length wc) (Calm.load (T := 24) (p := ⟨h1.size,38,none⟩) (by kernel_rfl) (Loads.one (k := 1) (by kernel_rfl) ((hcell_blk m8).trans (rfl)))) ?_
  refine mP 255 [7] [nV i] ?_
  refine mF 511 8 (.pointer (some (Addr.add ab (i * 4)))) (Calm.indexA (a := ab) (len := L.length) (sz := 4) (k := ((i : Nat) : Int)) i (i * 4) (by kernel_rfl) rfl (by omega) (by omega)) ?_
  refine mL 1023 594 9 (.agg (pcs (L.getD i pl0)).toArray) (Calm.load (T := 49) (p := (Addr.add ab (i * 4))) (by kernel_rfl) (Row.fm (d := pl0) (i := i) pcs_len (hr2.ext e0) (by kernel_rfl) (by omega) rfl)) ?_
  refine mF 2047 10 (.bool false) (Calm.eqS (q := false) (xs := (pcs (L.getD i pl0)).toArray) (by kernel_rfl)) ?_
  refine mD [(2,pV h.size),(3,pV h1.size),(5,nV i),(79,.bool false)] ?_
  clear hF a; intro a hF
  refine tK ?_
  refine cF 79 hF ?_
  refine cN ?_
  show C Try.prog (sub b14 [1,1,0,1,0,0,1,1]) _ a h11
  refine cP 5 hF ?_
  refine sP 1 [nV i] ?_
  refine s1 2 (.int .i64 ((i + 1 : Nat) : Int)) (.int .i64 (IntKind.i64.wrap (((i : Nat) : Int) + 1))) (congrArg (Value.int .i64) (w64' (by omega) (by omega) (by omega))) ?_
  refine sP 3 [nV (i + 1)] ?_
  refine sD [(2,pV h.size),(3,pV h1.size),(5,nV (i + 1))] ?_
  clear hF a; intro a hF
  show ∃ m',m' < _ ∧ _
  refine ⟨_,?_,(i + 1),rfl,e0,m3,m8,(by omega),hF⟩
  omega
 ·skip
  replace hc12 := of_decide_eq_false hc12
  refine cX 0 ?_
  show C Try.prog (sub b14 [1,1,1]) _ a h11
  refine cS ?_
  refine cP 8 hF ?_
  refine sP 1 [.bool true] ?_
  refine sD [(4,.bool true)] ?_
  clear hF a; intro a hF
  refine tK ?_
  refine cR ?_
  show retK Try.prog Try.f14 (fun v h' => v = .bool true ∧ Ext h h') .ret a h11
  refine ret_ok [.tmp 4] [.bool true] (.bool true) rfl hF ⟨rfl,trivial⟩ rfl ?_
  exact ⟨rfl,e0⟩
noncomputable def b15 : Code := Try.f15.body.getD .skip
theorem spoil_sat (h : Heap) (x : RB) (e : Int) (ho go : Bool) (L : List Pl) (va : Option Addr) (vc : Nat) (hL : L.length ≤ 1099511627776) (own_c : Own h (.slice va L.length vc) 49 L.length 4 (prow L)) : Sat Try.prog 15 #[.agg (rc x e ho go (.slice va L.length vc)).toArray] h fun _ h' => Grew (va.map (fun (x : Addr) => x.block)) h h' := by
 have g0 := Gr.refl (fun k => k = h.size ∨ some k = va.map (fun (x : Addr) => x.block)) h
 have sep := own_c.blkSep
 have hop_c : va.map (fun (x : Addr) => x.block) = va.map (fun (x : Addr) => x.block) ∨ ∃ g,va.map (fun (x : Addr) => x.block) = some g ∧ h.size ≤ g := .inl rfl
 refine sat_of (args := [.agg (rc x e ho go (.slice va L.length vc)).toArray]) (fn := Try.f15) (B := b15) (n := 27) (L := [(0,.agg (rc x e ho go (.slice va L.length vc)).toArray)]) Try.func15 rfl (by kernel_rfl) rfl ?_
 intro a hF
 refine cS ?_
 refine cP 0 hF ?_
 refine SeqK.eff (k' := 1) (Does.new (v := .pointer (some ⟨h.size,0,none⟩)) (o := .cells (rc x e ho go (.slice va L.length vc)).toArray 26) (by kernel_rfl)) rfl ?_
 rintro _ h1 ⟨rfl,hh⟩
 have g2 : Ext h h1 := push_ext hh
 have m3 : h1[h.size]? = some (.cells (rc x e ho go (.slice va L.length vc)).toArray 26) := push_at hh
 clear hh
 have lt4 := blk_lt m3
 have zs5 := g0.1
 have hlo : ∀ {n : Nat},0 ≤ n := fun {n} => Nat.zero_le n
 have sepo := sep
 replace g0 := g0.ext g2
 replace own_c := own_c.ext g2
 replace sep := sep.up g2.size
 replace sep := sepo.new hlo (blk_lt m3)
 clear sepo hlo
 refine sD [(1,pV h.size)] ?_
 clear hF a; intro a hF
 refine tK ?_
 refine cS ?_
 refine cS ?_
 refine cP 1 hF ?_
 refine sP 1 [.int .i64 0] ?_
 refine sD [(1,pV h.size),(2,.int .i64 0)] ?_
 clear hF a; intro a hF
 refine tK ?_
 refine cB 0 ?_
 refine C.loop (fun m a h' => ∃ i : Nat,∃ M : List Pl,m = L.length - i ∧ (Gr (fun k => k = h.size ∨ some k = va.map (fun (x : Addr) => x.block)) h h') ∧ (h'[h.size]? = some (.cells (rc x e ho go (.slice va L.length vc)).toArray 26)) ∧ (i ≤ L.length) ∧ (M.length = L.length) ∧ (Own h' (.slice va L.length vc) 49 L.length 4 (prow M)) ∧ (Sep 0 h'.size [some (h.size),va.map (fun (x : Addr) => x.block)]) ∧ (Fr a 27 [(1,.pointer (some ⟨h.size,0,none⟩)),(2,.int .i64 ((i : Nat) : Int))])) (L.length - 0) [1,0,1,0,0] (by kernel_rfl) ⟨0,L,rfl,g0,m3,(by omega),rfl,own_c,sep,hF⟩ ?_
 clear hF a
 clear g0
 clear m3
 clear own_c
 clear sep
 rintro m a h6 ⟨i,M,rfl,g0,m3,hi,hM,own_c,sep,hF⟩
 refine cS ?_
 refine cS ?_
 refine cP 2 hF ?_
 refine sP 2 [nV i,.pointer (some ⟨h.size,38,none⟩)] ?_
 refine sC 3 (.slice va L.length vc) (Calm.load (T := 24) (p := ⟨h.size,38,none⟩) (by kernel_rfl) (Loads.one (k := 1) (by kernel_rfl) ((hcell_blk m3).trans (rfl)))) ?_
 refine sP 5 [nV L.length,.bool (decide (((i : Nat) : Int) < ((L.length : Nat) : Int)))] ?_
 refine sD [(1,pV h.size),(2,nV i),(8,.bool (decide (((i : Nat) : Int) < ((L.length : Nat) : Int))))] ?_
 clear hF a; intro a hF
 refine tK ?_
 refine cC 8 (decide (((i : Nat) : Int) < ((L.length : Nat) : Int))) hF (fun hc7 => ?_) (fun hc7 => ?_)
 ·skip
  replace hc7 := of_decide_eq_true hc7
  obtain ⟨aa,rfl,hcap_aa⟩ := own_c.someA (by omega)
  refine cN ?_
  refine tK ?_
  refine cS ?_
  refine cB 1 ?_
  refine cP 4 hF ?_
  refine sP 1 [.pointer (some ⟨h.size,38,none⟩)] ?_
  refine sC 2 (.slice (some aa) L.length vc) (Calm.load (T := 24) (p := ⟨h.size,38,none⟩) (by kernel_rfl) (Loads.one (k := 1) (by kernel_rfl) ((hcell_blk m3).trans (rfl)))) ?_
  refine sP 4 [nV i,.agg #[.int .i64 99,.int .i64 0,.int .i64 0,.bool false]] ?_
  refine sC 5 (.pointer (some (Addr.add aa (i * 4)))) ((Calm.indexA (a := aa) (len := L.length) (sz := 4) (k := ((i : Nat) : Int)) i (i * 4) (by kernel_rfl) rfl (by omega) (by omega)) _) ?_
  refine SeqK.eff (k' := 6) (Does.storeOwn (a := aa) (q := i * 4) (vs := pcs (⟨99,0,0,false⟩ : Pl)) (by kernel_rfl) own_c (by show _ + 4 ≤ _; omega) (pcs_one _)) rfl ?_
  rintro _ h8 ⟨rfl,ownx,g⟩
  replace g0 := g0.grew g (alw hop_c)
  replace m3 := Grew.blk g m3 ((sep.bp 0 1))
  replace sep := sep.up g.size
  rw [fm_set pcs_len (by rw [hM]; omega)] at ownx
  clear own_c; have own_c := ownx; clear ownx g
  refine sD [(1,pV h.size),(2,nV i)] ?_
  clear hF a; intro a hF
  show C Try.prog (sub b15 [1,0,1,0,0,1,1]) _ a h8
  refine cP 3 hF ?_
  refine sP 1 [nV i] ?_
  refine s1 2 (.int .i64 ((i + 1 : Nat) : Int)) (.int .i64 (IntKind.i64.wrap (((i : Nat) : Int) + 1))) (congrArg (Value.int .i64) (w64' (by omega) (by omega) (by omega))) ?_
  refine sP 3 [nV (i + 1)] ?_
  refine sD [(1,pV h.size),(2,nV (i + 1))] ?_
  clear hF a; intro a hF
  show ∃ m',m' < _ ∧ _
  refine ⟨_,?_,(i + 1),(M.set i (⟨99,0,0,false⟩ : Pl)),rfl,g0,m3,(by omega),(by rw [List.length_set]; exact hM),own_c,sep,hF⟩
  omega
 ·skip
  replace hc7 := of_decide_eq_false hc7
  refine cX 0 ?_
  show C Try.prog (sub b15 [1,1]) _ a h6
  refine cS ?_
  refine cP 5 hF ?_
  refine sP 1 [.pointer (some ⟨h.size,38,none⟩)] ?_
  refine sC 2 (.slice va L.length vc) (Calm.load (T := 24) (p := ⟨h.size,38,none⟩) (by kernel_rfl) (Loads.one (k := 1) (by kernel_rfl) ((hcell_blk m3).trans (rfl)))) ?_
  refine sP 3 [.agg #[.int .i64 98,.int .i64 0,.int .i64 0,.bool false]] ?_
  refine SeqK.eff (k' := 4) (Does.new (v := .slice (some ⟨h6.size,0,none⟩) 1 1) (o := .cells #[.int .i64 98,.int .i64 0,.int .i64 0,.bool false] 49) (by kernel_rfl)) rfl ?_
  rintro _ h9 ⟨rfl,hh⟩
  have g10 : Ext h6 h9 := push_ext hh
  have m11 : h9[h6.size]? = some (.cells #[.int .i64 98,.int .i64 0,.int .i64 0,.bool false] 49) := push_at hh
  clear hh
  have lt12 := blk_lt m11
  have zs13 := g0.1
  have hlo : ∀ {n : Nat},0 ≤ n := fun {n} => Nat.zero_le n
  have sepo := sep
  replace g0 := g0.ext g10
  replace own_c := own_c.ext g10
  replace m3 := Ext.blk g10 m3
  replace sep := sep.up g10.size
  replace sep := sepo.new hlo (blk_lt m11)
  clear sepo hlo
  refine SeqK.eff (k' := 5) (Does.append2 (t := 24) (E := 49) (sz := 4) (by_ := 32) (n := L.length) (m := 1) (v := .slice va L.length vc) (x := .slice (some ⟨h6.size,0,none⟩) 1 1) (xs := (prow M)) (ys := (prow ([(⟨98,0,0,false⟩ : Pl)]))) (by kernel_rfl) (by kernel_rfl) own_c (Row.blk (n := 1) (sz := 4) (l := prow [(⟨98,0,0,false⟩ : Pl)]) m11 rfl) (prow_one _) (by unfold maxLen; omega) (by omega)) rfl ?_
  rintro _ h16 ⟨ad14,cap15,rfl,ownx,g,hb⟩
  rw [blkOf_slice] at g hb
  have hlo : ∀ {n : Nat},0 ≤ n := fun {n} => Nat.zero_le n
  have sepo := sep
  have hop_n := grown hop_c hb g0.1
  replace g0 := g0.grew g (alw hop_c)
  replace m3 := Grew.blk g m3 ((sep.bp 1 2))
  replace m11 := Grew.blk g m11 ((sep.bp 0 2))
  replace sep := sep.up g.size
  replace sep : Sep 0 h16.size [some (h6.size),some (h.size),ad14.map (·.block)] := sepo.set g.size hlo 2 (y := ad14.map (fun (x : Addr) => x.block)) rfl (hb.imp id fun e => .inr ⟨_,e,Nat.le_refl _⟩) (fun k e => ownx.lt (by rw [blkOf_slice]; exact e))
  replace own_c : Own h16 (.slice ad14 (L.length + 1) cap15) 49 (L.length + 1) 4 (prow (M ++ [(⟨98,0,0,false⟩ : Pl)])) := Own.appG ownx (by first | rfl | exact List.flatMap_append.symm | simp [prow]) (by first | rfl | (simp; done) | (simp; omega))
  replace hop_c := hop_n; clear hop_n
  clear ownx g hb hlo sepo
  refine sP 6 [.slice ad14 (L.length + 1) cap15] ?_
  refine sD [(1,pV h.size),(3,.slice ad14 (L.length + 1) cap15)] ?_
  clear hF a; intro a hF
  have hcan : (L.length + 1 : Nat) = (L.length + 1) := by first | (simp; done) | (simp; omega)
  rw [hcan] at hF; clear hcan
  obtain ⟨ab,rfl,hcab⟩ := own_c.someA (by omega)
  refine tK ?_
  refine cP 6 hF ?_
  refine sP 2 [.slice (some ab) (L.length + 1) cap15,.pointer (some ⟨h.size,38,none⟩)] ?_
  refine sC 3 (.slice va L.length vc) (Calm.load (T := 24) (p := ⟨h.size,38,none⟩) (by kernel_rfl) (Loads.one (k := 1) (by kernel_rfl) ((hcell_blk m3).trans (rfl)))) ?_
  refine sP 4 [nV L.length] ?_
  refine sC 5 (.pointer (some (Addr.add ab (L.length * 4)))) ((Calm.indexA (a := ab) (len := (L.length + 1)) (sz := 4) (k := ((L.length : Nat) : Int)) L.length (L.length * 4) (by kernel_rfl) rfl (by omega) (by omega)) _) ?_
  refine s1 6 (.pointer (some (Addr.add ab ((L.length * 4) + 1)))) (.pointer (some ((Addr.add ab (L.length * 4)).add 1))) (by rw [add_add]) ?_
  refine SeqK.eff (k' := 7) (Does.storeOwn (a := ab) (q := (L.length * 4) + 1) (vs := [.int .i64 97]) (by kernel_rfl) own_c (by show _ + 1 ≤ _; omega) (List.all_eq_true.1 (by rfl))) rfl ?_
  rintro _ h17 ⟨rfl,ownx,g⟩
  replace g0 := g0.grew g (alw hop_c)
  refine sD [] ?_
  clear hF a; intro a hF
  show retK Try.prog Try.f15 (fun _ h' => Grew (va.map (fun (x : Addr) => x.block)) h h') .normal a h17
  refine ret_okN [] [] (.tuple #[]) rfl hF trivial rfl ?_
  exact g0.toOpt (Nat.le_refl _)
end Go.Proofs.Ytlghdimpgfhmcaa
