/- The walks and the plain laws, part 4: MdlD, RetF, RetS, RetM, RetN, RetG, MdlE, MdlF. Conditions: those that each theorem names. -/
import Derived.Test.YtegkejcglfgpmaaDoorPb3
section
namespace Go.Proofs.YtegkejcglfgpmaaDoor
open Go Go.Lane Go.Sha
theorem root_r (h : Heap) (b : List UInt8) (va : Option Addr) (vc : Nat) (hr : Row h (.slice va b.length vc) b.length 1 (b.map bv)) (hbl : b.length ≤ 1099511627000) (kt : Ktab h) : Sat Tryd.prog 25 #[.slice va b.length vc] h fun v h' => v = .agg ((hl (rbh (rootB b))).map bv).toArray ∧ Ext h h' := by
 rw [hl_rbh (rootB_len b)]; exact root7_sat h b va vc hr hbl kt
theorem entry_r (h : Heap) (s : ByteArray) (n : Nat) (l : List UInt8) (y : RB) (hy : hl y = l) (hs : nameOk s = true) (hn : n ≤ 512) : Sat Tryd.prog 27 #[.string s,.int .i64 ((n : Nat) : Int),.agg ((hl y).map bv).toArray] h fun v h' => ∃ ad cap,v = .tuple #[.slice ad (entB s n l).length cap,.int .i64 0] ∧ Own h' (.slice ad (entB s n l).length cap) 5 (entB s n l).length 1 ((entB s n l).map bv) ∧ (∀ k,ad.map (fun (x : Addr) => x.block) = some k → h.size ≤ k) ∧ Ext h h' := by
 subst hy; exact entry_sat h s n (hl y) hs hn rfl
noncomputable def b15 : Code := Tryd.f15.body.getD .skip
theorem rowclip {h : Heap} {a : Option Addr} {n c sz : Nat} {xs : List Value} (r : Row h (.slice a n c) n sz xs) : Row h (.slice a n n) n sz xs := by
 refine ⟨r.1,?_⟩
 rcases r.2 with ⟨e,h0⟩ | ⟨x,cap,e,_,hx⟩
 ·cases e; exact .inl ⟨rfl,rfl⟩
 ·cases e; exact .inr ⟨x,n,rfl,Nat.le_refl _,hx⟩
theorem _root_.Go.Lane.Row.caple' {h : Heap} {a : Option Addr} {n c sz : Nat} {xs : List Value} (r : Row h (.slice a n c) n sz xs) : n ≤ c := by
 rcases r.2 with ⟨e,h0⟩ | ⟨x,cap,e,hc,hx⟩
 ·cases e; exact Nat.le_refl _
 ·cases e; exact hc
set_option maxHeartbeats 1000000 in
theorem put_sat (h : Heap) (mb mp : Nat) (M : Md) (L : List Ent) (ck : Nat) (ea : Option Addr) (ec : Nat) (es : List Value) (md : ModA h mb mp M L ck ea ec es) (s : ByteArray) (hsz : s.size ≤ 9223372036854775807) (b : List UInt8) (va : Option Addr) (vc : Nat) (hr : Row h (.slice va b.length vc) b.length 1 (b.map bv)) (kt : Ktab h) (hE : M.E.length ≤ 1099511627) : Sat Tryd.prog 15 #[.pointer (some ⟨mb,0,none⟩),.string s,.slice va b.length vc] h fun v h' => v = .int .i64 (putM M s b).2 ∧ Mod h' mb mp (putM M s b).1 ∧ MG mb mp h h' := by
 have hm := md.hm
 have hp := md.hp
 have e0 := Ext.refl h
 have h0s := kt.lt
 have sep : Sep h.size h.size [] := Sep.nil _ _
 refine sat_in Tryd.func15 76 fun a hF => ?_
 refine qP [] hF fun a hF => ?_
 refine cS ?_
 rcases md.find s with ⟨hf,hno⟩ | ⟨A,x,B,o,rfl,hs,hf,hid,hdl,ca,cc,ba,bc,hv,r1,r2⟩
 ·skip
  refine rS hF ?_
  refine tC 3 (.map (some mp)) (Calm.load (T := 54) (p := ⟨mb,0,none⟩) (by kernel_rfl) (Loads.one (k := 1) (by kernel_rfl) ((hcell_blk (e0.blk hm)).trans rfl))) ?_
  refine tC 5 (.tuple #[.agg (obx rb0 (0 : Int) false false (.slice none 0 0) (.slice none 0 0)).toArray,.bool false]) (lookNo (t := 54) 9 68 (by kernel_rfl) (by kernel_rfl) (by kernel_rfl) (.agg (obx rb0 (0 : Int) false false (.slice none 0 0) (.slice none 0 0)).toArray) (by kernel_rfl) (e0.blk hp) hno) ?_
  refine tN 9 (pV h.size) ((obx rb0 (0 : Int) false false (.slice none 0 0) (.slice none 0 0)).toArray) 68 fun h1 g2 m3 => ?_
  have lt4 := blk_lt m3
  have zs5 := e0.size
  have hlo := e0.size
  have sepo := sep
  replace e0 := e0.ext g2
  replace kt := kt.ext g2
  replace sep := sep.up g2.size
  replace sep := sepo.new hlo (blk_lt m3)
  clear sepo hlo
  refine tW 10 0 (obx rb0 (0 : Int) false false (.slice none 0 0) (.slice none 0 0)) (obx rb0 (0 : Int) false false (.slice none 0 0) (.slice none 0 0)) (obx rb0 (0 : Int) false false (.slice none 0 0) (.slice none 0 0)) m3 (fun h6 g7 m3' => ?_)
  replace e0 := e0.grew g7 (sep.low 0 rfl)
  replace kt := kt.grew g7 (sep.zero 0 rfl h0s)
  replace sep := sep.up g7.size
  clear m3; have m3 := m3'; clear m3'
  refine sE [(8,.bool false)] fun a hF => ?_
  refine tK ?_
  refine cS ?_
  refine cB 0 ?_
  refine cS ?_
  rcases Bool.eq_false_or_eq_true (nameOk s) with hok | hok
  ·skip
   refine rS hF ?_
   refine tC 1 (.bool true) (Does.call (f := 24) (args := #[.string s]) (by kernel_rfl) (name_yes _ s hok)) ?_
   refine sE [(21,.bool false)] fun a hF => ?_
   refine tK ?_
   refine cF 21 hF ?_
   refine cS ?_
   rcases Nat.lt_or_ge 512 b.length with hlo5 | hlo5
   ·skip
    refine rS hF ?_
    refine t1 2 (.bool true) (.bool (decide ((512 : Int) < ((b.length : Nat) : Int)))) (congrArg Value.bool (decide_eq_true (by omega))) ?_
    refine sE [(25,.bool true)] fun a hF => ?_
    refine tK ?_
    refine cT 25 hF ?_
    refine qP [(6,.int .i64 5)] hF fun a hF => ?_
    refine cR (yB (yT ?_))
    refine rT 6 (.int .i64 5) hF ?_
    rw [putM_long hok hlo5]; exact ⟨rfl,⟨_,_,_,_,_,md.ext e0⟩,MG.ofExt e0⟩
   ·skip
    refine rS hF ?_
    refine t1 2 (.bool false) (.bool (decide ((512 : Int) < ((b.length : Nat) : Int)))) (congrArg Value.bool (decide_eq_false (by omega))) ?_
    refine sE [(25,.bool false)] fun a hF => ?_
    refine tK ?_
    refine cF 25 hF ?_
    refine qP [(29,.bool false)] hF fun a hF => ?_
    refine cF 29 hF ?_
    refine cN ?_
    refine bK ?_
    refine tK ?_
    refine cS ?_
    refine C.mono (K := fun e a hJ => ∃ (bk8 : Nat),∃ (ad9 : Option Addr) (cap10 : Nat),e = .normal ∧ (Ext h hJ) ∧ (Ktab hJ) ∧ (Own hJ (.slice ad9 b.length cap10) 5 b.length 1 (b.map bv)) ∧ (hJ[h.size]? = some (.cells (obx rb0 (0 : Int) false false (.slice none 0 0) (.slice none 0 0)).toArray 68)) ∧ (hJ[bk8]? = some (.cells (obx (rbo s ((b.length : Nat) : Int) (rootB b) ((M.E.length : Nat) : Int)) (0 : Int) false false (.slice none 0 0) (.slice ad9 b.length cap10)).toArray 68)) ∧ (Sep h.size hJ.size [some bk8,ad9.map (·.block),some (h.size)]) ∧ Fr a 76 [(0,.pointer (some ⟨mb,0,none⟩)),(1,.string s),(9,.pointer (some ⟨bk8,0,none⟩))]) ?_ ?_
    ·skip
     refine cD [0,0,2,0,8,0,32,96,224,480,1023,0,2072,8191,0,32767] 8 mixed hF ?_
     refine mP 239 [0,1,2,3,5,6,7] [.string s,.slice va b.length vc,nV b.length,.slice va b.length vc,pV mb,pV mb,.pointer (some ⟨mb,1,none⟩)] ?_
     refine mL 495 256 8 (.slice ea M.E.length ec) (Calm.load (T := 55) (p := ⟨mb,1,none⟩) (by kernel_rfl) (Loads.one (k := 1) (by kernel_rfl) ((hcell_blk (e0.blk hm)).trans rfl))) ?_
     refine mP 3055 [9,11] [nV M.E.length,.slice va b.length vc] ?_
     refine SimK.effs (is := [4,14]) (by kernel_rfl) (by simp) ?_
     intro q hq
     simp only [List.mem_cons,List.not_mem_nil,or_false] at hq
     rcases hq with rfl | rfl
     ·skip
      refine SimK.effAt (i := 4) (D' := 3071) (X' := 24) (by kernel_rfl) (by kernel_rfl) [8] (by kernel_rfl) (Does.call (f := 25) (args := #[.slice va b.length vc]) (by kernel_rfl) (root_r _ b _ _ (hr.ext e0) (by omega) kt)) ?_
      rintro _ h10 ⟨rfl,g⟩
      replace e0 := e0.ext g
      replace kt := kt.ext g
      replace m3 := Ext.blk g m3
      replace sep := sep.up g.size
      refine ⟨?_,?_⟩
      ·intro j hj
       simp only [List.mem_cons,List.not_mem_nil,or_false] at hj
       subst hj
       exact goodOf (Calm.load (T := 55) (p := ⟨mb,1,none⟩) (by kernel_rfl) (Loads.one (k := 1) (by kernel_rfl) ((hcell_blk (e0.blk hm)).trans rfl)))
      clear g
      refine mP 4095 [10] [.agg (rc (rbo s ((b.length : Nat) : Int) (rootB b) ((M.E.length : Nat) : Int)) (0 : Int) false false (.slice none 0 0)).toArray] ?_
      refine SimK.effs (is := [12,14]) (by kernel_rfl) (by simp) ?_
      intro q hq
      simp only [List.mem_cons,List.not_mem_nil,or_false] at hq
      rcases hq with rfl | rfl
      ·skip
       refine SimK.effAt (i := 12) (D' := 8191) (X' := 6168) (by kernel_rfl) (by kernel_rfl) [8] (by kernel_rfl) (Does.call (f := 26) (args := #[.slice va b.length vc]) (by kernel_rfl) (cloneb_sat _ b b.length _ _ (hr.ext e0) (by omega))) ?_
       rintro _ h13 ⟨ad11,cap12,rfl,ownx,hge,g⟩
       have hlo := e0.size
       have sepo := sep
       replace e0 := e0.ext g
       replace kt := kt.ext g
       replace m3 := Ext.blk g m3
       replace sep := sep.up g.size
       replace sep := sepo.cons (x := ad11.map (fun (x : Addr) => x.block)) g.size hlo (fun k e => ⟨hge k e,ownx.lt (by rw [blkOf_slice]; exact e)⟩)
       have own_v : Own h13 (.slice ad11 b.length cap12) 5 b.length 1 (b.map bv) := ownx; clear ownx sepo hlo hge g
       refine ⟨?_,?_⟩
       ·intro j hj
        simp only [List.mem_cons,List.not_mem_nil,or_false] at hj
        subst hj
        exact goodOf (Calm.load (T := 55) (p := ⟨mb,1,none⟩) (by kernel_rfl) (Loads.one (k := 1) (by kernel_rfl) ((hcell_blk (e0.blk hm)).trans rfl)))
       refine mP 16383 [13] [.agg (obx (rbo s ((b.length : Nat) : Int) (rootB b) ((M.E.length : Nat) : Int)) (0 : Int) false false (.slice none 0 0) (.slice ad11 b.length cap12)).toArray] ?_
       refine SimK.eff (i := 14) (D' := 32767) (X' := 22552) (by kernel_rfl) (by kernel_rfl) (by kernel_rfl) [8] (by kernel_rfl) (Does.new (v := .pointer (some ⟨h13.size,0,none⟩)) (o := .cells (obx rb0 (0 : Int) false false (.slice none 0 0) (.slice none 0 0)).toArray 68) (by kernel_rfl)) ?_
       rintro _ h14 ⟨rfl,hh⟩
       have g15 : Ext h13 h14 := push_ext hh
       have m16 : h14[h13.size]? = some (.cells (obx rb0 (0 : Int) false false (.slice none 0 0) (.slice none 0 0)).toArray 68) := push_at hh
       clear hh
       have lt17 := blk_lt m16
       have zs18 := e0.size
       have hlo := e0.size
       have sepo := sep
       replace e0 := e0.ext g15
       replace kt := kt.ext g15
       replace own_v := own_v.ext g15
       replace m3 := Ext.blk g15 m3
       replace sep := sep.up g15.size
       replace sep := sepo.new hlo (blk_lt m16)
       clear sepo hlo
       refine ⟨?_,?_⟩
       ·intro j hj
        simp only [List.mem_cons,List.not_mem_nil,or_false] at hj
        subst hj
        exact goodOf (Calm.load (T := 55) (p := ⟨mb,1,none⟩) (by kernel_rfl) (Loads.one (k := 1) (by kernel_rfl) ((hcell_blk (e0.blk hm)).trans rfl)))
       refine SimK.eff0 (i := 15) (D' := 65535) (X' := 65535) (by kernel_rfl) (by kernel_rfl) (by kernel_rfl) (by kernel_rfl) (Does.store (b := h13.size) (off := 0) (vs := obx (rbo s ((b.length : Nat) : Int) (rootB b) ((M.E.length : Nat) : Int)) (0 : Int) false false (.slice none 0 0) (.slice ad11 b.length cap12)) (l := obx rb0 (0 : Int) false false (.slice none 0 0) (.slice none 0 0)) (by kernel_rfl) m16 (of_decide_eq_true (by kernel_rfl)) (List.all_eq_true.1 (by kernel_rfl))) ?_
       rintro _ h19 ⟨rfl,hh⟩
       have g20 : Grew (some (h13.size)) h14 h19 := hput_gr hh
       replace m16 : h19[h13.size]? = some (.cells (obx (rbo s ((b.length : Nat) : Int) (rootB b) ((M.E.length : Nat) : Int)) (0 : Int) false false (.slice none 0 0) (.slice ad11 b.length cap12)).toArray 68) := hput_at (off := 0) (vs := obx (rbo s ((b.length : Nat) : Int) (rootB b) ((M.E.length : Nat) : Int)) (0 : Int) false false (.slice none 0 0) (.slice ad11 b.length cap12)) (l := (obx rb0 (0 : Int) false false (.slice none 0 0) (.slice none 0 0))) hh (by kernel_rfl) m16
       clear hh
       replace e0 := e0.grew g20 (sep.low 0 rfl)
       replace kt := kt.grew g20 (sep.zero 0 rfl h0s)
       replace own_v := own_v.kept g20 (by rw [blkOf_slice]; exact (sep.ap 1 0))
       replace m3 := Grew.blk g20 m3 ((sep.bp 2 0))
       replace sep := sep.up g20.size
       refine mE [(9,pV h13.size)] fun a hF => ?_
       have sepj := sep.pick (l' := [some h13.size,ad11.map (·.block),some (h.size)]) [0,1,2] rfl (by decide)
       exact ⟨h13.size,ad11,cap12,rfl,e0,kt,own_v,m3,m16,sepj,hF.to⟩
      ·skip
       refine SimK.effAt (i := 14) (D' := 20479) (X' := 16408) (by kernel_rfl) (by kernel_rfl) [8] (by kernel_rfl) (Does.new (v := .pointer (some ⟨h10.size,0,none⟩)) (o := .cells (obx rb0 (0 : Int) false false (.slice none 0 0) (.slice none 0 0)).toArray 68) (by kernel_rfl)) ?_
       rintro _ h21 ⟨rfl,hh⟩
       have g22 : Ext h10 h21 := push_ext hh
       have m23 : h21[h10.size]? = some (.cells (obx rb0 (0 : Int) false false (.slice none 0 0) (.slice none 0 0)).toArray 68) := push_at hh
       clear hh
       have lt24 := blk_lt m23
       have zs25 := e0.size
       have hlo := e0.size
       have sepo := sep
       replace e0 := e0.ext g22
       replace kt := kt.ext g22
       replace m3 := Ext.blk g22 m3
       replace sep := sep.up g22.size
       replace sep := sepo.new hlo (blk_lt m23)
       clear sepo hlo
       refine ⟨?_,?_⟩
       ·intro j hj
        simp only [List.mem_cons,List.not_mem_nil,or_false] at hj
        subst hj
        exact goodOf (Calm.load (T := 55) (p := ⟨mb,1,none⟩) (by kernel_rfl) (Loads.one (k := 1) (by kernel_rfl) ((hcell_blk (e0.blk hm)).trans rfl)))
       refine SimK.eff (i := 12) (D' := 24575) (X' := 22552) (by kernel_rfl) (by kernel_rfl) (by kernel_rfl) [8] (by kernel_rfl) (Does.call (f := 26) (args := #[.slice va b.length vc]) (by kernel_rfl) (cloneb_sat _ b b.length _ _ (hr.ext e0) (by omega))) ?_
       rintro _ h28 ⟨ad26,cap27,rfl,ownx,hge,g⟩
       have hlo := e0.size
       have sepo := sep
       replace e0 := e0.ext g
       replace kt := kt.ext g
       replace m3 := Ext.blk g m3
       replace m23 := Ext.blk g m23
       replace sep := sep.up g.size
       replace sep := sepo.cons (x := ad26.map (fun (x : Addr) => x.block)) g.size hlo (fun k e => ⟨hge k e,ownx.lt (by rw [blkOf_slice]; exact e)⟩)
       have own_v : Own h28 (.slice ad26 b.length cap27) 5 b.length 1 (b.map bv) := ownx; clear ownx sepo hlo hge g
       refine ⟨?_,?_⟩
       ·intro j hj
        simp only [List.mem_cons,List.not_mem_nil,or_false] at hj
        subst hj
        exact goodOf (Calm.load (T := 55) (p := ⟨mb,1,none⟩) (by kernel_rfl) (Loads.one (k := 1) (by kernel_rfl) ((hcell_blk (e0.blk hm)).trans rfl)))
       refine mP 32767 [13] [.agg (obx (rbo s ((b.length : Nat) : Int) (rootB b) ((M.E.length : Nat) : Int)) (0 : Int) false false (.slice none 0 0) (.slice ad26 b.length cap27)).toArray] ?_
       refine SimK.eff0 (i := 15) (D' := 65535) (X' := 65535) (by kernel_rfl) (by kernel_rfl) (by kernel_rfl) (by kernel_rfl) (Does.store (b := h10.size) (off := 0) (vs := obx (rbo s ((b.length : Nat) : Int) (rootB b) ((M.E.length : Nat) : Int)) (0 : Int) false false (.slice none 0 0) (.slice ad26 b.length cap27)) (l := obx rb0 (0 : Int) false false (.slice none 0 0) (.slice none 0 0)) (by kernel_rfl) m23 (of_decide_eq_true (by kernel_rfl)) (List.all_eq_true.1 (by kernel_rfl))) ?_
       rintro _ h29 ⟨rfl,hh⟩
       have g30 : Grew (some (h10.size)) h28 h29 := hput_gr hh
       replace m23 : h29[h10.size]? = some (.cells (obx (rbo s ((b.length : Nat) : Int) (rootB b) ((M.E.length : Nat) : Int)) (0 : Int) false false (.slice none 0 0) (.slice ad26 b.length cap27)).toArray 68) := hput_at (off := 0) (vs := obx (rbo s ((b.length : Nat) : Int) (rootB b) ((M.E.length : Nat) : Int)) (0 : Int) false false (.slice none 0 0) (.slice ad26 b.length cap27)) (l := (obx rb0 (0 : Int) false false (.slice none 0 0) (.slice none 0 0))) hh (by kernel_rfl) m23
       clear hh
       replace e0 := e0.grew g30 (sep.low 1 rfl)
       replace kt := kt.grew g30 (sep.zero 1 rfl h0s)
       replace own_v := own_v.kept g30 (by rw [blkOf_slice]; exact (sep.ap 0 1))
       replace m3 := Grew.blk g30 m3 ((sep.bp 2 1))
       replace sep := sep.up g30.size
       refine mE [(9,pV h10.size)] fun a hF => ?_
       have sepj := sep.pick (l' := [some h10.size,ad26.map (·.block),some (h.size)]) [1,0,2] rfl (by decide)
       exact ⟨h10.size,ad26,cap27,rfl,e0,kt,own_v,m3,m23,sepj,hF.to⟩
     ·skip
      refine SimK.effAt (i := 14) (D' := 19439) (X' := 16384) (by kernel_rfl) (by kernel_rfl) [8] (by kernel_rfl) (Does.new (v := .pointer (some ⟨h6.size,0,none⟩)) (o := .cells (obx rb0 (0 : Int) false false (.slice none 0 0) (.slice none 0 0)).toArray 68) (by kernel_rfl)) ?_
      rintro _ h31 ⟨rfl,hh⟩
      have g32 : Ext h6 h31 := push_ext hh
      have m33 : h31[h6.size]? = some (.cells (obx rb0 (0 : Int) false false (.slice none 0 0) (.slice none 0 0)).toArray 68) := push_at hh
      clear hh
      have lt34 := blk_lt m33
      have zs35 := e0.size
      have hlo := e0.size
      have sepo := sep
      replace e0 := e0.ext g32
      replace kt := kt.ext g32
      replace m3 := Ext.blk g32 m3
      replace sep := sep.up g32.size
      replace sep := sepo.new hlo (blk_lt m33)
      clear sepo hlo
      refine ⟨?_,?_⟩
      ·intro j hj
       simp only [List.mem_cons,List.not_mem_nil,or_false] at hj
       subst hj
       exact goodOf (Calm.load (T := 55) (p := ⟨mb,1,none⟩) (by kernel_rfl) (Loads.one (k := 1) (by kernel_rfl) ((hcell_blk (e0.blk hm)).trans rfl)))
      refine SimK.eff (i := 4) (D' := 19455) (X' := 16408) (by kernel_rfl) (by kernel_rfl) (by kernel_rfl) [8] (by kernel_rfl) (Does.call (f := 25) (args := #[.slice va b.length vc]) (by kernel_rfl) (root_r _ b _ _ (hr.ext e0) (by omega) kt)) ?_
      rintro _ h36 ⟨rfl,g⟩
      replace e0 := e0.ext g
      replace kt := kt.ext g
      replace m3 := Ext.blk g m3
      replace m33 := Ext.blk g m33
      replace sep := sep.up g.size
      refine ⟨?_,?_⟩
      ·intro j hj
       simp only [List.mem_cons,List.not_mem_nil,or_false] at hj
       subst hj
       exact goodOf (Calm.load (T := 55) (p := ⟨mb,1,none⟩) (by kernel_rfl) (Loads.one (k := 1) (by kernel_rfl) ((hcell_blk (e0.blk hm)).trans rfl)))
      clear g
      refine mP 20479 [10] [.agg (rc (rbo s ((b.length : Nat) : Int) (rootB b) ((M.E.length : Nat) : Int)) (0 : Int) false false (.slice none 0 0)).toArray] ?_
      refine SimK.eff (i := 12) (D' := 24575) (X' := 22552) (by kernel_rfl) (by kernel_rfl) (by kernel_rfl) [8] (by kernel_rfl) (Does.call (f := 26) (args := #[.slice va b.length vc]) (by kernel_rfl) (cloneb_sat _ b b.length _ _ (hr.ext e0) (by omega))) ?_
      rintro _ h39 ⟨ad37,cap38,rfl,ownx,hge,g⟩
      have hlo := e0.size
      have sepo := sep
      replace e0 := e0.ext g
      replace kt := kt.ext g
      replace m3 := Ext.blk g m3
      replace m33 := Ext.blk g m33
      replace sep := sep.up g.size
      replace sep := sepo.cons (x := ad37.map (fun (x : Addr) => x.block)) g.size hlo (fun k e => ⟨hge k e,ownx.lt (by rw [blkOf_slice]; exact e)⟩)
      have own_v : Own h39 (.slice ad37 b.length cap38) 5 b.length 1 (b.map bv) := ownx; clear ownx sepo hlo hge g
      refine ⟨?_,?_⟩
      ·intro j hj
       simp only [List.mem_cons,List.not_mem_nil,or_false] at hj
       subst hj
       exact goodOf (Calm.load (T := 55) (p := ⟨mb,1,none⟩) (by kernel_rfl) (Loads.one (k := 1) (by kernel_rfl) ((hcell_blk (e0.blk hm)).trans rfl)))
      refine mP 32767 [13] [.agg (obx (rbo s ((b.length : Nat) : Int) (rootB b) ((M.E.length : Nat) : Int)) (0 : Int) false false (.slice none 0 0) (.slice ad37 b.length cap38)).toArray] ?_
      refine SimK.eff0 (i := 15) (D' := 65535) (X' := 65535) (by kernel_rfl) (by kernel_rfl) (by kernel_rfl) (by kernel_rfl) (Does.store (b := h6.size) (off := 0) (vs := obx (rbo s ((b.length : Nat) : Int) (rootB b) ((M.E.length : Nat) : Int)) (0 : Int) false false (.slice none 0 0) (.slice ad37 b.length cap38)) (l := obx rb0 (0 : Int) false false (.slice none 0 0) (.slice none 0 0)) (by kernel_rfl) m33 (of_decide_eq_true (by kernel_rfl)) (List.all_eq_true.1 (by kernel_rfl))) ?_
      rintro _ h40 ⟨rfl,hh⟩
      have g41 : Grew (some (h6.size)) h39 h40 := hput_gr hh
      replace m33 : h40[h6.size]? = some (.cells (obx (rbo s ((b.length : Nat) : Int) (rootB b) ((M.E.length : Nat) : Int)) (0 : Int) false false (.slice none 0 0) (.slice ad37 b.length cap38)).toArray 68) := hput_at (off := 0) (vs := obx (rbo s ((b.length : Nat) : Int) (rootB b) ((M.E.length : Nat) : Int)) (0 : Int) false false (.slice none 0 0) (.slice ad37 b.length cap38)) (l := (obx rb0 (0 : Int) false false (.slice none 0 0) (.slice none 0 0))) hh (by kernel_rfl) m33
      clear hh
      replace e0 := e0.grew g41 (sep.low 1 rfl)
      replace kt := kt.grew g41 (sep.zero 1 rfl h0s)
      replace own_v := own_v.kept g41 (by rw [blkOf_slice]; exact (sep.ap 0 1))
      replace m3 := Grew.blk g41 m3 ((sep.bp 2 1))
      replace sep := sep.up g41.size
      refine mE [(9,pV h6.size)] fun a hF => ?_
      have sepj := sep.pick (l' := [some h6.size,ad37.map (·.block),some (h.size)]) [1,0,2] rfl (by decide)
      exact ⟨h6.size,ad37,cap38,rfl,e0,kt,own_v,m3,m33,sepj,hF.to⟩
    ·skip
     clear hF a e0 kt m3 sep
     rintro e a h42 ⟨bk8,ad9,cap10,rfl,e0,kt,own_v,m3,mk9,sep,hF⟩
     refine tK ?_
     refine qS hF ?_
     refine tC 3 (.int .i64 ((rbo s ((b.length : Nat) : Int) (rootB b) ((M.E.length : Nat) : Int)).len)) (Calm.load (T := 3) (p := ⟨bk8,1,none⟩) (by kernel_rfl) (Loads.one (k := 1) (by kernel_rfl) ((hcell_blk mk9).trans (rfl)))) ?_
     refine tC 6 (.agg ((hl (rbo s ((b.length : Nat) : Int) (rootB b) ((M.E.length : Nat) : Int))).map bv).toArray) (Calm.load (T := 33) (p := ⟨bk8,2,none⟩) (by kernel_rfl) (Loads.blk (vs := (hl (rbo s ((b.length : Nat) : Int) (rootB b) ((M.E.length : Nat) : Int))).map bv) (by kernel_rfl) mk9 rfl)) ?_
     refine tG 7 (entry_r _ s b.length (rootB b) (rbo s ((b.length : Nat) : Int) (rootB b) ((M.E.length : Nat) : Int)) (hl_rbo (rootB_len b)) hok (by omega)) ?_
     rintro _ h45 ⟨ad43,cap44,rfl,ownx,hge,g⟩
     have hlo := e0.size
     have sepo := sep
     replace e0 := e0.ext g
     replace kt := kt.ext g
     replace own_v := own_v.ext g
     replace m3 := Ext.blk g m3
     replace mk9 := Ext.blk g mk9
     replace sep := sep.up g.size
     replace sep := sepo.cons (x := ad43.map (fun (x : Addr) => x.block)) g.size hlo (fun k e => ⟨hge k e,ownx.lt (by rw [blkOf_slice]; exact e)⟩)
     have own_x : Own h45 (.slice ad43 ((entB s b.length (rootB b)).length) cap44) 5 ((entB s b.length (rootB b)).length) 1 ((entB s b.length (rootB b)).map bv) := ownx; clear ownx sepo hlo hge g
     refine sT [(10,.slice ad43 ((entB s b.length (rootB b)).length) cap44),(11,.int .i64 0)] fun a hF => ?_
     refine cS ?_
     refine qP [(57,.bool true)] hF fun a hF => ?_
     refine cT 57 hF ?_
     refine cS ?_
     refine cD [0,1,3,7,0,0,63] 11 mixed hF ?_
     refine mP 7 [0,1,2] [pV mb,pV mb,pV mb] ?_
     refine mL 15 8 3 (.map (some mp)) (Calm.load (T := 54) (p := ⟨mb,0,none⟩) (by kernel_rfl) (Loads.one (k := 1) (by kernel_rfl) ((hcell_blk (e0.blk hm)).trans rfl))) ?_
     refine mP 31 [4] [.string s] ?_
     refine mL 63 40 5 (.agg (obx (rbo s ((b.length : Nat) : Int) (rootB b) ((M.E.length : Nat) : Int)) (0 : Int) false false (.slice none 0 0) (.slice ad9 b.length cap10)).toArray) (Calm.load (T := 68) (p := ⟨bk8,0,none⟩) (by kernel_rfl) (Loads.blk (vs := obx (rbo s ((b.length : Nat) : Int) (rootB b) ((M.E.length : Nat) : Int)) (0 : Int) false false (.slice none 0 0) (.slice ad9 b.length cap10)) (by kernel_rfl) mk9 rfl)) ?_
     have hpo := e0.blk hp
     have hmo := e0.blk hm
     have hbm := blk_lt hm
     have hbp := blk_lt hp
     refine SimK.eff0 (i := 6) (D' := 127) (X' := 127) (by kernel_rfl) (by kernel_rfl) (by kernel_rfl) (by kernel_rfl) (Does.mapNew (t := 54) (k := 9) (el := 68) (v := .agg (obx (rbo s ((b.length : Nat) : Int) (rootB b) ((M.E.length : Nat) : Int)) (0 : Int) false false (.slice none 0 0) (.slice ad9 b.length cap10)).toArray) (by kernel_rfl) (by kernel_rfl) (by kernel_rfl) hpo hno) ?_
     rintro _ h46 ⟨rfl,hh⟩
     have gp := hput_gr hh
     have hpn := hput_map hh hpo
     have hm2 := gp.blk hmo (fun e => md.ne (Option.some.inj e))
     have g0 : MG mb mp h h46 := (MG.ofExt e0).trans (MG.ofP gp)
     replace own_v := own_v.kept gp (by rw [blkOf_slice]; right; intro e; have := sep.low 2 rfl _ e; omega)
     replace own_x := own_x.kept gp (by rw [blkOf_slice]; right; intro e; have := sep.low 0 rfl _ e; omega)
     replace sep := sep.up gp.size
     have hlo9 := Nat.le_trans e0.size gp.size
     clear hh
     refine mE [] fun a hF => ?_
     refine tK ?_
     refine rS hF ?_
     refine tB 4 55 1 (.slice ea M.E.length ec) hm2 ?_
     refine tC 5 (.slice ea M.E.length M.E.length) (Does.call (f := 28) (args := #[.slice ea M.E.length ec]) (by kernel_rfl) (clip_sat _ M.E.length ea ec md.er.1.caple')) ?_
     have her := (md.er.ext e0).mg (MG.ofP gp) hmo hpo
     refine tN 7 (.slice (some ⟨h46.size,0,none⟩) 1 1) (#[.slice ad43 ((entB s b.length (rootB b)).length) cap44]) 23 fun h47 g48 m49 => ?_
     have lt50 := blk_lt m49
     have zs51 := g0.1
     have hlo := g0.1
     have sepo := sep
     replace own_v := own_v.ext g48
     replace own_x := own_x.ext g48
     replace g0 := g0.ext g48
     replace hpn := g48.blk hpn
     replace her := her.ext g48
     replace hm2 := Ext.blk g48 hm2
     replace sep := sep.up g48.size
     replace sep := sepo.new hlo (blk_lt m49)
     clear sepo hlo
     refine tF 8 (Does.appendClip (t := 55) (E := 23) (sz := 1) (by_ := 24) (n := M.E.length) (m := 1) (xs := es) (ys := [.slice ad43 ((entB s b.length (rootB b)).length) cap44]) (by kernel_rfl) (by kernel_rfl) (rowclip her.1) (Row.blk m49 rfl) (List.all_eq_true.1 (by rfl)) (by decide) (by unfold maxLen; omega) (by omega)) ?_
     rintro _ h54 ⟨ad52,cap53,rfl,own_n,_,g⟩
     replace own_v := own_v.ext g
     replace own_x := own_x.ext g
     replace g0 := g0.ext g
     replace hpn := g.blk hpn
     replace her := her.ext g
     replace hm2 := Ext.blk g hm2
     replace m49 := Ext.blk g m49
     replace sep := sep.up g.size
     clear g
     refine tW 11 1 ([.slice (some ad52) (M.E.length + 1) cap53]) ([.map (some mp),.slice ea M.E.length ec,.int .i64 M.t]) ([.map (some mp),.slice (some ad52) (M.E.length + 1) cap53,.int .i64 M.t]) hm2 (fun h55 gm hmD => ?_)
     refine sE [] fun a hF => ?_
     refine tK ?_
     refine qP [(6,.int .i64 0)] hF fun a hF => ?_
     refine cR ?_
     refine rT 6 (.int .i64 0) hF ?_
     have hel := entB_len s b.length (rootB_len b)
     have hsl := name_le hok
     have hob : ObAt h54 s (.agg (obx (rbo s ((b.length : Nat) : Int) (rootB b) ((M.E.length : Nat) : Int)) (0 : Int) false false (.slice none 0 0) (.slice ad9 b.length cap10)).toArray) (putO s b M.E.length) := ⟨rfl,hlo5,_,_,_,_,rfl,(Row.nil h 4).zero rfl,RowE.of own_v (by decide)⟩
     have hfin := md.put2 g0 hpn hm2 hno hob (RowE.of own_n (by decide)) (by omega) (RowE.of own_x (by decide)) gm hmD
     rw [putM_ok hok hlo5 hf]; exact ⟨rfl,hfin.1,hfin.2⟩
  ·skip
   refine rS hF ?_
   refine tC 1 (.bool false) (Does.call (f := 24) (args := #[.string s]) (by kernel_rfl) (name_no' _ s hsz hok)) ?_
   refine sE [(21,.bool true)] fun a hF => ?_
   refine tK ?_
   refine cT 21 hF ?_
   refine qP [(6,.int .i64 210)] hF fun a hF => ?_
   refine cR (yB (yT ?_))
   refine rT 6 (.int .i64 210) hF ?_
   rw [putM_id hok]; exact ⟨rfl,⟨_,_,_,_,_,md.ext e0⟩,MG.ofExt e0⟩
 ·skip
  refine rS hF ?_
  refine tC 3 (.map (some mp)) (Calm.load (T := 54) (p := ⟨mb,0,none⟩) (by kernel_rfl) (Loads.one (k := 1) (by kernel_rfl) ((hcell_blk (e0.blk hm)).trans rfl))) ?_
  refine tC 5 (.tuple #[.agg (obx o.b o.e o.ho o.go (.slice ca 0 cc) (.slice ba o.dt.length bc)).toArray,.bool true]) (lookYes (t := 54) 9 68 (by kernel_rfl) (by kernel_rfl) (by kernel_rfl) (.agg (obx rb0 (0 : Int) false false (.slice none 0 0) (.slice none 0 0)).toArray) (by kernel_rfl) (e0.blk hp) (List.mem_append_right _ (List.mem_cons_self ..)) hs md.nd hv) ?_
  refine tN 9 (pV h.size) ((obx rb0 (0 : Int) false false (.slice none 0 0) (.slice none 0 0)).toArray) 68 fun h56 g57 m58 => ?_
  have lt59 := blk_lt m58
  have zs60 := e0.size
  have hlo := e0.size
  have sepo := sep
  replace e0 := e0.ext g57
  replace kt := kt.ext g57
  replace sep := sep.up g57.size
  replace sep := sepo.new hlo (blk_lt m58)
  clear sepo hlo
  refine tW 10 0 (obx o.b o.e o.ho o.go (.slice ca 0 cc) (.slice ba o.dt.length bc)) (obx rb0 (0 : Int) false false (.slice none 0 0) (.slice none 0 0)) (obx o.b o.e o.ho o.go (.slice ca 0 cc) (.slice ba o.dt.length bc)) m58 (fun h61 g62 m58' => ?_)
  replace e0 := e0.grew g62 (sep.low 0 rfl)
  replace kt := kt.grew g62 (sep.zero 0 rfl h0s)
  replace sep := sep.up g62.size
  clear m58; have m58 := m58'; clear m58'
  refine sE [(8,.bool true)] fun a hF => ?_
  refine tK ?_
  refine cS ?_
  refine cB 0 ?_
  refine cS ?_
  rcases Bool.eq_false_or_eq_true (nameOk s) with hok | hok
  ·skip
   refine rS hF ?_
   refine tC 1 (.bool true) (Does.call (f := 24) (args := #[.string s]) (by kernel_rfl) (name_yes _ s hok)) ?_
   refine sE [(21,.bool false)] fun a hF => ?_
   refine tK ?_
   refine cF 21 hF ?_
   refine cS ?_
   rcases Nat.lt_or_ge 512 b.length with hlo5 | hlo5
   ·skip
    refine rS hF ?_
    refine t1 2 (.bool true) (.bool (decide ((512 : Int) < ((b.length : Nat) : Int)))) (congrArg Value.bool (decide_eq_true (by omega))) ?_
    refine sE [(25,.bool true)] fun a hF => ?_
    refine tK ?_
    refine cT 25 hF ?_
    refine qP [(6,.int .i64 5)] hF fun a hF => ?_
    refine cR (yB (yT ?_))
    refine rT 6 (.int .i64 5) hF ?_
    rw [putM_long hok hlo5]; exact ⟨rfl,⟨_,_,_,_,_,md.ext e0⟩,MG.ofExt e0⟩
   ·skip
    refine rS hF ?_
    refine t1 2 (.bool false) (.bool (decide ((512 : Int) < ((b.length : Nat) : Int)))) (congrArg Value.bool (decide_eq_false (by omega))) ?_
    refine sE [(25,.bool false)] fun a hF => ?_
    refine tK ?_
    refine cF 25 hF ?_
    refine qP [(29,.bool true)] hF fun a hF => ?_
    refine cT 29 hF ?_
    refine qP [(6,.int .i64 212)] hF fun a hF => ?_
    refine cR (yB (yT ?_))
    refine rT 6 (.int .i64 212) hF ?_
    rw [putM_twice hok hlo5 hf]; exact ⟨rfl,⟨_,_,_,_,_,md.ext e0⟩,MG.ofExt e0⟩
  ·skip
   refine rS hF ?_
   refine tC 1 (.bool false) (Does.call (f := 24) (args := #[.string s]) (by kernel_rfl) (name_no' _ s hsz hok)) ?_
   refine sE [(21,.bool true)] fun a hF => ?_
   refine tK ?_
   refine cT 21 hF ?_
   refine qP [(6,.int .i64 210)] hF fun a hF => ?_
   refine cR (yB (yT ?_))
   refine rT 6 (.int .i64 210) hF ?_
   rw [putM_id hok]; exact ⟨rfl,⟨_,_,_,_,_,md.ext e0⟩,MG.ofExt e0⟩
end Go.Proofs.YtegkejcglfgpmaaDoor
end
section
namespace Go.Proofs.YtegkejcglfgpmaaDoor
open Go Go.Lane Go.Sha
noncomputable def b75 : Code := Tryd.f75.body.getD .skip
theorem nan_sat (h : Heap) (x : Int) : Sat Tryd.prog 75 #[.int .i64 x] h fun v h' => v = .bool false ∧ h' = h := by
 refine sat_in Tryd.func75 6 fun a hF => ?_
 refine qP [] hF fun a hF => ?_
 refine qS hF ?_
 refine t1 2 (.bool false) (.bool (!(x == x))) (congrArg (fun b => Value.bool (!b)) (beq_iff_eq.2 (by omega))) ?_
 refine sT [(2,.bool false)] fun a hF => ?_
 refine cR ?_
 refine rT 2 (.bool false) hF ?_
 exact ⟨rfl,rfl⟩
noncomputable def b60 : Code := Tryd.f60.body.getD .skip
theorem compare_sat (h : Heap) (x y : Int) : Sat Tryd.prog 60 #[.int .i64 x,.int .i64 y] h fun v h' => v = .int .i64 (cmpI x y) ∧ h' = h := by
 refine sat_in Tryd.func60 20 fun a hF => ?_
 refine qP [] hF fun a hF => ?_
 refine qS hF ?_
 refine tC 1 (.bool false) (Does.call (f := 75) (args := #[.int .i64 x]) (by kernel_rfl) (nan_sat _ x)) ?_
 refine sT [(5,.bool false)] fun a hF => ?_
 refine qS hF ?_
 refine tC 1 (.bool false) (Does.call (f := 75) (args := #[.int .i64 y]) (by kernel_rfl) (nan_sat _ y)) ?_
 refine sT [(6,.bool false)] fun a hF => ?_
 refine cS ?_
 refine qP [(11,.bool false)] hF fun a hF => ?_
 refine cF 11 hF ?_
 refine cN ?_
 refine tK ?_
 refine cS ?_
 refine qP [(13,.bool false)] hF fun a hF => ?_
 refine cF 13 hF ?_
 refine cN ?_
 refine tK ?_
 refine cS ?_
 refine qP [(16,.bool (decide (x < y)))] hF fun a hF => ?_
 refine cJ 16 hF (fun hc1 => ?_) fun hc1 => ?_
 ·skip
  refine qP [(4,.int .i64 (-1))] hF fun a hF => ?_
  refine cR (yT ?_)
  refine rT 4 (.int .i64 (-1)) hF ?_
  exact ⟨congrArg (Value.int .i64) (by unfold cmpI; split <;> first | omega | (split <;> omega)),rfl⟩
 ·skip
  refine cN ?_
  refine tK ?_
  refine cS ?_
  refine qP [(19,.bool (decide (y < x)))] hF fun a hF => ?_
  refine cJ 19 hF (fun hc2 => ?_) fun hc2 => ?_
  ·skip
   refine qP [(4,.int .i64 1)] hF fun a hF => ?_
   refine cR (yT ?_)
   refine rT 4 (.int .i64 1) hF ?_
   exact ⟨congrArg (Value.int .i64) (by unfold cmpI; split <;> first | omega | (split <;> omega)),rfl⟩
  ·skip
   refine cN ?_
   refine tK ?_
   refine qP [(4,.int .i64 0)] hF fun a hF => ?_
   refine cR ?_
   refine rT 4 (.int .i64 0) hF ?_
   exact ⟨congrArg (Value.int .i64) (by unfold cmpI; split <;> first | omega | (split <;> omega)),rfl⟩
noncomputable def b63 : Code := Tryd.f63.body.getD .skip
theorem cstring_sat (h : Heap) (s t : ByteArray) : Sat Tryd.prog 63 #[.string s,.string t] h fun v h' => v = .int .i64 (Lib.compareBytes s.data.toList t.data.toList) ∧ h' = h := by
 refine sat_in Tryd.func63 8 fun a hF => ?_
 refine qP [] hF fun a hF => ?_
 refine qS hF ?_
 refine t1 2 (.int .i64 (Lib.compareBytes s.data.toList t.data.toList)) (.int .i64 (Extern.BytealgCompare.cmp s t)) (congrArg (Value.int .i64) (Lib.cmp_eq s t)) ?_
 refine sT [(4,.int .i64 (Lib.compareBytes s.data.toList t.data.toList))] fun a hF => ?_
 refine cR ?_
 refine rT 4 (.int .i64 (Lib.compareBytes s.data.toList t.data.toList)) hF ?_
 exact ⟨rfl,rfl⟩
noncomputable def b36 : Code := Tryd.f36.body.getD .skip
theorem scompare_sat (h : Heap) (s t : ByteArray) : Sat Tryd.prog 36 #[.string s,.string t] h fun v h' => v = .int .i64 (Lib.compareBytes s.data.toList t.data.toList) ∧ h' = h := by
 refine sat_in Tryd.func36 8 fun a hF => ?_
 refine qP [] hF fun a hF => ?_
 refine qS hF ?_
 refine tC 2 (.int .i64 (Lib.compareBytes s.data.toList t.data.toList)) (Does.call (f := 63) (args := #[.string s,.string t]) (by kernel_rfl) (cstring_sat _ s t)) ?_
 refine sT [(4,.int .i64 (Lib.compareBytes s.data.toList t.data.toList))] fun a hF => ?_
 refine cR ?_
 refine rT 4 (.int .i64 (Lib.compareBytes s.data.toList t.data.toList)) hF ?_
 exact ⟨rfl,rfl⟩
noncomputable def b59 : Code := Tryd.f59.body.getD .skip
theorem or_sat (h : Heap) (b : Nat) (p q : Int) (m : h[b]? = some (.cells #[.int .i64 p,.int .i64 q] 3)) : Sat Tryd.prog 59 #[.slice (some ⟨b,0,none⟩) 2 2] h fun v h' => v = .int .i64 (if p = 0 then q else p) ∧ h' = h := by
 refine sat_in Tryd.func59 18 fun a hF => ?_
 refine qP [] hF fun a hF => ?_
 refine qP [(3,.int .i64 0)] hF fun a hF => ?_
 refine cS ?_
 refine qP [(6,.slice (some ⟨b,0,none⟩) 2 2),(7,.int .i64 2),(8,.int .i64 0)] hF fun a hF => ?_
 refine cB 0 ?_
 refine cU 3 ?_
 refine Cround.step ?_
 refine qP [(9,.bool true)] hF fun a hF => ?_
 refine cS ?_
 refine cT 9 hF ?_
 refine cN ?_
 refine tK ?_
 refine cS ?_
 refine cB 1 ?_
 refine qS hF ?_
 refine tJ 0 b 0 2 1 0 0 ?_
 refine tB 1 3 0 (.int .i64 p) m ?_
 refine sT [(5,.int .i64 p)] fun a hF => ?_
 refine qP [(14,.bool (!decide (p = (0 : Int))))] hF fun a hF => ?_
 refine cI 14 hF (fun hc1 => ?_) fun hc1 => ?_
 ·skip
  refine qP [(2,.int .i64 p)] hF fun a hF => ?_
  refine cR (yB (yT (yT (yB (yT ?_)))))
  refine rT 2 (.int .i64 p) hF ?_
  exact ⟨congrArg (Value.int .i64) (by split <;> omega),rfl⟩
 ·skip
  refine cN ?_
  refine bK ?_
  refine tK ?_
  refine rP [(8,.int .i64 1)] hF fun a hF => ?_
  refine tK (Cround.step ?_)
  refine qP [(9,.bool true)] hF fun a hF => ?_
  refine cS ?_
  refine cT 9 hF ?_
  refine cN ?_
  refine tK ?_
  refine cS ?_
  refine cB 1 ?_
  refine qS hF ?_
  refine tJ 0 b 0 2 1 1 1 ?_
  refine tB 1 3 1 (.int .i64 q) m ?_
  refine sT [(5,.int .i64 q)] fun a hF => ?_
  refine qP [(14,.bool (!decide (q = (0 : Int))))] hF fun a hF => ?_
  refine cI 14 hF (fun hc2 => ?_) fun hc2 => ?_
  ·skip
   refine qP [(2,.int .i64 q)] hF fun a hF => ?_
   refine cR (yB (yT (yT (yB (yT ?_)))))
   refine rT 2 (.int .i64 q) hF ?_
   exact ⟨congrArg (Value.int .i64) (by split <;> omega),rfl⟩
  ·skip
   refine cN ?_
   refine bK ?_
   refine tK ?_
   refine rP [(8,.int .i64 2)] hF fun a hF => ?_
   refine tK (Cround.step ?_)
   refine qP [(9,.bool false)] hF fun a hF => ?_
   refine cS ?_
   refine cF 9 hF ?_
   refine cX 0 (xT (xT (xB ?_)))
   refine tK ?_
   refine qP [(2,.int .i64 0)] hF fun a hF => ?_
   refine cR ?_
   refine rT 2 (.int .i64 0) hF ?_
   exact ⟨congrArg (Value.int .i64) (by split <;> omega),rfl⟩
noncomputable def b58 : Code := Tryd.f58.body.getD .skip
theorem less_sat (h : Heap) (r s : Rec) : Sat Tryd.prog 58 #[.agg (rcs r).toArray,.agg (rcs s).toArray] h fun v h' => v = .int .i64 (cbR r s) ∧ Ext h h' := by
 have e0 := Ext.refl h
 refine sat_in Tryd.func58 17 fun a hF => ?_
 refine qS hF ?_
 refine tN 0 (pV h.size) ((rcs r).toArray) 66 fun h1 g2 m3 => ?_
 have lt4 := blk_lt m3
 have zs5 := e0.size
 replace e0 := e0.ext g2
 refine tN 1 (pV h1.size) ((rcs s).toArray) 66 fun h6 g7 m8 => ?_
 have lt9 := blk_lt m8
 have zs10 := e0.size
 replace e0 := e0.ext g7
 replace m3 := Ext.blk g7 m3
 refine sT [(2,pV h.size),(3,pV h1.size)] fun a hF => ?_
 refine cS ?_
 refine cD [0,1,0,4,15,0,32,0,128,511,1023,2047,4095] 1 mixed hF ?_
 refine mP 1 [0] [.pointer (some ⟨h.size,35,none⟩)] ?_
 refine mL 3 2 1 (.int .i64 r.e) (Calm.load (T := 3) (p := ⟨h.size,35,none⟩) (by kernel_rfl) (Loads.one (k := 1) (by kernel_rfl) ((hcell_blk m3).trans (rfl)))) ?_
 refine mP 7 [2] [.pointer (some ⟨h1.size,35,none⟩)] ?_
 refine mL 15 10 3 (.int .i64 s.e) (Calm.load (T := 3) (p := ⟨h1.size,35,none⟩) (by kernel_rfl) (Loads.one (k := 1) (by kernel_rfl) ((hcell_blk m8).trans (rfl)))) ?_
 refine mL 31 26 4 (.int .i64 (cmpI r.e s.e)) (Does.call (f := 60) (args := #[.int .i64 r.e,.int .i64 s.e]) (by kernel_rfl) (compare_sat _ r.e s.e)) ?_
 refine mP 63 [5] [pV h.size] ?_
 refine mL 127 90 6 (.string r.b.id) (Calm.load (T := 9) (p := ⟨h.size,0,none⟩) (by kernel_rfl) (Loads.one (k := 1) (by kernel_rfl) ((hcell_blk m3).trans (rfl)))) ?_
 refine mP 255 [7] [pV h1.size] ?_
 refine mL 511 346 8 (.string s.b.id) (Calm.load (T := 9) (p := ⟨h1.size,0,none⟩) (by kernel_rfl) (Loads.one (k := 1) (by kernel_rfl) ((hcell_blk m8).trans (rfl)))) ?_
 refine mL 1023 858 9 (.int .i64 (Lib.compareBytes r.b.id.data.toList s.b.id.data.toList)) (Does.call (f := 36) (args := #[.string r.b.id,.string s.b.id]) (by kernel_rfl) (scompare_sat _ r.b.id s.b.id)) ?_
 refine SimK.eff0 (i := 10) (D' := 2047) (X' := 2047) (by kernel_rfl) (by kernel_rfl) (by kernel_rfl) (by kernel_rfl) (Does.new (v := .slice (some ⟨h6.size,0,none⟩) 2 2) (o := .cells #[.int .i64 (cmpI r.e s.e),.int .i64 (Lib.compareBytes r.b.id.data.toList s.b.id.data.toList)] 3) (by kernel_rfl)) ?_
 rintro _ h11 ⟨rfl,hh⟩
 have g12 : Ext h6 h11 := push_ext hh
 have m13 : h11[h6.size]? = some (.cells #[.int .i64 (cmpI r.e s.e),.int .i64 (Lib.compareBytes r.b.id.data.toList s.b.id.data.toList)] 3) := push_at hh
 clear hh
 have lt14 := blk_lt m13
 have zs15 := e0.size
 replace e0 := e0.ext g12
 replace m3 := Ext.blk g12 m3
 replace m8 := Ext.blk g12 m8
 refine mL 4095 2906 11 (.int .i64 (if (cmpI r.e s.e) = 0 then (Lib.compareBytes r.b.id.data.toList s.b.id.data.toList) else (cmpI r.e s.e))) (Does.call (f := 59) (args := #[.slice (some ⟨h6.size,0,none⟩) 2 2]) (by kernel_rfl) (or_sat _ _ (cmpI r.e s.e) (Lib.compareBytes r.b.id.data.toList s.b.id.data.toList) m13)) ?_
 refine mP 8191 [12] [.int .i64 (if (cmpI r.e s.e) = 0 then (Lib.compareBytes r.b.id.data.toList s.b.id.data.toList) else (cmpI r.e s.e))] ?_
 refine mE [(4,.int .i64 (if (cmpI r.e s.e) = 0 then (Lib.compareBytes r.b.id.data.toList s.b.id.data.toList) else (cmpI r.e s.e)))] fun a hF => ?_
 refine tK ?_
 refine cR ?_
 refine rT 4 (.int .i64 (if (cmpI r.e s.e) = 0 then (Lib.compareBytes r.b.id.data.toList s.b.id.data.toList) else (cmpI r.e s.e))) hF ?_
 exact ⟨rfl,e0⟩
noncomputable def b91 : Code := Tryd.f91.body.getD .skip
set_option maxHeartbeats 1000000 in
theorem ins_sat (h : Heap) (ad : Option Addr) (cap n la lb : Nat) (L : List Rec) (own_d : Own h (.slice ad n cap) 66 n 39 (rrow L)) (hLn : L.length = n) (hb : lb ≤ n) (ha : la ≤ n) (hn : n ≤ 1099511627776) : Sat Tryd.prog 91 #[.slice ad n cap,.int .i64 ((la : Nat) : Int),.int .i64 ((lb : Nat) : Int),.func (.func 58) #[] #[]] h fun _ h' => ∃ M,M.length = n ∧ M.Perm L ∧ (∀ p,p < la ∨ lb ≤ p → M.getD p rec0 = L.getD p rec0) ∧ SrtOn M la lb ∧ Own h' (.slice ad n cap) 66 n 39 (rrow M) ∧ Grew (ad.map (fun (x : Addr) => x.block)) h h' := by
 have g0 := Grew.refl (ad.map (fun (x : Addr) => x.block)) h
 refine sat_in Tryd.func91 53 fun a hF => ?_
 refine qS hF ?_
 refine tA 1 la 1 ?_
 refine sT [(8,nV (la + 1))] fun a hF => ?_
 refine cB 0 ?_
 refine cL (fun m a h' => ∃ i : Nat,∃ M : List Rec,m = lb - i ∧ (Grew (ad.map (fun (x : Addr) => x.block)) h h') ∧ (la < i ∧ (i ≤ lb ∨ i = la + 1)) ∧ (M.length = n) ∧ (M.Perm L) ∧ (∀ p,p < la ∨ lb ≤ p → M.getD p rec0 = L.getD p rec0) ∧ (SrtOn M la i) ∧ (Own h' (.slice ad n cap) 66 n 39 (rrow M)) ∧ (Fr a 53 [(0,.slice ad n cap),(1,.int .i64 ((la : Nat) : Int)),(2,.int .i64 ((lb : Nat) : Int)),(3,.func (.func 58) #[] #[]),(8,.int .i64 ((i : Nat) : Int))])) (lb - (la + 1)) ⟨(la + 1),L,rfl,g0,(by omega),hLn,(List.Perm.refl _),(fun _ _ => rfl),(SrtOn.one L la),own_d,hF.to⟩ ?_
 clear hF a
 clear g0
 clear hLn
 clear own_d
 rintro m a h1 ⟨i,M,rfl,g0,hi,hM,hP,hout,hs,own_d,hF⟩
 refine cS ?_
 refine qP [(14,.bool (decide (((i : Nat) : Int) < ((lb : Nat) : Int))))] hF fun a hF => ?_
 refine cJ 14 hF (fun hc2 => ?_) fun hc2 => ?_
 ·skip
  refine cN ?_
  refine tK ?_
  refine cS ?_
  refine cB 1 ?_
  refine qP [(9,nV i)] hF fun a hF => ?_
  refine cB 2 ?_
  have hib : i < lb := by omega
  refine cL (fun m a h' => ∃ j : Nat,∃ M : List Rec,m = j + 1 ∧ (Grew (ad.map (fun (x : Addr) => x.block)) h h') ∧ (la ≤ j ∧ j ≤ i) ∧ (M.length = n) ∧ (M.Perm L) ∧ (∀ p,p < la ∨ lb ≤ p → M.getD p rec0 = L.getD p rec0) ∧ (InsI M la i j) ∧ (Own h' (.slice ad n cap) 66 n 39 (rrow M)) ∧ (Fr a 53 [(0,.slice ad n cap),(1,.int .i64 ((la : Nat) : Int)),(2,.int .i64 ((lb : Nat) : Int)),(3,.func (.func 58) #[] #[]),(8,.int .i64 ((i : Nat) : Int)),(9,.int .i64 ((j : Nat) : Int))])) (i + 1) ⟨i,M,rfl,g0,(by omega),hM,hP,hout,hs.ins,own_d,hF.to⟩ ?_
  clear hF a
  clear g0
  clear hM
  clear hP
  clear hout
  clear own_d
  rintro m a h3 ⟨j,M,rfl,g0,hj,hM,hP,hout,hins,own_d,hF⟩
  refine cS ?_
  refine cS ?_
  rcases Nat.lt_or_ge la j with haj | haj
  ·skip
   obtain ⟨aa,rfl,hcap_aa⟩ := own_d.someA (by omega)
   refine cD [0,0,3,7,15,15,15,111,239,15,15,1039,3599,7695,16383,32767,65535] 4 mixed hF ?_
   refine mP 3 [0,1] [nV j,nV la] ?_
   refine m1 7 2 (.bool true) (.bool (decide (((la : Nat) : Int) < ((j : Nat) : Int)))) (congrArg Value.bool (decide_eq_true (by omega))) ?_
   refine mP 127 [3,4,5,6] [.bool true,.func (.func 58) #[] #[],.slice (some aa) n cap,nV j] ?_
   refine mF 255 7 (.pointer (some (Addr.add aa (j * 39)))) (Calm.indexA (a := aa) (len := n) (sz := 39) (k := ((j : Nat) : Int)) j (j * 39) (by kernel_rfl) rfl (by omega) (by omega)) ?_
   refine mL 511 256 8 (.agg (rcs (M.getD j rec0)).toArray) (Calm.load (T := 66) (p := (Addr.add aa (j * 39))) (by kernel_rfl) (Row.fm (d := rec0) (i := j) rcs_len (own_d.row) (by kernel_rfl) (by omega) (by omega))) ?_
   refine mP 2047 [9,10] [.slice (some aa) n cap,nV j] ?_
   refine m1 4095 11 (.int .i64 ((j - 1 : Nat) : Int)) (.int .i64 (IntKind.i64.wrap (((j : Nat) : Int) - 1))) (congrArg (Value.int .i64) (w64' (by omega) (by omega) (by omega))) ?_
   refine mF 8191 12 (.pointer (some (Addr.add aa ((j - 1) * 39)))) (Calm.indexA (a := aa) (len := n) (sz := 39) (k := ((j - 1 : Nat) : Int)) (j - 1) ((j - 1) * 39) (by kernel_rfl) rfl (by omega) (by omega)) ?_
   refine mL 16383 8448 13 (.agg (rcs (M.getD (j - 1) rec0)).toArray) (Calm.load (T := 66) (p := (Addr.add aa ((j - 1) * 39))) (by kernel_rfl) (Row.fm (d := rec0) (i := (j - 1)) rcs_len (own_d.row) (by kernel_rfl) (by omega) (by omega))) ?_
   refine SimK.eff0 (i := 14) (D' := 32767) (X' := 32767) (by kernel_rfl) (by kernel_rfl) (by kernel_rfl) (by kernel_rfl) (Does.call (f := 58) (args := #[.agg (rcs (M.getD j rec0)).toArray,.agg (rcs (M.getD (j - 1) rec0)).toArray]) (by kernel_rfl) (less_sat _ (M.getD j rec0) (M.getD (j - 1) rec0))) ?_
   rintro _ h4 ⟨rfl,g⟩
   replace g0 := g0.trans (g.but _)
   replace own_d := own_d.ext g
   clear g
   refine mP 131071 [15,16] [.bool (decide ((cbR (M.getD j rec0) (M.getD (j - 1) rec0)) < (0 : Int))),.bool (decide ((cbR (M.getD j rec0) (M.getD (j - 1) rec0)) < (0 : Int)))] ?_
   refine mE [(34,.bool (decide ((cbR (M.getD j rec0) (M.getD (j - 1) rec0)) < (0 : Int))))] fun a hF => ?_
   refine tK ?_
   refine cJ 34 hF (fun hc5 => ?_) fun hc5 => ?_
   ·skip
    refine cN ?_
    refine tK ?_
    refine cS ?_
    refine cB 3 ?_
    refine cD [0,0,0,0,8,0,0,64,224,480,0,0,3072,7168,16355,32739,65535,131071] 6 mixed hF ?_
    refine mP 15 [0,1,2,3] [.slice (some aa) n cap,nV j,.slice (some aa) n cap,nV j] ?_
    refine m1 31 4 (.int .i64 ((j - 1 : Nat) : Int)) (.int .i64 (IntKind.i64.wrap (((j : Nat) : Int) - 1))) (congrArg (Value.int .i64) (w64' (by omega) (by omega) (by omega))) ?_
    refine mP 127 [5,6] [.slice (some aa) n cap,nV j] ?_
    refine m1 255 7 (.int .i64 ((j - 1 : Nat) : Int)) (.int .i64 (IntKind.i64.wrap (((j : Nat) : Int) - 1))) (congrArg (Value.int .i64) (w64' (by omega) (by omega) (by omega))) ?_
    refine mF 511 8 (.pointer (some (Addr.add aa ((j - 1) * 39)))) (Calm.indexA (a := aa) (len := n) (sz := 39) (k := ((j - 1 : Nat) : Int)) (j - 1) ((j - 1) * 39) (by kernel_rfl) rfl (by omega) (by omega)) ?_
    refine mL 1023 512 9 (.agg (rcs (M.getD (j - 1) rec0)).toArray) (Calm.load (T := 66) (p := (Addr.add aa ((j - 1) * 39))) (by kernel_rfl) (Row.fm (d := rec0) (i := (j - 1)) rcs_len (own_d.row) (by kernel_rfl) (by omega) (by omega))) ?_
    refine mP 4095 [10,11] [.slice (some aa) n cap,nV j] ?_
    refine mF 8191 12 (.pointer (some (Addr.add aa (j * 39)))) (Calm.indexA (a := aa) (len := n) (sz := 39) (k := ((j : Nat) : Int)) j (j * 39) (by kernel_rfl) rfl (by omega) (by omega)) ?_
    refine mL 16383 8704 13 (.agg (rcs (M.getD j rec0)).toArray) (Calm.load (T := 66) (p := (Addr.add aa (j * 39))) (by kernel_rfl) (Row.fm (d := rec0) (i := j) rcs_len (own_d.row) (by kernel_rfl) (by omega) (by omega))) ?_
    refine mF 32767 14 (.pointer (some (Addr.add aa (j * 39)))) (Calm.indexA (a := aa) (len := n) (sz := 39) (k := ((j : Nat) : Int)) j (j * 39) (by kernel_rfl) rfl (by omega) (by omega)) ?_
    refine SimK.eff0 (i := 15) (D' := 65535) (X' := 65507) (by kernel_rfl) (by kernel_rfl) (by kernel_rfl) (by kernel_rfl) (Does.storeOwn (a := aa) (q := j * 39) (vs := rcs (M.getD (j - 1) rec0)) (by kernel_rfl) own_d (by show _ + 39 ≤ _; omega) (rcs_one _)) ?_
    rintro _ h6 ⟨rfl,ownx,g⟩
    replace g0 := g0.trans g
    rw [fm_set rcs_len (by first | omega | (rw [List.length_set]; omega))] at ownx
    clear own_d; have own_d := ownx; clear ownx g
    refine mF 131071 16 (.pointer (some (Addr.add aa ((j - 1) * 39)))) (Calm.indexA (a := aa) (len := n) (sz := 39) (k := ((j - 1 : Nat) : Int)) (j - 1) ((j - 1) * 39) (by kernel_rfl) rfl (by omega) (by omega)) ?_
    refine SimK.eff0 (i := 17) (D' := 262143) (X' := 262143) (by kernel_rfl) (by kernel_rfl) (by kernel_rfl) (by kernel_rfl) (Does.storeOwn (a := aa) (q := (j - 1) * 39) (vs := rcs (M.getD j rec0)) (by kernel_rfl) own_d (by show _ + 39 ≤ _; omega) (rcs_one _)) ?_
    rintro _ h7 ⟨rfl,ownx,g⟩
    replace g0 := g0.trans g
    rw [fm_set rcs_len (by first | omega | (rw [List.length_set]; omega))] at ownx
    clear own_d; have own_d := ownx; clear ownx g
    refine mE [] fun a hF => ?_
    refine bK ?_
    refine tK ?_
    refine rS hF ?_
    refine tU 1 j 1 ?_
    refine sE [(9,nV (j - 1))] fun a hF => ?_
    show ∃ m',m' < _ ∧ _
    refine ⟨_,?_,(j - 1),(swp M j),rfl,g0,(by omega),((swp_length M j).trans hM),((swp_perm (by omega) (by omega)).trans hP),(fun p hp => by rw [swp_get (by omega) (by omega),if_neg (by omega),if_neg (by omega)]; exact hout p hp),(hins.step (by omega) (by omega) (by omega) (by omega)),own_d,hF.to⟩
    omega
   ·skip
    have hs := hins.done (by omega) (by omega) (.inr (by omega))
    clear hins
    refine cX 2 (xT (xT (xB ?_)))
    refine bK ?_
    refine tK ?_
    refine rS hF ?_
    refine tA 1 i 1 ?_
    refine sE [(8,nV (i + 1))] fun a hF => ?_
    show ∃ m',m' < _ ∧ _
    refine ⟨_,?_,(i + 1),M,rfl,g0,(by omega),hM,hP,hout,hs,own_d,hF.to⟩
    omega
  ·skip
   have hs := hins.done (by omega) (by omega) (.inl (by omega))
   clear hins
   refine cD [0,0,3,7,15,15,15,111,239,15,15,1039,3599,7695,16383,32767,65535] 4 mixed hF ?_
   refine mP 3 [0,1] [nV j,nV la] ?_
   refine m1 7 2 (.bool false) (.bool (decide (((la : Nat) : Int) < ((j : Nat) : Int)))) (congrArg Value.bool (decide_eq_false (by omega))) ?_
   refine mP 131071 [3,4,5,6,7,8,9,10,11,12,13,14,15,16] [.bool false,undef,undef,undef,undef,undef,undef,undef,undef,undef,undef,undef,undef,.bool false] ?_
   refine mE [(34,.bool false)] fun a hF => ?_
   refine tK ?_
   refine cF 34 hF ?_
   refine cX 2 (xT (xT (xB ?_)))
   refine bK ?_
   refine tK ?_
   refine rS hF ?_
   refine tA 1 i 1 ?_
   refine sE [(8,nV (i + 1))] fun a hF => ?_
   show ∃ m',m' < _ ∧ _
   refine ⟨_,?_,(i + 1),M,rfl,g0,(by omega),hM,hP,hout,hs,own_d,hF.to⟩
   omega
 ·skip
  refine cX 0 (xT (xT (xB ?_)))
  refine n0 hF ?_
  exact ⟨M,hM,hP,hout,fun p q h1 h2 h3 => hs p q h1 h2 (by omega),own_d,g0⟩
end Go.Proofs.YtegkejcglfgpmaaDoor
end
section
namespace Go.Proofs.YtegkejcglfgpmaaDoor
open Go Go.Lane Go.Sha
noncomputable def b102 : Code := Tryd.f102.body.getD .skip
set_option maxHeartbeats 1000000 in
theorem swr_sat (h : Heap) (ad : Option Addr) (cap n la lb lc : Nat) (L : List Rec) (own_d : Own h (.slice ad n cap) 66 n 39 (rrow L)) (hLn : L.length = n) (hac : la + lc ≤ lb) (hbc : lb + lc ≤ n) (hn : n ≤ 1099511627776) : Sat Tryd.prog 102 #[.slice ad n cap,.int .i64 ((la : Nat) : Int),.int .i64 ((lb : Nat) : Int),.int .i64 ((lc : Nat) : Int),.func (.func 58) #[] #[]] h fun _ h' => ∃ M,M.length = n ∧ M.Perm L ∧ Idx M L (swx la lb lc) ∧ Own h' (.slice ad n cap) 66 n 39 (rrow M) ∧ Grew (ad.map (fun (x : Addr) => x.block)) h h' := by
 have g0 := Grew.refl (ad.map (fun (x : Addr) => x.block)) h
 refine sat_in Tryd.func102 38 fun a hF => ?_
 refine qP [(10,.int .i64 0)] hF fun a hF => ?_
 refine cB 0 ?_
 refine cL (fun m a h' => ∃ i : Nat,∃ M : List Rec,m = lc - i ∧ (Grew (ad.map (fun (x : Addr) => x.block)) h h') ∧ (i ≤ lc) ∧ (M.length = n) ∧ (M.Perm L) ∧ (Idx M L (swx la lb i)) ∧ (Own h' (.slice ad n cap) 66 n 39 (rrow M)) ∧ (Fr a 38 [(0,.slice ad n cap),(1,.int .i64 ((la : Nat) : Int)),(2,.int .i64 ((lb : Nat) : Int)),(3,.int .i64 ((lc : Nat) : Int)),(10,.int .i64 ((i : Nat) : Int))])) (lc - 0) ⟨0,L,rfl,g0,(by omega),hLn,(List.Perm.refl _),(Idx.refl _ (swx_0 la lb)),own_d,hF.to⟩ ?_
 clear hF a
 clear g0
 clear hLn
 clear own_d
 rintro m a h1 ⟨i,M,rfl,g0,hi,hM,hP,hx,own_d,hF⟩
 refine cS ?_
 refine qP [(13,.bool (decide (((i : Nat) : Int) < ((lc : Nat) : Int))))] hF fun a hF => ?_
 refine cJ 13 hF (fun hc2 => ?_) fun hc2 => ?_
 ·skip
  have hic : i < lc := by omega
  obtain ⟨aa,rfl,hcap_aa⟩ := own_d.someA (by omega)
  refine cN ?_
  refine tK ?_
  refine cS ?_
  refine cB 1 ?_
  refine cD [0,0,0,6,0,0,0,96,0,0,0,1536,3840,7936,0,0,0,98304,245760,507904,1048335,2096911,4194303,8388607] 3 mixed hF ?_
  refine mP 7 [0,1,2] [.slice (some aa) n cap,nV la,nV i] ?_
  refine m1 15 3 (.int .i64 ((la + i : Nat) : Int)) (.int .i64 (IntKind.i64.wrap (((la : Nat) : Int) + ((i : Nat) : Int)))) (congrArg (Value.int .i64) (w64' (by omega) (by omega) (by omega))) ?_
  refine mP 127 [4,5,6] [.slice (some aa) n cap,nV lb,nV i] ?_
  refine m1 255 7 (.int .i64 ((lb + i : Nat) : Int)) (.int .i64 (IntKind.i64.wrap (((lb : Nat) : Int) + ((i : Nat) : Int)))) (congrArg (Value.int .i64) (w64' (by omega) (by omega) (by omega))) ?_
  refine mP 2047 [8,9,10] [.slice (some aa) n cap,nV lb,nV i] ?_
  refine m1 4095 11 (.int .i64 ((lb + i : Nat) : Int)) (.int .i64 (IntKind.i64.wrap (((lb : Nat) : Int) + ((i : Nat) : Int)))) (congrArg (Value.int .i64) (w64' (by omega) (by omega) (by omega))) ?_
  refine mF 8191 12 (.pointer (some (Addr.add aa ((lb + i) * 39)))) (Calm.indexA (a := aa) (len := n) (sz := 39) (k := ((lb + i : Nat) : Int)) (lb + i) ((lb + i) * 39) (by kernel_rfl) rfl (by omega) (by omega)) ?_
  refine mL 16383 8192 13 (.agg (rcs (M.getD (lb + i) rec0)).toArray) (Calm.load (T := 66) (p := (Addr.add aa ((lb + i) * 39))) (by kernel_rfl) (Row.fm (d := rec0) (i := (lb + i)) rcs_len (own_d.row) (by kernel_rfl) (by omega) (by omega))) ?_
  refine mP 131071 [14,15,16] [.slice (some aa) n cap,nV la,nV i] ?_
  refine m1 262143 17 (.int .i64 ((la + i : Nat) : Int)) (.int .i64 (IntKind.i64.wrap (((la : Nat) : Int) + ((i : Nat) : Int)))) (congrArg (Value.int .i64) (w64' (by omega) (by omega) (by omega))) ?_
  refine mF 524287 18 (.pointer (some (Addr.add aa ((la + i) * 39)))) (Calm.indexA (a := aa) (len := n) (sz := 39) (k := ((la + i : Nat) : Int)) (la + i) ((la + i) * 39) (by kernel_rfl) rfl (by omega) (by omega)) ?_
  refine mL 1048575 532480 19 (.agg (rcs (M.getD (la + i) rec0)).toArray) (Calm.load (T := 66) (p := (Addr.add aa ((la + i) * 39))) (by kernel_rfl) (Row.fm (d := rec0) (i := (la + i)) rcs_len (own_d.row) (by kernel_rfl) (by omega) (by omega))) ?_
  refine mF 2097151 20 (.pointer (some (Addr.add aa ((la + i) * 39)))) (Calm.indexA (a := aa) (len := n) (sz := 39) (k := ((la + i : Nat) : Int)) (la + i) ((la + i) * 39) (by kernel_rfl) rfl (by omega) (by omega)) ?_
  refine SimK.eff0 (i := 21) (D' := 4194303) (X' := 4194063) (by kernel_rfl) (by kernel_rfl) (by kernel_rfl) (by kernel_rfl) (Does.storeOwn (a := aa) (q := (la + i) * 39) (vs := rcs (M.getD (lb + i) rec0)) (by kernel_rfl) own_d (by show _ + 39 ≤ _; omega) (rcs_one _)) ?_
  rintro _ h3 ⟨rfl,ownx,g⟩
  replace g0 := g0.trans g
  rw [fm_set rcs_len (by first | omega | (rw [List.length_set]; omega))] at ownx
  clear own_d; have own_d := ownx; clear ownx g
  refine mF 8388607 22 (.pointer (some (Addr.add aa ((lb + i) * 39)))) (Calm.indexA (a := aa) (len := n) (sz := 39) (k := ((lb + i : Nat) : Int)) (lb + i) ((lb + i) * 39) (by kernel_rfl) rfl (by omega) (by omega)) ?_
  refine SimK.eff0 (i := 23) (D' := 16777215) (X' := 16777215) (by kernel_rfl) (by kernel_rfl) (by kernel_rfl) (by kernel_rfl) (Does.storeOwn (a := aa) (q := (lb + i) * 39) (vs := rcs (M.getD (la + i) rec0)) (by kernel_rfl) own_d (by show _ + 39 ≤ _; omega) (rcs_one _)) ?_
  rintro _ h4 ⟨rfl,ownx,g⟩
  replace g0 := g0.trans g
  rw [fm_set rcs_len (by first | omega | (rw [List.length_set]; omega))] at ownx
  clear own_d; have own_d := ownx; clear ownx g
  refine mE [] fun a hF => ?_
  refine bK ?_
  refine tK ?_
  refine rS hF ?_
  refine tA 1 i 1 ?_
  refine sE [(10,nV (i + 1))] fun a hF => ?_
  show ∃ m',m' < _ ∧ _
  refine ⟨_,?_,(i + 1),(swp2 M (la + i) (lb + i)),rfl,g0,(by omega),((swp2_length M _ _).trans hM),((swp2_perm (by omega) (by omega)).trans hP),(hx.swp (by omega) (by omega) (swx_next (by omega))),own_d,hF.to⟩
  omega
 ·skip
  refine cX 0 (xT (xT (xB ?_)))
  refine n0 hF ?_
  obtain rfl : lc = i := by omega
  exact ⟨M,hM,hP,hx,own_d,g0⟩
noncomputable def b100 : Code := Tryd.f100.body.getD .skip
theorem rot_sat (h : Heap) (ad : Option Addr) (cap n la lm lb : Nat) (L : List Rec) (own_d : Own h (.slice ad n cap) 66 n 39 (rrow L)) (hLn : L.length = n) (ham : la < lm) (hmb : lm < lb) (hbn : lb ≤ n) (hn : n ≤ 1099511627776) : Sat Tryd.prog 100 #[.slice ad n cap,.int .i64 ((la : Nat) : Int),.int .i64 ((lm : Nat) : Int),.int .i64 ((lb : Nat) : Int),.func (.func 58) #[] #[]] h fun _ h' => ∃ M,M.length = n ∧ M.Perm L ∧ Idx M L (rtx lm (lm - la) (lb - lm)) ∧ Own h' (.slice ad n cap) 66 n 39 (rrow M) ∧ Grew (ad.map (fun (x : Addr) => x.block)) h h' := by
 have g0 := Grew.refl (ad.map (fun (x : Addr) => x.block)) h
 refine sat_in Tryd.func100 58 fun a hF => ?_
 refine qS hF ?_
 refine tU 2 lm la ?_
 refine sT [(10,nV (lm - la))] fun a hF => ?_
 refine qS hF ?_
 refine tU 2 lb lm ?_
 refine sT [(11,nV (lb - lm))] fun a hF => ?_
 refine cS ?_
 refine cB 0 ?_
 refine cL (fun m a h' => ∃ i : Nat,∃ j : Nat,∃ M : List Rec,m = i + j ∧ (Grew (ad.map (fun (x : Addr) => x.block)) h h') ∧ (0 < i ∧ 0 < j ∧ i ≤ lm ∧ lm + j ≤ lb) ∧ (M.length = n) ∧ (M.Perm L) ∧ (RotI L M lm la lb i j) ∧ (Own h' (.slice ad n cap) 66 n 39 (rrow M)) ∧ (Fr a 58 [(0,.slice ad n cap),(2,.int .i64 ((lm : Nat) : Int)),(4,.func (.func 58) #[] #[]),(10,.int .i64 ((i : Nat) : Int)),(11,.int .i64 ((j : Nat) : Int))])) ((lm - la) + (lb - lm)) ⟨(lm - la),(lb - lm),L,rfl,g0,(by omega),hLn,(List.Perm.refl _),(RotI.start _ _ _ _),own_d,hF.to⟩ ?_
 clear hF a
 clear g0
 clear hLn
 clear own_d
 rintro m a h1 ⟨i,j,M,rfl,g0,hij,hM,hP,hr,own_d,hF⟩
 refine cS ?_
 refine qP [(20,.bool (!decide (((i : Nat) : Int) = ((j : Nat) : Int))))] hF fun a hF => ?_
 refine cI 20 hF (fun hc2 => ?_) fun hc2 => ?_
 ·skip
  refine cN ?_
  refine tK ?_
  refine cB 1 ?_
  refine qP [(23,.bool (decide (((j : Nat) : Int) < ((i : Nat) : Int))))] hF fun a hF => ?_
  refine cJ 23 hF (fun hc3 => ?_) fun hc3 => ?_
  ·skip
   refine qS hF ?_
   refine tU 3 lm i ?_
   refine tG 7 (swr_sat _ ad cap n (lm - i) (lm) (j) M own_d hM (by omega) (by omega) (by omega)) ?_
   rintro _ h5 ⟨K4,hM2,hP2,hx,ownx,g⟩
   replace g0 := g0.trans g
   clear own_d; have own_d := ownx; clear ownx g
   replace hP := hP2.trans hP; replace hM := hM2; clear hP2 hM2
   replace hr := hr.big hx (by omega) (by omega)
   refine sT [] fun a hF => ?_
   refine rS hF ?_
   refine tU 2 i j ?_
   refine sE [(10,nV (i - j))] fun a hF => ?_
   refine bK ?_
   show ∃ m',m' < _ ∧ _
   refine ⟨_,?_,i - j,j,K4,rfl,g0,(by omega),hM,hP,hr,own_d,hF.to⟩
   omega
  ·skip
   have hlt : i < j := by omega
   refine qS hF ?_
   refine tU 3 lm i ?_
   refine tA 6 lm j ?_
   refine tU 8 (lm + j) i ?_
   refine tG 11 (swr_sat _ ad cap n (lm - i) ((lm + j) - i) (i) M own_d hM (by omega) (by omega) (by omega)) ?_
   rintro _ h7 ⟨K6,hM2,hP2,hx,ownx,g⟩
   replace g0 := g0.trans g
   clear own_d; have own_d := ownx; clear ownx g
   replace hP := hP2.trans hP; replace hM := hM2; clear hP2 hM2
   replace hr := hr.small hx (by omega) (by omega)
   refine sT [] fun a hF => ?_
   refine rS hF ?_
   refine tU 2 j i ?_
   refine sE [(11,nV (j - i))] fun a hF => ?_
   refine bK ?_
   show ∃ m',m' < _ ∧ _
   refine ⟨_,?_,i,j - i,K6,rfl,g0,(by omega),hM,hP,hr,own_d,hF.to⟩
   omega
 ·skip
  have heq : i = j := by omega
  refine cX 0 (xT (xT (xB ?_)))
  refine tK ?_
  refine rS hF ?_
  refine tU 3 lm i ?_
  refine tG 7 (swr_sat _ ad cap n (lm - i) (lm) (i) M own_d hM (by omega) (by omega) (by omega)) ?_
  rintro _ h9 ⟨K8,hM2,hP2,hx,ownx,g⟩
  replace g0 := g0.trans g
  clear own_d; have own_d := ownx; clear ownx g
  replace hP := hP2.trans hP; replace hM := hM2; clear hP2 hM2
  replace hr := hr.last hx (by omega) (by omega)
  refine sE [] fun a hF => ?_
  refine n0 hF ?_
  exact ⟨K8,hM,hP,hr,own_d,g0⟩
end Go.Proofs.YtegkejcglfgpmaaDoor
end
section
namespace Go.Proofs.YtegkejcglfgpmaaDoor
open Go Go.Lane Go.Sha
noncomputable def b92 : Code := Tryd.f92.body.getD .skip
set_option maxHeartbeats 4000000 in
theorem sym_step (h : Heap) (ad : Option Addr) (cap n la lm lb : Nat) (L : List Rec) (own_d : Own h (.slice ad n cap) 66 n 39 (rrow L)) (hLn : L.length = n) (ham : la < lm) (hmb : lm < lb) (hbn : lb ≤ n) (hn : n ≤ 1099511627776) (hs1 : SrtOn L la lm) (hs2 : SrtOn L lm lb) (ih : ∀ (h : Heap) (a m b : Nat) (L : List Rec),b - a < lb - la → Own h (.slice ad n cap) 66 n 39 (rrow L) → L.length = n → a < m → m < b → b ≤ n → SrtOn L a m → SrtOn L m b → Sat Tryd.prog 92 #[.slice ad n cap,.int .i64 ((a : Nat) : Int),.int .i64 ((m : Nat) : Int),.int .i64 ((b : Nat) : Int),.func (.func 58) #[] #[]] h fun _ h' => ∃ M,Mgd n a b L M ∧ Own h' (.slice ad n cap) 66 n 39 (rrow M) ∧ Grew (ad.map (fun (x : Addr) => x.block)) h h') : Sat Tryd.prog 92 #[.slice ad n cap,.int .i64 ((la : Nat) : Int),.int .i64 ((lm : Nat) : Int),.int .i64 ((lb : Nat) : Int),.func (.func 58) #[] #[]] h fun _ h' => ∃ M,Mgd n la lb L M ∧ Own h' (.slice ad n cap) 66 n 39 (rrow M) ∧ Grew (ad.map (fun (x : Addr) => x.block)) h h' := by
 have g0 := Grew.refl (ad.map (fun (x : Addr) => x.block)) h
 refine sat_in Tryd.func92 220 fun a hF => ?_
 refine cS ?_
 refine qS hF ?_
 refine tU 2 lm la ?_
 refine sT [(28,.bool (decide (((lm - la : Nat) : Int) = (1 : Int))))] fun a hF => ?_
 refine cJ 28 hF (fun hc1 => ?_) fun hc1 => ?_
 ·skip
  have hm1 : lm = la + 1 := by omega
  refine qP [(10,nV lm)] hF fun a hF => ?_
  refine qP [(11,nV lb)] hF fun a hF => ?_
  refine cS ?_
  refine cB 0 ?_
  refine cL (fun m a h' => ∃ i : Nat,∃ j : Nat,m = j - i ∧ (Grew (ad.map (fun (x : Addr) => x.block)) h h') ∧ (lm ≤ i ∧ i ≤ j ∧ j ≤ lb) ∧ (i = lm ∨ cbR (L.getD (i - 1) rec0) (L.getD (la) rec0) < 0) ∧ (j = lb ∨ ¬ cbR (L.getD (j) rec0) (L.getD (la) rec0) < 0) ∧ (Own h' (.slice ad n cap) 66 n 39 (rrow L)) ∧ (Fr a 220 [(0,.slice ad n cap),(1,.int .i64 ((la : Nat) : Int)),(4,.func (.func 58) #[] #[]),(10,.int .i64 ((i : Nat) : Int)),(11,.int .i64 ((j : Nat) : Int))])) (lb - lm) ⟨lm,lb,rfl,g0,(by omega),(.inl (by omega)),(.inl (by omega)),own_d,hF.to⟩ ?_
  clear hF a
  clear g0
  clear own_d
  rintro m a h2 ⟨i,j,rfl,g0,hij,hlo,hhi,own_d,hF⟩
  refine cS ?_
  refine qP [(33,.bool (decide (((i : Nat) : Int) < ((j : Nat) : Int))))] hF fun a hF => ?_
  refine cJ 33 hF (fun hc3 => ?_) fun hc3 => ?_
  ·skip
   have hijc : i < j := by omega
   obtain ⟨aa,rfl,hcap_aa⟩ := own_d.someA (by omega)
   refine cN ?_
   refine tK ?_
   refine cB 1 ?_
   refine qS hF ?_
   refine tA 2 i j ?_
   refine t1 3 (.int .u64 ((i + j : Nat) : Int)) (.int .u64 (IntKind.u64.wrap ((i + j : Nat) : Int))) (congrArg (Value.int .u64) (u64n (by omega))) ?_
   refine t1 4 (.int .u64 (((i + j) / 2 ^ 1 : Nat) : Int)) (.int .u64 (Int.fdiv ((i + j : Nat) : Int) (2 ^ 1))) (congrArg (Value.int .u64) (fdivN (i + j) 1)) ?_
   refine t1 5 (.int .i64 (((i + j) / 2 ^ 1 : Nat) : Int)) (.int .i64 (IntKind.i64.wrap (((i + j) / 2 ^ 1 : Nat) : Int))) (congrArg (Value.int .i64) (w64 (by omega) (by omega))) ?_
   refine sT [(12,nV ((i + j) / 2 ^ 1))] fun a hF => ?_
   obtain ⟨c,hc⟩ : ∃ x,(i + j) / 2 ^ 1 = x := ⟨_,rfl⟩; rw [hc] at hF
   have hcb : i ≤ c ∧ c < j := by omega
   refine cS ?_
   refine cD [0,0,0,6,14,0,0,96,224,511,1023] 5 mixed hF ?_
   refine mP 7 [0,1,2] [.func (.func 58) #[] #[],.slice (some aa) n cap,nV c] ?_
   refine mF 15 3 (.pointer (some (Addr.add aa (c * 39)))) (Calm.indexA (a := aa) (len := n) (sz := 39) (k := ((c : Nat) : Int)) c (c * 39) (by kernel_rfl) rfl (by omega) (by omega)) ?_
   refine mL 31 16 4 (.agg (rcs (L.getD c rec0)).toArray) (Calm.load (T := 66) (p := (Addr.add aa (c * 39))) (by kernel_rfl) (Row.fm (d := rec0) (i := c) rcs_len (own_d.row) (by kernel_rfl) (by omega) (by omega))) ?_
   refine mP 127 [5,6] [.slice (some aa) n cap,nV la] ?_
   refine mF 255 7 (.pointer (some (Addr.add aa (la * 39)))) (Calm.indexA (a := aa) (len := n) (sz := 39) (k := ((la : Nat) : Int)) la (la * 39) (by kernel_rfl) rfl (by omega) (by omega)) ?_
   refine mL 511 272 8 (.agg (rcs (L.getD la rec0)).toArray) (Calm.load (T := 66) (p := (Addr.add aa (la * 39))) (by kernel_rfl) (Row.fm (d := rec0) (i := la) rcs_len (own_d.row) (by kernel_rfl) (by omega) (by omega))) ?_
   refine SimK.eff0 (i := 9) (D' := 1023) (X' := 1023) (by kernel_rfl) (by kernel_rfl) (by kernel_rfl) (by kernel_rfl) (Does.call (f := 58) (args := #[.agg (rcs (L.getD c rec0)).toArray,.agg (rcs (L.getD la rec0)).toArray]) (by kernel_rfl) (less_sat _ (L.getD c rec0) (L.getD la rec0))) ?_
   rintro _ h4 ⟨rfl,g⟩
   replace g0 := g0.trans (g.but _)
   replace own_d := own_d.ext g
   clear g
   refine mP 2047 [10] [.bool (decide ((cbR (L.getD c rec0) (L.getD la rec0)) < (0 : Int)))] ?_
   refine mE [(50,.bool (decide ((cbR (L.getD c rec0) (L.getD la rec0)) < (0 : Int))))] fun a hF => ?_
   refine tK ?_
   refine cJ 50 hF (fun hc5 => ?_) fun hc5 => ?_
   ·skip
    have hlo2 : c + 1 = lm ∨ cbR (L.getD (c + 1 - 1) rec0) (L.getD (la) rec0) < 0 := .inr hc5
    have hhi2 := hhi
    refine rS hF ?_
    refine tA 1 c 1 ?_
    refine sE [(10,nV (c + 1))] fun a hF => ?_
    refine bK ?_
    show ∃ m',m' < _ ∧ _
    refine ⟨_,?_,c + 1,j,rfl,g0,(by omega),hlo2,hhi2,own_d,hF.to⟩
    omega
   ·skip
    have hhi2 : c = lb ∨ ¬ cbR (L.getD (c) rec0) (L.getD (la) rec0) < 0 := .inr hc5
    have hlo2 := hlo
    refine rP [(11,nV c)] hF fun a hF => ?_
    refine bK ?_
    show ∃ m',m' < _ ∧ _
    refine ⟨_,?_,i,c,rfl,g0,(by omega),hlo2,hhi2,own_d,hF.to⟩
    omega
  ·skip
   obtain rfl : i = j := by omega
   refine cX 0 (xT (xT (xB ?_)))
   refine tK ?_
   refine cS ?_
   refine qP [(13,nV la)] hF fun a hF => ?_
   refine cB 2 ?_
   refine cL (fun m a h' => ∃ k : Nat,∃ M : List Rec,m = i - k ∧ (Grew (ad.map (fun (x : Addr) => x.block)) h h') ∧ (la ≤ k ∧ k + 1 ≤ i) ∧ (M.length = n) ∧ (M.Perm L) ∧ (Idx M L (lx la k)) ∧ (Own h' (.slice ad n cap) 66 n 39 (rrow M)) ∧ (Fr a 220 [(0,.slice ad n cap),(10,.int .i64 ((i : Nat) : Int)),(13,.int .i64 ((k : Nat) : Int))])) (i - la) ⟨la,L,rfl,g0,(by omega),hLn,(List.Perm.refl _),(Idx.refl _ (lx_0 la)),own_d,hF.to⟩ ?_
   clear hF a
   clear g0
   clear hLn
   clear own_d
   rintro m a h6 ⟨k,M,rfl,g0,hk,hM,hP,hx,own_d,hF⟩
   refine cS ?_
   refine qS hF ?_
   refine tU 2 i 1 ?_
   refine sT [(58,.bool (decide (((k : Nat) : Int) < ((i - 1 : Nat) : Int))))] fun a hF => ?_
   refine cJ 58 hF (fun hc7 => ?_) fun hc7 => ?_
   ·skip
    have hkc : k + 1 < i := by omega
    obtain ⟨aa,rfl,hcap_aa⟩ := own_d.someA (by omega)
    refine cN ?_
    refine tK ?_
    refine cS ?_
    refine cB 3 ?_
    refine cD [0,0,0,0,8,0,0,64,224,480,0,0,3072,7168,16355,32739,65535,131071] 11 mixed hF ?_
    refine mP 15 [0,1,2,3] [.slice (some aa) n cap,nV k,.slice (some aa) n cap,nV k] ?_
    refine m1 31 4 (.int .i64 ((k + 1 : Nat) : Int)) (.int .i64 (IntKind.i64.wrap (((k : Nat) : Int) + 1))) (congrArg (Value.int .i64) (w64' (by omega) (by omega) (by omega))) ?_
    refine mP 127 [5,6] [.slice (some aa) n cap,nV k] ?_
    refine m1 255 7 (.int .i64 ((k + 1 : Nat) : Int)) (.int .i64 (IntKind.i64.wrap (((k : Nat) : Int) + 1))) (congrArg (Value.int .i64) (w64' (by omega) (by omega) (by omega))) ?_
    refine mF 511 8 (.pointer (some (Addr.add aa ((k + 1) * 39)))) (Calm.indexA (a := aa) (len := n) (sz := 39) (k := ((k + 1 : Nat) : Int)) (k + 1) ((k + 1) * 39) (by kernel_rfl) rfl (by omega) (by omega)) ?_
    refine mL 1023 512 9 (.agg (rcs (M.getD (k + 1) rec0)).toArray) (Calm.load (T := 66) (p := (Addr.add aa ((k + 1) * 39))) (by kernel_rfl) (Row.fm (d := rec0) (i := (k + 1)) rcs_len (own_d.row) (by kernel_rfl) (by omega) (by omega))) ?_
    refine mP 4095 [10,11] [.slice (some aa) n cap,nV k] ?_
    refine mF 8191 12 (.pointer (some (Addr.add aa (k * 39)))) (Calm.indexA (a := aa) (len := n) (sz := 39) (k := ((k : Nat) : Int)) k (k * 39) (by kernel_rfl) rfl (by omega) (by omega)) ?_
    refine mL 16383 8704 13 (.agg (rcs (M.getD k rec0)).toArray) (Calm.load (T := 66) (p := (Addr.add aa (k * 39))) (by kernel_rfl) (Row.fm (d := rec0) (i := k) rcs_len (own_d.row) (by kernel_rfl) (by omega) (by omega))) ?_
    refine mF 32767 14 (.pointer (some (Addr.add aa (k * 39)))) (Calm.indexA (a := aa) (len := n) (sz := 39) (k := ((k : Nat) : Int)) k (k * 39) (by kernel_rfl) rfl (by omega) (by omega)) ?_
    refine SimK.eff0 (i := 15) (D' := 65535) (X' := 65507) (by kernel_rfl) (by kernel_rfl) (by kernel_rfl) (by kernel_rfl) (Does.storeOwn (a := aa) (q := k * 39) (vs := rcs (M.getD (k + 1) rec0)) (by kernel_rfl) own_d (by show _ + 39 ≤ _; omega) (rcs_one _)) ?_
    rintro _ h8 ⟨rfl,ownx,g⟩
    replace g0 := g0.trans g
    rw [fm_set rcs_len (by first | omega | (rw [List.length_set]; omega))] at ownx
    clear own_d; have own_d := ownx; clear ownx g
    refine mF 131071 16 (.pointer (some (Addr.add aa ((k + 1) * 39)))) (Calm.indexA (a := aa) (len := n) (sz := 39) (k := ((k + 1 : Nat) : Int)) (k + 1) ((k + 1) * 39) (by kernel_rfl) rfl (by omega) (by omega)) ?_
    refine SimK.eff0 (i := 17) (D' := 262143) (X' := 262143) (by kernel_rfl) (by kernel_rfl) (by kernel_rfl) (by kernel_rfl) (Does.storeOwn (a := aa) (q := (k + 1) * 39) (vs := rcs (M.getD k rec0)) (by kernel_rfl) own_d (by show _ + 39 ≤ _; omega) (rcs_one _)) ?_
    rintro _ h9 ⟨rfl,ownx,g⟩
    replace g0 := g0.trans g
    rw [fm_set rcs_len (by first | omega | (rw [List.length_set]; omega))] at ownx
    clear own_d; have own_d := ownx; clear ownx g
    refine mE [] fun a hF => ?_
    refine bK ?_
    refine tK ?_
    refine rS hF ?_
    refine tA 1 k 1 ?_
    refine sE [(13,nV (k + 1))] fun a hF => ?_
    show ∃ m',m' < _ ∧ _
    refine ⟨_,?_,k + 1,(swp2 M k (k + 1)),rfl,g0,(by omega),((swp2_length M _ _).trans hM),((swp2_perm (by omega) (by omega)).trans hP),(hx.swp (by omega) (by omega) (lx_next (by omega))),own_d,hF.to⟩
    omega
   ·skip
    refine cX 2 (xT (xT (xB ?_)))
    refine tK ?_
    refine cR (yT ?_)
    refine r0 hF ?_
    exact ⟨M,sym1 hM hP hx (by omega) (hm1 ▸ hs2) (by omega) (by omega) (hlo.imp (fun z => by omega) id) hhi,own_d,g0⟩
 ·skip
  refine cN ?_
  refine tK ?_
  refine cS ?_
  refine qS hF ?_
  refine tU 2 lb lm ?_
  refine sT [(80,.bool (decide (((lb - lm : Nat) : Int) = (1 : Int))))] fun a hF => ?_
  refine cJ 80 hF (fun hc10 => ?_) fun hc10 => ?_
  ·skip
   have hm1 : lb = lm + 1 := by omega
   refine qP [(14,nV la)] hF fun a hF => ?_
   refine qP [(15,nV lm)] hF fun a hF => ?_
   refine cS ?_
   refine cB 4 ?_
   refine cL (fun m a h' => ∃ i : Nat,∃ j : Nat,m = j - i ∧ (Grew (ad.map (fun (x : Addr) => x.block)) h h') ∧ (la ≤ i ∧ i ≤ j ∧ j ≤ lm) ∧ (i = la ∨ ¬ cbR (L.getD (lm) rec0) (L.getD (i - 1) rec0) < 0) ∧ (j = lm ∨ cbR (L.getD (lm) rec0) (L.getD (j) rec0) < 0) ∧ (Own h' (.slice ad n cap) 66 n 39 (rrow L)) ∧ (Fr a 220 [(0,.slice ad n cap),(2,.int .i64 ((lm : Nat) : Int)),(4,.func (.func 58) #[] #[]),(14,.int .i64 ((i : Nat) : Int)),(15,.int .i64 ((j : Nat) : Int))])) (lm - la) ⟨la,lm,rfl,g0,(by omega),(.inl (by omega)),(.inl (by omega)),own_d,hF.to⟩ ?_
   clear hF a
   clear g0
   clear own_d
   rintro m a h11 ⟨i,j,rfl,g0,hij,hlo,hhi,own_d,hF⟩
   refine cS ?_
   refine qP [(85,.bool (decide (((i : Nat) : Int) < ((j : Nat) : Int))))] hF fun a hF => ?_
   refine cJ 85 hF (fun hc12 => ?_) fun hc12 => ?_
   ·skip
    have hijc : i < j := by omega
    obtain ⟨aa,rfl,hcap_aa⟩ := own_d.someA (by omega)
    refine cN ?_
    refine tK ?_
    refine cB 5 ?_
    refine qS hF ?_
    refine tA 2 i j ?_
    refine t1 3 (.int .u64 ((i + j : Nat) : Int)) (.int .u64 (IntKind.u64.wrap ((i + j : Nat) : Int))) (congrArg (Value.int .u64) (u64n (by omega))) ?_
    refine t1 4 (.int .u64 (((i + j) / 2 ^ 1 : Nat) : Int)) (.int .u64 (Int.fdiv ((i + j : Nat) : Int) (2 ^ 1))) (congrArg (Value.int .u64) (fdivN (i + j) 1)) ?_
    refine t1 5 (.int .i64 (((i + j) / 2 ^ 1 : Nat) : Int)) (.int .i64 (IntKind.i64.wrap (((i + j) / 2 ^ 1 : Nat) : Int))) (congrArg (Value.int .i64) (w64 (by omega) (by omega))) ?_
    refine sT [(16,nV ((i + j) / 2 ^ 1))] fun a hF => ?_
    obtain ⟨c,hc⟩ : ∃ x,(i + j) / 2 ^ 1 = x := ⟨_,rfl⟩; rw [hc] at hF
    have hcb : i ≤ c ∧ c < j := by omega
    refine cS ?_
    refine cD [0,0,0,6,14,0,0,96,224,511,1023,2047] 17 mixed hF ?_
    refine mP 7 [0,1,2] [.func (.func 58) #[] #[],.slice (some aa) n cap,nV lm] ?_
    refine mF 15 3 (.pointer (some (Addr.add aa (lm * 39)))) (Calm.indexA (a := aa) (len := n) (sz := 39) (k := ((lm : Nat) : Int)) lm (lm * 39) (by kernel_rfl) rfl (by omega) (by omega)) ?_
    refine mL 31 16 4 (.agg (rcs (L.getD lm rec0)).toArray) (Calm.load (T := 66) (p := (Addr.add aa (lm * 39))) (by kernel_rfl) (Row.fm (d := rec0) (i := lm) rcs_len (own_d.row) (by kernel_rfl) (by omega) (by omega))) ?_
    refine mP 127 [5,6] [.slice (some aa) n cap,nV c] ?_
    refine mF 255 7 (.pointer (some (Addr.add aa (c * 39)))) (Calm.indexA (a := aa) (len := n) (sz := 39) (k := ((c : Nat) : Int)) c (c * 39) (by kernel_rfl) rfl (by omega) (by omega)) ?_
    refine mL 511 272 8 (.agg (rcs (L.getD c rec0)).toArray) (Calm.load (T := 66) (p := (Addr.add aa (c * 39))) (by kernel_rfl) (Row.fm (d := rec0) (i := c) rcs_len (own_d.row) (by kernel_rfl) (by omega) (by omega))) ?_
    refine SimK.eff0 (i := 9) (D' := 1023) (X' := 1023) (by kernel_rfl) (by kernel_rfl) (by kernel_rfl) (by kernel_rfl) (Does.call (f := 58) (args := #[.agg (rcs (L.getD lm rec0)).toArray,.agg (rcs (L.getD c rec0)).toArray]) (by kernel_rfl) (less_sat _ (L.getD lm rec0) (L.getD c rec0))) ?_
    rintro _ h13 ⟨rfl,g⟩
    replace g0 := g0.trans (g.but _)
    replace own_d := own_d.ext g
    clear g
    refine mP 4095 [10,11] [.bool (decide ((cbR (L.getD lm rec0) (L.getD c rec0)) < (0 : Int))),.bool (!(decide ((cbR (L.getD lm rec0) (L.getD c rec0)) < (0 : Int))))] ?_
    refine mE [(103,.bool (!(decide ((cbR (L.getD lm rec0) (L.getD c rec0)) < (0 : Int)))))] fun a hF => ?_
    refine tK ?_
    refine cC 103 (!(decide ((cbR (L.getD lm rec0) (L.getD c rec0)) < (0 : Int)))) hF (fun hc14 => ?_) (fun hc14 => ?_)
    ·skip
     have hlo2 : c + 1 = la ∨ ¬ cbR (L.getD (lm) rec0) (L.getD (c + 1 - 1) rec0) < 0 := .inr (by simpa using hc14)
     have hhi2 := hhi
     refine rS hF ?_
     refine tA 1 c 1 ?_
     refine sE [(14,nV (c + 1))] fun a hF => ?_
     refine bK ?_
     show ∃ m',m' < _ ∧ _
     refine ⟨_,?_,c + 1,j,rfl,g0,(by omega),hlo2,hhi2,own_d,hF.to⟩
     omega
    ·skip
     have hhi2 : c = lm ∨ cbR (L.getD (lm) rec0) (L.getD (c) rec0) < 0 := .inr (by simpa using hc14)
     have hlo2 := hlo
     refine rP [(15,nV c)] hF fun a hF => ?_
     refine bK ?_
     show ∃ m',m' < _ ∧ _
     refine ⟨_,?_,i,c,rfl,g0,(by omega),hlo2,hhi2,own_d,hF.to⟩
     omega
   ·skip
    obtain rfl : i = j := by omega
    refine cX 4 (xT (xT (xB ?_)))
    refine tK ?_
    refine cS ?_
    refine qP [(17,nV lm)] hF fun a hF => ?_
    refine cB 6 ?_
    refine cL (fun m a h' => ∃ k : Nat,∃ M : List Rec,m = k + 1 ∧ (Grew (ad.map (fun (x : Addr) => x.block)) h h') ∧ (i ≤ k ∧ k ≤ lm) ∧ (M.length = n) ∧ (M.Perm L) ∧ (Idx M L (rx lm k)) ∧ (Own h' (.slice ad n cap) 66 n 39 (rrow M)) ∧ (Fr a 220 [(0,.slice ad n cap),(14,.int .i64 ((i : Nat) : Int)),(17,.int .i64 ((k : Nat) : Int))])) (lm + 1) ⟨lm,L,rfl,g0,(by omega),hLn,(List.Perm.refl _),(Idx.refl _ (rx_0 lm)),own_d,hF.to⟩ ?_
    clear hF a
    clear g0
    clear hLn
    clear own_d
    rintro m a h15 ⟨k,M,rfl,g0,hk,hM,hP,hx,own_d,hF⟩
    refine cS ?_
    refine qP [(110,.bool (decide (((i : Nat) : Int) < ((k : Nat) : Int))))] hF fun a hF => ?_
    refine cJ 110 hF (fun hc16 => ?_) fun hc16 => ?_
    ·skip
     have hkc : i < k := by omega
     obtain ⟨aa,rfl,hcap_aa⟩ := own_d.someA (by omega)
     refine cN ?_
     refine tK ?_
     refine cS ?_
     refine cB 7 ?_
     refine cD [0,0,0,0,8,0,0,64,224,480,0,0,3072,7168,16355,32739,65535,131071] 23 mixed hF ?_
     refine mP 15 [0,1,2,3] [.slice (some aa) n cap,nV k,.slice (some aa) n cap,nV k] ?_
     refine m1 31 4 (.int .i64 ((k - 1 : Nat) : Int)) (.int .i64 (IntKind.i64.wrap (((k : Nat) : Int) - 1))) (congrArg (Value.int .i64) (w64' (by omega) (by omega) (by omega))) ?_
     refine mP 127 [5,6] [.slice (some aa) n cap,nV k] ?_
     refine m1 255 7 (.int .i64 ((k - 1 : Nat) : Int)) (.int .i64 (IntKind.i64.wrap (((k : Nat) : Int) - 1))) (congrArg (Value.int .i64) (w64' (by omega) (by omega) (by omega))) ?_
     refine mF 511 8 (.pointer (some (Addr.add aa ((k - 1) * 39)))) (Calm.indexA (a := aa) (len := n) (sz := 39) (k := ((k - 1 : Nat) : Int)) (k - 1) ((k - 1) * 39) (by kernel_rfl) rfl (by omega) (by omega)) ?_
     refine mL 1023 512 9 (.agg (rcs (M.getD (k - 1) rec0)).toArray) (Calm.load (T := 66) (p := (Addr.add aa ((k - 1) * 39))) (by kernel_rfl) (Row.fm (d := rec0) (i := (k - 1)) rcs_len (own_d.row) (by kernel_rfl) (by omega) (by omega))) ?_
     refine mP 4095 [10,11] [.slice (some aa) n cap,nV k] ?_
     refine mF 8191 12 (.pointer (some (Addr.add aa (k * 39)))) (Calm.indexA (a := aa) (len := n) (sz := 39) (k := ((k : Nat) : Int)) k (k * 39) (by kernel_rfl) rfl (by omega) (by omega)) ?_
     refine mL 16383 8704 13 (.agg (rcs (M.getD k rec0)).toArray) (Calm.load (T := 66) (p := (Addr.add aa (k * 39))) (by kernel_rfl) (Row.fm (d := rec0) (i := k) rcs_len (own_d.row) (by kernel_rfl) (by omega) (by omega))) ?_
     refine mF 32767 14 (.pointer (some (Addr.add aa (k * 39)))) (Calm.indexA (a := aa) (len := n) (sz := 39) (k := ((k : Nat) : Int)) k (k * 39) (by kernel_rfl) rfl (by omega) (by omega)) ?_
     refine SimK.eff0 (i := 15) (D' := 65535) (X' := 65507) (by kernel_rfl) (by kernel_rfl) (by kernel_rfl) (by kernel_rfl) (Does.storeOwn (a := aa) (q := k * 39) (vs := rcs (M.getD (k - 1) rec0)) (by kernel_rfl) own_d (by show _ + 39 ≤ _; omega) (rcs_one _)) ?_
     rintro _ h17 ⟨rfl,ownx,g⟩
     replace g0 := g0.trans g
     rw [fm_set rcs_len (by first | omega | (rw [List.length_set]; omega))] at ownx
     clear own_d; have own_d := ownx; clear ownx g
     refine mF 131071 16 (.pointer (some (Addr.add aa ((k - 1) * 39)))) (Calm.indexA (a := aa) (len := n) (sz := 39) (k := ((k - 1 : Nat) : Int)) (k - 1) ((k - 1) * 39) (by kernel_rfl) rfl (by omega) (by omega)) ?_
     refine SimK.eff0 (i := 17) (D' := 262143) (X' := 262143) (by kernel_rfl) (by kernel_rfl) (by kernel_rfl) (by kernel_rfl) (Does.storeOwn (a := aa) (q := (k - 1) * 39) (vs := rcs (M.getD k rec0)) (by kernel_rfl) own_d (by show _ + 39 ≤ _; omega) (rcs_one _)) ?_
     rintro _ h18 ⟨rfl,ownx,g⟩
     replace g0 := g0.trans g
     rw [fm_set rcs_len (by first | omega | (rw [List.length_set]; omega))] at ownx
     clear own_d; have own_d := ownx; clear ownx g
     refine mE [] fun a hF => ?_
     refine bK ?_
     refine tK ?_
     refine rS hF ?_
     refine tU 1 k 1 ?_
     refine sE [(17,nV (k - 1))] fun a hF => ?_
     show ∃ m',m' < _ ∧ _
     refine ⟨_,?_,k - 1,(swp2 M k (k - 1)),rfl,g0,(by omega),((swp2_length M _ _).trans hM),((swp2_perm (by omega) (by omega)).trans hP),(hx.swp (by omega) (by omega) (rx_next (by omega) (by omega))),own_d,hF.to⟩
     omega
    ·skip
     refine cX 6 (xT (xT (xB ?_)))
     refine tK ?_
     refine cR (yT ?_)
     refine r0 hF ?_
     exact ⟨M,by have z := sym2 hM hP hx (by omega) hs1 (by omega) (by omega) hlo hhi; rwa [← hm1] at z,own_d,g0⟩
  ·skip
   refine cN ?_
   refine tK ?_
   refine qS hF ?_
   refine tA 2 la lb ?_
   refine t1 3 (.int .u64 ((la + lb : Nat) : Int)) (.int .u64 (IntKind.u64.wrap ((la + lb : Nat) : Int))) (congrArg (Value.int .u64) (u64n (by omega))) ?_
   refine t1 4 (.int .u64 (((la + lb) / 2 ^ 1 : Nat) : Int)) (.int .u64 (Int.fdiv ((la + lb : Nat) : Int) (2 ^ 1))) (congrArg (Value.int .u64) (fdivN (la + lb) 1)) ?_
   refine t1 5 (.int .i64 (((la + lb) / 2 ^ 1 : Nat) : Int)) (.int .i64 (IntKind.i64.wrap (((la + lb) / 2 ^ 1 : Nat) : Int))) (congrArg (Value.int .i64) (w64 (by omega) (by omega))) ?_
   refine sT [(18,nV ((la + lb) / 2 ^ 1))] fun a hF => ?_
   obtain ⟨mid,hmid⟩ : ∃ x,(la + lb) / 2 ^ 1 = x := ⟨_,rfl⟩; rw [hmid] at hF
   have hmb : la < mid ∧ mid < lb := by omega
   refine qS hF ?_
   refine tA 2 mid lm ?_
   refine sT [(19,nV (mid + lm))] fun a hF => ?_
   refine qP [] hF fun a hF => ?_
   refine cS ?_
   refine qP [(140,.bool (decide (((mid : Nat) : Int) < ((lm : Nat) : Int))))] hF fun a hF => ?_
   refine cJ 140 hF (fun hc19 => ?_) fun hc19 => ?_
   ·skip
    refine qS hF ?_
    refine tU 2 (mid + lm) lb ?_
    refine sT [(20,nV ((mid + lm) - lb))] fun a hF => ?_
    refine rP [(21,nV mid)] hF fun a hF => ?_
    refine tK ?_
    refine qS hF ?_
    refine tU 1 (mid + lm) 1 ?_
    refine sT [(22,nV ((mid + lm) - 1))] fun a hF => ?_
    obtain ⟨s0,hs0⟩ : ∃ x,(mid + lm) - lb = x := ⟨_,rfl⟩; obtain ⟨r0,hr0⟩ : ∃ x,mid = x := ⟨_,rfl⟩
    have hsr : (mid < lm ∧ s0 + lb = mid + lm ∧ r0 = mid) ∨ (lm ≤ mid ∧ s0 = la ∧ r0 = lm) := by omega
    have hsle : s0 ≤ r0 := by omega
    refine cS ?_
    refine cB 8 ?_
    refine cL (fun m a h' => ∃ i : Nat,∃ j : Nat,m = j - i ∧ (Grew (ad.map (fun (x : Addr) => x.block)) h h') ∧ (s0 ≤ i ∧ i ≤ j ∧ j ≤ r0) ∧ (i = s0 ∨ ¬ cbR (L.getD (mid + lm - 1 - (i - 1)) rec0) (L.getD (i - 1) rec0) < 0) ∧ (j = r0 ∨ cbR (L.getD (mid + lm - 1 - (j)) rec0) (L.getD (j) rec0) < 0) ∧ (Own h' (.slice ad n cap) 66 n 39 (rrow L)) ∧ (Fr a 220 [(0,.slice ad n cap),(1,.int .i64 ((la : Nat) : Int)),(2,.int .i64 ((lm : Nat) : Int)),(3,.int .i64 ((lb : Nat) : Int)),(4,.func (.func 58) #[] #[]),(18,.int .i64 ((mid : Nat) : Int)),(19,.int .i64 ((mid + lm : Nat) : Int)),(20,.int .i64 ((i : Nat) : Int)),(21,.int .i64 ((j : Nat) : Int)),(22,.int .i64 (((mid + lm) - 1 : Nat) : Int))])) (mid - ((mid + lm) - lb)) ⟨(mid + lm) - lb,mid,rfl,g0,(by omega),(.inl (by omega)),(.inl (by omega)),own_d,hF.to⟩ ?_
    clear hF a
    clear g0
    clear own_d
    rintro m a h20 ⟨i,j,rfl,g0,hij,hlo,hhi,own_d,hF⟩
    refine cS ?_
    refine qP [(151,.bool (decide (((i : Nat) : Int) < ((j : Nat) : Int))))] hF fun a hF => ?_
    refine cJ 151 hF (fun hc21 => ?_) fun hc21 => ?_
    ·skip
     have hijc : i < j := by omega
     obtain ⟨aa,rfl,hcap_aa⟩ := own_d.someA (by omega)
     refine cN ?_
     refine tK ?_
     refine cB 9 ?_
     refine qS hF ?_
     refine tA 2 i j ?_
     refine t1 3 (.int .u64 ((i + j : Nat) : Int)) (.int .u64 (IntKind.u64.wrap ((i + j : Nat) : Int))) (congrArg (Value.int .u64) (u64n (by omega))) ?_
     refine t1 4 (.int .u64 (((i + j) / 2 ^ 1 : Nat) : Int)) (.int .u64 (Int.fdiv ((i + j : Nat) : Int) (2 ^ 1))) (congrArg (Value.int .u64) (fdivN (i + j) 1)) ?_
     refine t1 5 (.int .i64 (((i + j) / 2 ^ 1 : Nat) : Int)) (.int .i64 (IntKind.i64.wrap (((i + j) / 2 ^ 1 : Nat) : Int))) (congrArg (Value.int .i64) (w64 (by omega) (by omega))) ?_
     refine sT [(23,nV ((i + j) / 2 ^ 1))] fun a hF => ?_
     obtain ⟨c,hc⟩ : ∃ x,(i + j) / 2 ^ 1 = x := ⟨_,rfl⟩; rw [hc] at hF
     have hcb : i ≤ c ∧ c < j := by omega
     refine cS ?_
     refine cD [0,0,0,0,12,30,62,0,0,384,896,2047,4095,8191] 35 mixed hF ?_
     refine mP 15 [0,1,2,3] [.func (.func 58) #[] #[],.slice (some aa) n cap,nV ((mid + lm) - 1),nV c] ?_
     refine m1 31 4 (.int .i64 ((((mid + lm) - 1) - c : Nat) : Int)) (.int .i64 (IntKind.i64.wrap ((((mid + lm) - 1 : Nat) : Int) - ((c : Nat) : Int)))) (congrArg (Value.int .i64) (w64' (by omega) (by omega) (by omega))) ?_
     refine mF 63 5 (.pointer (some (Addr.add aa ((((mid + lm) - 1) - c) * 39)))) (Calm.indexA (a := aa) (len := n) (sz := 39) (k := ((((mid + lm) - 1) - c : Nat) : Int)) (((mid + lm) - 1) - c) ((((mid + lm) - 1) - c) * 39) (by kernel_rfl) rfl (by omega) (by omega)) ?_
     refine mL 127 64 6 (.agg (rcs (L.getD (((mid + lm) - 1) - c) rec0)).toArray) (Calm.load (T := 66) (p := (Addr.add aa ((((mid + lm) - 1) - c) * 39))) (by kernel_rfl) (Row.fm (d := rec0) (i := (((mid + lm) - 1) - c)) rcs_len (own_d.row) (by kernel_rfl) (by omega) (by omega))) ?_
     refine mP 511 [7,8] [.slice (some aa) n cap,nV c] ?_
     refine mF 1023 9 (.pointer (some (Addr.add aa (c * 39)))) (Calm.indexA (a := aa) (len := n) (sz := 39) (k := ((c : Nat) : Int)) c (c * 39) (by kernel_rfl) rfl (by omega) (by omega)) ?_
     refine mL 2047 1088 10 (.agg (rcs (L.getD c rec0)).toArray) (Calm.load (T := 66) (p := (Addr.add aa (c * 39))) (by kernel_rfl) (Row.fm (d := rec0) (i := c) rcs_len (own_d.row) (by kernel_rfl) (by omega) (by omega))) ?_
     refine SimK.eff0 (i := 11) (D' := 4095) (X' := 4095) (by kernel_rfl) (by kernel_rfl) (by kernel_rfl) (by kernel_rfl) (Does.call (f := 58) (args := #[.agg (rcs (L.getD (((mid + lm) - 1) - c) rec0)).toArray,.agg (rcs (L.getD c rec0)).toArray]) (by kernel_rfl) (less_sat _ (L.getD (((mid + lm) - 1) - c) rec0) (L.getD c rec0))) ?_
     rintro _ h22 ⟨rfl,g⟩
     replace g0 := g0.trans (g.but _)
     replace own_d := own_d.ext g
     clear g
     refine mP 16383 [12,13] [.bool (decide ((cbR (L.getD (((mid + lm) - 1) - c) rec0) (L.getD c rec0)) < (0 : Int))),.bool (!(decide ((cbR (L.getD (((mid + lm) - 1) - c) rec0) (L.getD c rec0)) < (0 : Int))))] ?_
     refine mE [(171,.bool (!(decide ((cbR (L.getD (((mid + lm) - 1) - c) rec0) (L.getD c rec0)) < (0 : Int)))))] fun a hF => ?_
     refine tK ?_
     refine cC 171 (!(decide ((cbR (L.getD (((mid + lm) - 1) - c) rec0) (L.getD c rec0)) < (0 : Int)))) hF (fun hc23 => ?_) (fun hc23 => ?_)
     ·skip
      have hlo2 : c + 1 = s0 ∨ ¬ cbR (L.getD (mid + lm - 1 - (c + 1 - 1)) rec0) (L.getD (c + 1 - 1) rec0) < 0 := .inr (by rw [show mid + lm - 1 - (c + 1 - 1) = mid + lm - 1 - c by omega]; simpa using hc23)
      have hhi2 := hhi
      refine rS hF ?_
      refine tA 1 c 1 ?_
      refine sE [(20,nV (c + 1))] fun a hF => ?_
      refine bK ?_
      show ∃ m',m' < _ ∧ _
      refine ⟨_,?_,c + 1,j,rfl,g0,(by omega),hlo2,hhi2,own_d,hF.to⟩
      omega
     ·skip
      have hhi2 : c = r0 ∨ cbR (L.getD (mid + lm - 1 - (c)) rec0) (L.getD (c) rec0) < 0 := .inr (by simpa using hc23)
      have hlo2 := hlo
      refine rP [(21,nV c)] hF fun a hF => ?_
      refine bK ?_
      show ∃ m',m' < _ ∧ _
      refine ⟨_,?_,i,c,rfl,g0,(by omega),hlo2,hhi2,own_d,hF.to⟩
      omega
    ·skip
     obtain rfl : i = j := by omega
     refine cX 8 (xT (xT (xB ?_)))
     refine tK ?_
     refine qS hF ?_
     refine tU 2 (mid + lm) i ?_
     refine sT [(24,nV ((mid + lm) - i))] fun a hF => ?_
     obtain ⟨e,he⟩ : ∃ x,(mid + lm) - i = x := ⟨_,rfl⟩; rw [he] at hF
     have ham : la ≤ i ∧ i ≤ lm ∧ lm ≤ e ∧ e ≤ lb ∧ i ≤ mid ∧ mid ≤ e ∧ i + e = mid + lm := by omega
     have hlo3 : i = la ∨ e = lb ∨ leR (L.getD (i - 1) rec0) (L.getD e rec0) := by
      rcases hlo with z | z
      ·omega
      ·by_cases hi0 : i = la
       ·exact .inl hi0
       ·rw [show mid + lm - 1 - (i - 1) = e by omega] at z; exact .inr (.inr (leR_of_not z))
     have hhi3 : i = lm ∨ i = mid ∨ leR (L.getD (e - 1) rec0) (L.getD i rec0) := by
      rcases hhi with z | z
      ·omega
      ·rw [show mid + lm - 1 - i = e - 1 by omega] at z; exact .inr (.inr (leR_of_lt z))
     refine cS ?_
     refine cS ?_
     rcases Nat.lt_or_ge i lm with hc1 | hc1
     rcases Nat.lt_or_ge lm e with hc2 | hc2
     ·skip
      refine rS hF ?_
      refine t1 2 (.bool true) (.bool (decide (((i : Nat) : Int) < ((lm : Nat) : Int)))) (congrArg Value.bool (decide_eq_true (by omega))) ?_
      refine t1 6 (.bool true) (.bool (decide (((lm : Nat) : Int) < ((e : Nat) : Int)))) (congrArg Value.bool (decide_eq_true (by omega))) ?_
      refine sE [(185,.bool true)] fun a hF => ?_
      refine tK ?_
      refine cT 185 hF ?_
      refine rS hF ?_
      refine tG 5 (rot_sat _ ad cap n i lm e L own_d hLn (by omega) (by omega) (by omega) (by omega)) ?_
      rintro _ h25 ⟨K24,hM,hP,hx,ownx,g⟩
      replace g0 := g0.trans g
      clear own_d; have own_d := ownx; clear ownx g
      have hcut : Cut n la lm lb mid i e L K24 := ⟨hM,hP,hx,hs1,hs2,ham,hlo3,hhi3⟩
      refine sE [] fun a hF => ?_
      refine tK ?_
      refine cS ?_
      refine cS ?_
      rcases Nat.lt_or_ge la i with hc1 | hc1
      rcases Nat.lt_or_ge i mid with hc2 | hc2
      ·skip
       refine rS hF ?_
       refine t1 2 (.bool true) (.bool (decide (((la : Nat) : Int) < ((i : Nat) : Int)))) (congrArg Value.bool (decide_eq_true (by omega))) ?_
       refine t1 6 (.bool true) (.bool (decide (((i : Nat) : Int) < ((mid : Nat) : Int)))) (congrArg Value.bool (decide_eq_true (by omega))) ?_
       refine sE [(199,.bool true)] fun a hF => ?_
       refine tK ?_
       refine cT 199 hF ?_
       refine rS hF ?_
       refine tG 5 (ih _ la i mid K24 (by omega) own_d hcut.len (by omega) (by omega) (by omega) hcut.r1 hcut.r2) ?_
       rintro _ h27 ⟨K26,hk,ownx,g⟩
       replace g0 := g0.trans g
       clear own_d; have own_d := ownx; clear ownx g
       refine sE [] fun a hF => ?_
       refine tK ?_
       refine cS ?_
       rcases Nat.lt_or_ge mid e with hc1 | hc1
       rcases Nat.lt_or_ge e lb with hc2 | hc2
       ·skip
        refine rS hF ?_
        refine t1 2 (.bool true) (.bool (decide (((mid : Nat) : Int) < ((e : Nat) : Int)))) (congrArg Value.bool (decide_eq_true (by omega))) ?_
        refine t1 6 (.bool true) (.bool (decide (((e : Nat) : Int) < ((lb : Nat) : Int)))) (congrArg Value.bool (decide_eq_true (by omega))) ?_
        refine sE [(213,.bool true)] fun a hF => ?_
        refine tK ?_
        refine cT 213 hF ?_
        refine rS hF ?_
        refine tG 5 (ih _ mid e lb K26 (by omega) own_d hk.len (by omega) (by omega) (by omega) (hcut.sort hk).1 (hcut.sort hk).2) ?_
        rintro _ h29 ⟨K28,hj,ownx,g⟩
        replace g0 := g0.trans g
        clear own_d; have own_d := ownx; clear ownx g
        refine sE [] fun a hF => ?_
        refine n0 hF ?_
        exact ⟨K28,hcut.done hk hj,own_d,g0⟩
       ·skip
        have hj := hcut.right hk (by omega)
        refine rS hF ?_
        refine t1 2 (.bool true) (.bool (decide (((mid : Nat) : Int) < ((e : Nat) : Int)))) (congrArg Value.bool (decide_eq_true (by omega))) ?_
        refine t1 6 (.bool false) (.bool (decide (((e : Nat) : Int) < ((lb : Nat) : Int)))) (congrArg Value.bool (decide_eq_false (by omega))) ?_
        refine sE [(213,.bool false)] fun a hF => ?_
        refine tK ?_
        refine cF 213 hF ?_
        refine cN ?_
        refine n0 hF ?_
        exact ⟨K26,hcut.done hk hj,own_d,g0⟩
       ·skip
        have hj := hcut.right hk (by omega)
        refine rS hF ?_
        refine t1 2 (.bool false) (.bool (decide (((mid : Nat) : Int) < ((e : Nat) : Int)))) (congrArg Value.bool (decide_eq_false (by omega))) ?_
        refine sE [(213,.bool false)] fun a hF => ?_
        refine tK ?_
        refine cF 213 hF ?_
        refine cN ?_
        refine n0 hF ?_
        exact ⟨K26,hcut.done hk hj,own_d,g0⟩
      ·skip
       have hk := hcut.left (by omega)
       refine rS hF ?_
       refine t1 2 (.bool true) (.bool (decide (((la : Nat) : Int) < ((i : Nat) : Int)))) (congrArg Value.bool (decide_eq_true (by omega))) ?_
       refine t1 6 (.bool false) (.bool (decide (((i : Nat) : Int) < ((mid : Nat) : Int)))) (congrArg Value.bool (decide_eq_false (by omega))) ?_
       refine sE [(199,.bool false)] fun a hF => ?_
       refine tK ?_
       refine cF 199 hF ?_
       refine cN ?_
       refine tK ?_
       refine cS ?_
       rcases Nat.lt_or_ge mid e with hc1 | hc1
       rcases Nat.lt_or_ge e lb with hc2 | hc2
       ·skip
        refine rS hF ?_
        refine t1 2 (.bool true) (.bool (decide (((mid : Nat) : Int) < ((e : Nat) : Int)))) (congrArg Value.bool (decide_eq_true (by omega))) ?_
        refine t1 6 (.bool true) (.bool (decide (((e : Nat) : Int) < ((lb : Nat) : Int)))) (congrArg Value.bool (decide_eq_true (by omega))) ?_
        refine sE [(213,.bool true)] fun a hF => ?_
        refine tK ?_
        refine cT 213 hF ?_
        refine rS hF ?_
        refine tG 5 (ih _ mid e lb K24 (by omega) own_d hk.len (by omega) (by omega) (by omega) (hcut.sort hk).1 (hcut.sort hk).2) ?_
        rintro _ h31 ⟨K30,hj,ownx,g⟩
        replace g0 := g0.trans g
        clear own_d; have own_d := ownx; clear ownx g
        refine sE [] fun a hF => ?_
        refine n0 hF ?_
        exact ⟨K30,hcut.done hk hj,own_d,g0⟩
       ·skip
        have hj := hcut.right hk (by omega)
        refine rS hF ?_
        refine t1 2 (.bool true) (.bool (decide (((mid : Nat) : Int) < ((e : Nat) : Int)))) (congrArg Value.bool (decide_eq_true (by omega))) ?_
        refine t1 6 (.bool false) (.bool (decide (((e : Nat) : Int) < ((lb : Nat) : Int)))) (congrArg Value.bool (decide_eq_false (by omega))) ?_
        refine sE [(213,.bool false)] fun a hF => ?_
        refine tK ?_
        refine cF 213 hF ?_
        refine cN ?_
        refine n0 hF ?_
        exact ⟨K24,hcut.done hk hj,own_d,g0⟩
       ·skip
        have hj := hcut.right hk (by omega)
        refine rS hF ?_
        refine t1 2 (.bool false) (.bool (decide (((mid : Nat) : Int) < ((e : Nat) : Int)))) (congrArg Value.bool (decide_eq_false (by omega))) ?_
        refine sE [(213,.bool false)] fun a hF => ?_
        refine tK ?_
        refine cF 213 hF ?_
        refine cN ?_
        refine n0 hF ?_
        exact ⟨K24,hcut.done hk hj,own_d,g0⟩
      ·skip
       have hk := hcut.left (by omega)
       refine rS hF ?_
       refine t1 2 (.bool false) (.bool (decide (((la : Nat) : Int) < ((i : Nat) : Int)))) (congrArg Value.bool (decide_eq_false (by omega))) ?_
       refine sE [(199,.bool false)] fun a hF => ?_
       refine tK ?_
       refine cF 199 hF ?_
       refine cN ?_
       refine tK ?_
       refine cS ?_
       rcases Nat.lt_or_ge mid e with hc1 | hc1
       rcases Nat.lt_or_ge e lb with hc2 | hc2
       ·skip
        refine rS hF ?_
        refine t1 2 (.bool true) (.bool (decide (((mid : Nat) : Int) < ((e : Nat) : Int)))) (congrArg Value.bool (decide_eq_true (by omega))) ?_
        refine t1 6 (.bool true) (.bool (decide (((e : Nat) : Int) < ((lb : Nat) : Int)))) (congrArg Value.bool (decide_eq_true (by omega))) ?_
        refine sE [(213,.bool true)] fun a hF => ?_
        refine tK ?_
        refine cT 213 hF ?_
        refine rS hF ?_
        refine tG 5 (ih _ mid e lb K24 (by omega) own_d hk.len (by omega) (by omega) (by omega) (hcut.sort hk).1 (hcut.sort hk).2) ?_
        rintro _ h33 ⟨K32,hj,ownx,g⟩
        replace g0 := g0.trans g
        clear own_d; have own_d := ownx; clear ownx g
        refine sE [] fun a hF => ?_
        refine n0 hF ?_
        exact ⟨K32,hcut.done hk hj,own_d,g0⟩
       ·skip
        have hj := hcut.right hk (by omega)
        refine rS hF ?_
        refine t1 2 (.bool true) (.bool (decide (((mid : Nat) : Int) < ((e : Nat) : Int)))) (congrArg Value.bool (decide_eq_true (by omega))) ?_
        refine t1 6 (.bool false) (.bool (decide (((e : Nat) : Int) < ((lb : Nat) : Int)))) (congrArg Value.bool (decide_eq_false (by omega))) ?_
        refine sE [(213,.bool false)] fun a hF => ?_
        refine tK ?_
        refine cF 213 hF ?_
        refine cN ?_
        refine n0 hF ?_
        exact ⟨K24,hcut.done hk hj,own_d,g0⟩
       ·skip
        have hj := hcut.right hk (by omega)
        refine rS hF ?_
        refine t1 2 (.bool false) (.bool (decide (((mid : Nat) : Int) < ((e : Nat) : Int)))) (congrArg Value.bool (decide_eq_false (by omega))) ?_
        refine sE [(213,.bool false)] fun a hF => ?_
        refine tK ?_
        refine cF 213 hF ?_
        refine cN ?_
        refine n0 hF ?_
        exact ⟨K24,hcut.done hk hj,own_d,g0⟩
     ·skip
      have hcut : Cut n la lm lb mid i e L L := ⟨hLn,List.Perm.refl _,Idx.refl _ (rtx_none (by omega)),hs1,hs2,ham,hlo3,hhi3⟩
      refine rS hF ?_
      refine t1 2 (.bool true) (.bool (decide (((i : Nat) : Int) < ((lm : Nat) : Int)))) (congrArg Value.bool (decide_eq_true (by omega))) ?_
      refine t1 6 (.bool false) (.bool (decide (((lm : Nat) : Int) < ((e : Nat) : Int)))) (congrArg Value.bool (decide_eq_false (by omega))) ?_
      refine sE [(185,.bool false)] fun a hF => ?_
      refine tK ?_
      refine cF 185 hF ?_
      refine cN ?_
      refine tK ?_
      refine cS ?_
      refine cS ?_
      rcases Nat.lt_or_ge la i with hc1 | hc1
      rcases Nat.lt_or_ge i mid with hc2 | hc2
      ·skip
       refine rS hF ?_
       refine t1 2 (.bool true) (.bool (decide (((la : Nat) : Int) < ((i : Nat) : Int)))) (congrArg Value.bool (decide_eq_true (by omega))) ?_
       refine t1 6 (.bool true) (.bool (decide (((i : Nat) : Int) < ((mid : Nat) : Int)))) (congrArg Value.bool (decide_eq_true (by omega))) ?_
       refine sE [(199,.bool true)] fun a hF => ?_
       refine tK ?_
       refine cT 199 hF ?_
       refine rS hF ?_
       refine tG 5 (ih _ la i mid L (by omega) own_d hcut.len (by omega) (by omega) (by omega) hcut.r1 hcut.r2) ?_
       rintro _ h35 ⟨K34,hk,ownx,g⟩
       replace g0 := g0.trans g
       clear own_d; have own_d := ownx; clear ownx g
       refine sE [] fun a hF => ?_
       refine tK ?_
       refine cS ?_
       rcases Nat.lt_or_ge mid e with hc1 | hc1
       rcases Nat.lt_or_ge e lb with hc2 | hc2
       ·skip
        refine rS hF ?_
        refine t1 2 (.bool true) (.bool (decide (((mid : Nat) : Int) < ((e : Nat) : Int)))) (congrArg Value.bool (decide_eq_true (by omega))) ?_
        refine t1 6 (.bool true) (.bool (decide (((e : Nat) : Int) < ((lb : Nat) : Int)))) (congrArg Value.bool (decide_eq_true (by omega))) ?_
        refine sE [(213,.bool true)] fun a hF => ?_
        refine tK ?_
        refine cT 213 hF ?_
        refine rS hF ?_
        refine tG 5 (ih _ mid e lb K34 (by omega) own_d hk.len (by omega) (by omega) (by omega) (hcut.sort hk).1 (hcut.sort hk).2) ?_
        rintro _ h37 ⟨K36,hj,ownx,g⟩
        replace g0 := g0.trans g
        clear own_d; have own_d := ownx; clear ownx g
        refine sE [] fun a hF => ?_
        refine n0 hF ?_
        exact ⟨K36,hcut.done hk hj,own_d,g0⟩
       ·skip
        have hj := hcut.right hk (by omega)
        refine rS hF ?_
        refine t1 2 (.bool true) (.bool (decide (((mid : Nat) : Int) < ((e : Nat) : Int)))) (congrArg Value.bool (decide_eq_true (by omega))) ?_
        refine t1 6 (.bool false) (.bool (decide (((e : Nat) : Int) < ((lb : Nat) : Int)))) (congrArg Value.bool (decide_eq_false (by omega))) ?_
        refine sE [(213,.bool false)] fun a hF => ?_
        refine tK ?_
        refine cF 213 hF ?_
        refine cN ?_
        refine n0 hF ?_
        exact ⟨K34,hcut.done hk hj,own_d,g0⟩
       ·skip
        have hj := hcut.right hk (by omega)
        refine rS hF ?_
        refine t1 2 (.bool false) (.bool (decide (((mid : Nat) : Int) < ((e : Nat) : Int)))) (congrArg Value.bool (decide_eq_false (by omega))) ?_
        refine sE [(213,.bool false)] fun a hF => ?_
        refine tK ?_
        refine cF 213 hF ?_
        refine cN ?_
        refine n0 hF ?_
        exact ⟨K34,hcut.done hk hj,own_d,g0⟩
      ·skip
       have hk := hcut.left (by omega)
       refine rS hF ?_
       refine t1 2 (.bool true) (.bool (decide (((la : Nat) : Int) < ((i : Nat) : Int)))) (congrArg Value.bool (decide_eq_true (by omega))) ?_
       refine t1 6 (.bool false) (.bool (decide (((i : Nat) : Int) < ((mid : Nat) : Int)))) (congrArg Value.bool (decide_eq_false (by omega))) ?_
       refine sE [(199,.bool false)] fun a hF => ?_
       refine tK ?_
       refine cF 199 hF ?_
       refine cN ?_
       refine tK ?_
       refine cS ?_
       rcases Nat.lt_or_ge mid e with hc1 | hc1
       rcases Nat.lt_or_ge e lb with hc2 | hc2
       ·skip
        refine rS hF ?_
        refine t1 2 (.bool true) (.bool (decide (((mid : Nat) : Int) < ((e : Nat) : Int)))) (congrArg Value.bool (decide_eq_true (by omega))) ?_
        refine t1 6 (.bool true) (.bool (decide (((e : Nat) : Int) < ((lb : Nat) : Int)))) (congrArg Value.bool (decide_eq_true (by omega))) ?_
        refine sE [(213,.bool true)] fun a hF => ?_
        refine tK ?_
        refine cT 213 hF ?_
        refine rS hF ?_
        refine tG 5 (ih _ mid e lb L (by omega) own_d hk.len (by omega) (by omega) (by omega) (hcut.sort hk).1 (hcut.sort hk).2) ?_
        rintro _ h39 ⟨K38,hj,ownx,g⟩
        replace g0 := g0.trans g
        clear own_d; have own_d := ownx; clear ownx g
        refine sE [] fun a hF => ?_
        refine n0 hF ?_
        exact ⟨K38,hcut.done hk hj,own_d,g0⟩
       ·skip
        have hj := hcut.right hk (by omega)
        refine rS hF ?_
        refine t1 2 (.bool true) (.bool (decide (((mid : Nat) : Int) < ((e : Nat) : Int)))) (congrArg Value.bool (decide_eq_true (by omega))) ?_
        refine t1 6 (.bool false) (.bool (decide (((e : Nat) : Int) < ((lb : Nat) : Int)))) (congrArg Value.bool (decide_eq_false (by omega))) ?_
        refine sE [(213,.bool false)] fun a hF => ?_
        refine tK ?_
        refine cF 213 hF ?_
        refine cN ?_
        refine n0 hF ?_
        exact ⟨L,hcut.done hk hj,own_d,g0⟩
       ·skip
        have hj := hcut.right hk (by omega)
        refine rS hF ?_
        refine t1 2 (.bool false) (.bool (decide (((mid : Nat) : Int) < ((e : Nat) : Int)))) (congrArg Value.bool (decide_eq_false (by omega))) ?_
        refine sE [(213,.bool false)] fun a hF => ?_
        refine tK ?_
        refine cF 213 hF ?_
        refine cN ?_
        refine n0 hF ?_
        exact ⟨L,hcut.done hk hj,own_d,g0⟩
      ·skip
       have hk := hcut.left (by omega)
       refine rS hF ?_
       refine t1 2 (.bool false) (.bool (decide (((la : Nat) : Int) < ((i : Nat) : Int)))) (congrArg Value.bool (decide_eq_false (by omega))) ?_
       refine sE [(199,.bool false)] fun a hF => ?_
       refine tK ?_
       refine cF 199 hF ?_
       refine cN ?_
       refine tK ?_
       refine cS ?_
       rcases Nat.lt_or_ge mid e with hc1 | hc1
       rcases Nat.lt_or_ge e lb with hc2 | hc2
       ·skip
        refine rS hF ?_
        refine t1 2 (.bool true) (.bool (decide (((mid : Nat) : Int) < ((e : Nat) : Int)))) (congrArg Value.bool (decide_eq_true (by omega))) ?_
        refine t1 6 (.bool true) (.bool (decide (((e : Nat) : Int) < ((lb : Nat) : Int)))) (congrArg Value.bool (decide_eq_true (by omega))) ?_
        refine sE [(213,.bool true)] fun a hF => ?_
        refine tK ?_
        refine cT 213 hF ?_
        refine rS hF ?_
        refine tG 5 (ih _ mid e lb L (by omega) own_d hk.len (by omega) (by omega) (by omega) (hcut.sort hk).1 (hcut.sort hk).2) ?_
        rintro _ h41 ⟨K40,hj,ownx,g⟩
        replace g0 := g0.trans g
        clear own_d; have own_d := ownx; clear ownx g
        refine sE [] fun a hF => ?_
        refine n0 hF ?_
        exact ⟨K40,hcut.done hk hj,own_d,g0⟩
       ·skip
        have hj := hcut.right hk (by omega)
        refine rS hF ?_
        refine t1 2 (.bool true) (.bool (decide (((mid : Nat) : Int) < ((e : Nat) : Int)))) (congrArg Value.bool (decide_eq_true (by omega))) ?_
        refine t1 6 (.bool false) (.bool (decide (((e : Nat) : Int) < ((lb : Nat) : Int)))) (congrArg Value.bool (decide_eq_false (by omega))) ?_
        refine sE [(213,.bool false)] fun a hF => ?_
        refine tK ?_
        refine cF 213 hF ?_
        refine cN ?_
        refine n0 hF ?_
        exact ⟨L,hcut.done hk hj,own_d,g0⟩
       ·skip
        have hj := hcut.right hk (by omega)
        refine rS hF ?_
        refine t1 2 (.bool false) (.bool (decide (((mid : Nat) : Int) < ((e : Nat) : Int)))) (congrArg Value.bool (decide_eq_false (by omega))) ?_
        refine sE [(213,.bool false)] fun a hF => ?_
        refine tK ?_
        refine cF 213 hF ?_
        refine cN ?_
        refine n0 hF ?_
        exact ⟨L,hcut.done hk hj,own_d,g0⟩
     ·skip
      have hcut : Cut n la lm lb mid i e L L := ⟨hLn,List.Perm.refl _,Idx.refl _ (rtx_none (by omega)),hs1,hs2,ham,hlo3,hhi3⟩
      refine rS hF ?_
      refine t1 2 (.bool false) (.bool (decide (((i : Nat) : Int) < ((lm : Nat) : Int)))) (congrArg Value.bool (decide_eq_false (by omega))) ?_
      refine sE [(185,.bool false)] fun a hF => ?_
      refine tK ?_
      refine cF 185 hF ?_
      refine cN ?_
      refine tK ?_
      refine cS ?_
      refine cS ?_
      rcases Nat.lt_or_ge la i with hc1 | hc1
      rcases Nat.lt_or_ge i mid with hc2 | hc2
      ·skip
       refine rS hF ?_
       refine t1 2 (.bool true) (.bool (decide (((la : Nat) : Int) < ((i : Nat) : Int)))) (congrArg Value.bool (decide_eq_true (by omega))) ?_
       refine t1 6 (.bool true) (.bool (decide (((i : Nat) : Int) < ((mid : Nat) : Int)))) (congrArg Value.bool (decide_eq_true (by omega))) ?_
       refine sE [(199,.bool true)] fun a hF => ?_
       refine tK ?_
       refine cT 199 hF ?_
       refine rS hF ?_
       refine tG 5 (ih _ la i mid L (by omega) own_d hcut.len (by omega) (by omega) (by omega) hcut.r1 hcut.r2) ?_
       rintro _ h43 ⟨K42,hk,ownx,g⟩
       replace g0 := g0.trans g
       clear own_d; have own_d := ownx; clear ownx g
       refine sE [] fun a hF => ?_
       refine tK ?_
       refine cS ?_
       rcases Nat.lt_or_ge mid e with hc1 | hc1
       rcases Nat.lt_or_ge e lb with hc2 | hc2
       ·skip
        refine rS hF ?_
        refine t1 2 (.bool true) (.bool (decide (((mid : Nat) : Int) < ((e : Nat) : Int)))) (congrArg Value.bool (decide_eq_true (by omega))) ?_
        refine t1 6 (.bool true) (.bool (decide (((e : Nat) : Int) < ((lb : Nat) : Int)))) (congrArg Value.bool (decide_eq_true (by omega))) ?_
        refine sE [(213,.bool true)] fun a hF => ?_
        refine tK ?_
        refine cT 213 hF ?_
        refine rS hF ?_
        refine tG 5 (ih _ mid e lb K42 (by omega) own_d hk.len (by omega) (by omega) (by omega) (hcut.sort hk).1 (hcut.sort hk).2) ?_
        rintro _ h45 ⟨K44,hj,ownx,g⟩
        replace g0 := g0.trans g
        clear own_d; have own_d := ownx; clear ownx g
        refine sE [] fun a hF => ?_
        refine n0 hF ?_
        exact ⟨K44,hcut.done hk hj,own_d,g0⟩
       ·skip
        have hj := hcut.right hk (by omega)
        refine rS hF ?_
        refine t1 2 (.bool true) (.bool (decide (((mid : Nat) : Int) < ((e : Nat) : Int)))) (congrArg Value.bool (decide_eq_true (by omega))) ?_
        refine t1 6 (.bool false) (.bool (decide (((e : Nat) : Int) < ((lb : Nat) : Int)))) (congrArg Value.bool (decide_eq_false (by omega))) ?_
        refine sE [(213,.bool false)] fun a hF => ?_
        refine tK ?_
        refine cF 213 hF ?_
        refine cN ?_
        refine n0 hF ?_
        exact ⟨K42,hcut.done hk hj,own_d,g0⟩
       ·skip
        have hj := hcut.right hk (by omega)
        refine rS hF ?_
        refine t1 2 (.bool false) (.bool (decide (((mid : Nat) : Int) < ((e : Nat) : Int)))) (congrArg Value.bool (decide_eq_false (by omega))) ?_
        refine sE [(213,.bool false)] fun a hF => ?_
        refine tK ?_
        refine cF 213 hF ?_
        refine cN ?_
        refine n0 hF ?_
        exact ⟨K42,hcut.done hk hj,own_d,g0⟩
      ·skip
       have hk := hcut.left (by omega)
       refine rS hF ?_
       refine t1 2 (.bool true) (.bool (decide (((la : Nat) : Int) < ((i : Nat) : Int)))) (congrArg Value.bool (decide_eq_true (by omega))) ?_
       refine t1 6 (.bool false) (.bool (decide (((i : Nat) : Int) < ((mid : Nat) : Int)))) (congrArg Value.bool (decide_eq_false (by omega))) ?_
       refine sE [(199,.bool false)] fun a hF => ?_
       refine tK ?_
       refine cF 199 hF ?_
       refine cN ?_
       refine tK ?_
       refine cS ?_
       rcases Nat.lt_or_ge mid e with hc1 | hc1
       rcases Nat.lt_or_ge e lb with hc2 | hc2
       ·skip
        refine rS hF ?_
        refine t1 2 (.bool true) (.bool (decide (((mid : Nat) : Int) < ((e : Nat) : Int)))) (congrArg Value.bool (decide_eq_true (by omega))) ?_
        refine t1 6 (.bool true) (.bool (decide (((e : Nat) : Int) < ((lb : Nat) : Int)))) (congrArg Value.bool (decide_eq_true (by omega))) ?_
        refine sE [(213,.bool true)] fun a hF => ?_
        refine tK ?_
        refine cT 213 hF ?_
        refine rS hF ?_
        refine tG 5 (ih _ mid e lb L (by omega) own_d hk.len (by omega) (by omega) (by omega) (hcut.sort hk).1 (hcut.sort hk).2) ?_
        rintro _ h47 ⟨K46,hj,ownx,g⟩
        replace g0 := g0.trans g
        clear own_d; have own_d := ownx; clear ownx g
        refine sE [] fun a hF => ?_
        refine n0 hF ?_
        exact ⟨K46,hcut.done hk hj,own_d,g0⟩
       ·skip
        have hj := hcut.right hk (by omega)
        refine rS hF ?_
        refine t1 2 (.bool true) (.bool (decide (((mid : Nat) : Int) < ((e : Nat) : Int)))) (congrArg Value.bool (decide_eq_true (by omega))) ?_
        refine t1 6 (.bool false) (.bool (decide (((e : Nat) : Int) < ((lb : Nat) : Int)))) (congrArg Value.bool (decide_eq_false (by omega))) ?_
        refine sE [(213,.bool false)] fun a hF => ?_
        refine tK ?_
        refine cF 213 hF ?_
        refine cN ?_
        refine n0 hF ?_
        exact ⟨L,hcut.done hk hj,own_d,g0⟩
       ·skip
        have hj := hcut.right hk (by omega)
        refine rS hF ?_
        refine t1 2 (.bool false) (.bool (decide (((mid : Nat) : Int) < ((e : Nat) : Int)))) (congrArg Value.bool (decide_eq_false (by omega))) ?_
        refine sE [(213,.bool false)] fun a hF => ?_
        refine tK ?_
        refine cF 213 hF ?_
        refine cN ?_
        refine n0 hF ?_
        exact ⟨L,hcut.done hk hj,own_d,g0⟩
      ·skip
       have hk := hcut.left (by omega)
       refine rS hF ?_
       refine t1 2 (.bool false) (.bool (decide (((la : Nat) : Int) < ((i : Nat) : Int)))) (congrArg Value.bool (decide_eq_false (by omega))) ?_
       refine sE [(199,.bool false)] fun a hF => ?_
       refine tK ?_
       refine cF 199 hF ?_
       refine cN ?_
       refine tK ?_
       refine cS ?_
       rcases Nat.lt_or_ge mid e with hc1 | hc1
       rcases Nat.lt_or_ge e lb with hc2 | hc2
       ·skip
        refine rS hF ?_
        refine t1 2 (.bool true) (.bool (decide (((mid : Nat) : Int) < ((e : Nat) : Int)))) (congrArg Value.bool (decide_eq_true (by omega))) ?_
        refine t1 6 (.bool true) (.bool (decide (((e : Nat) : Int) < ((lb : Nat) : Int)))) (congrArg Value.bool (decide_eq_true (by omega))) ?_
        refine sE [(213,.bool true)] fun a hF => ?_
        refine tK ?_
        refine cT 213 hF ?_
        refine rS hF ?_
        refine tG 5 (ih _ mid e lb L (by omega) own_d hk.len (by omega) (by omega) (by omega) (hcut.sort hk).1 (hcut.sort hk).2) ?_
        rintro _ h49 ⟨K48,hj,ownx,g⟩
        replace g0 := g0.trans g
        clear own_d; have own_d := ownx; clear ownx g
        refine sE [] fun a hF => ?_
        refine n0 hF ?_
        exact ⟨K48,hcut.done hk hj,own_d,g0⟩
       ·skip
        have hj := hcut.right hk (by omega)
        refine rS hF ?_
        refine t1 2 (.bool true) (.bool (decide (((mid : Nat) : Int) < ((e : Nat) : Int)))) (congrArg Value.bool (decide_eq_true (by omega))) ?_
        refine t1 6 (.bool false) (.bool (decide (((e : Nat) : Int) < ((lb : Nat) : Int)))) (congrArg Value.bool (decide_eq_false (by omega))) ?_
        refine sE [(213,.bool false)] fun a hF => ?_
        refine tK ?_
        refine cF 213 hF ?_
        refine cN ?_
        refine n0 hF ?_
        exact ⟨L,hcut.done hk hj,own_d,g0⟩
       ·skip
        have hj := hcut.right hk (by omega)
        refine rS hF ?_
        refine t1 2 (.bool false) (.bool (decide (((mid : Nat) : Int) < ((e : Nat) : Int)))) (congrArg Value.bool (decide_eq_false (by omega))) ?_
        refine sE [(213,.bool false)] fun a hF => ?_
        refine tK ?_
        refine cF 213 hF ?_
        refine cN ?_
        refine n0 hF ?_
        exact ⟨L,hcut.done hk hj,own_d,g0⟩
   ·skip
    refine qP [(20,nV la)] hF fun a hF => ?_
    refine rP [(21,nV lm)] hF fun a hF => ?_
    refine tK ?_
    refine qS hF ?_
    refine tU 1 (mid + lm) 1 ?_
    refine sT [(22,nV ((mid + lm) - 1))] fun a hF => ?_
    obtain ⟨s0,hs0⟩ : ∃ x,la = x := ⟨_,rfl⟩; obtain ⟨r0,hr0⟩ : ∃ x,lm = x := ⟨_,rfl⟩
    have hsr : (mid < lm ∧ s0 + lb = mid + lm ∧ r0 = mid) ∨ (lm ≤ mid ∧ s0 = la ∧ r0 = lm) := by omega
    have hsle : s0 ≤ r0 := by omega
    refine cS ?_
    refine cB 8 ?_
    refine cL (fun m a h' => ∃ i : Nat,∃ j : Nat,m = j - i ∧ (Grew (ad.map (fun (x : Addr) => x.block)) h h') ∧ (s0 ≤ i ∧ i ≤ j ∧ j ≤ r0) ∧ (i = s0 ∨ ¬ cbR (L.getD (mid + lm - 1 - (i - 1)) rec0) (L.getD (i - 1) rec0) < 0) ∧ (j = r0 ∨ cbR (L.getD (mid + lm - 1 - (j)) rec0) (L.getD (j) rec0) < 0) ∧ (Own h' (.slice ad n cap) 66 n 39 (rrow L)) ∧ (Fr a 220 [(0,.slice ad n cap),(1,.int .i64 ((la : Nat) : Int)),(2,.int .i64 ((lm : Nat) : Int)),(3,.int .i64 ((lb : Nat) : Int)),(4,.func (.func 58) #[] #[]),(18,.int .i64 ((mid : Nat) : Int)),(19,.int .i64 ((mid + lm : Nat) : Int)),(20,.int .i64 ((i : Nat) : Int)),(21,.int .i64 ((j : Nat) : Int)),(22,.int .i64 (((mid + lm) - 1 : Nat) : Int))])) (lm - la) ⟨la,lm,rfl,g0,(by omega),(.inl (by omega)),(.inl (by omega)),own_d,hF.to⟩ ?_
    clear hF a
    clear g0
    clear own_d
    rintro m a h50 ⟨i,j,rfl,g0,hij,hlo,hhi,own_d,hF⟩
    refine cS ?_
    refine qP [(151,.bool (decide (((i : Nat) : Int) < ((j : Nat) : Int))))] hF fun a hF => ?_
    refine cJ 151 hF (fun hc51 => ?_) fun hc51 => ?_
    ·skip
     have hijc : i < j := by omega
     obtain ⟨aa,rfl,hcap_aa⟩ := own_d.someA (by omega)
     refine cN ?_
     refine tK ?_
     refine cB 9 ?_
     refine qS hF ?_
     refine tA 2 i j ?_
     refine t1 3 (.int .u64 ((i + j : Nat) : Int)) (.int .u64 (IntKind.u64.wrap ((i + j : Nat) : Int))) (congrArg (Value.int .u64) (u64n (by omega))) ?_
     refine t1 4 (.int .u64 (((i + j) / 2 ^ 1 : Nat) : Int)) (.int .u64 (Int.fdiv ((i + j : Nat) : Int) (2 ^ 1))) (congrArg (Value.int .u64) (fdivN (i + j) 1)) ?_
     refine t1 5 (.int .i64 (((i + j) / 2 ^ 1 : Nat) : Int)) (.int .i64 (IntKind.i64.wrap (((i + j) / 2 ^ 1 : Nat) : Int))) (congrArg (Value.int .i64) (w64 (by omega) (by omega))) ?_
     refine sT [(23,nV ((i + j) / 2 ^ 1))] fun a hF => ?_
     obtain ⟨c,hc⟩ : ∃ x,(i + j) / 2 ^ 1 = x := ⟨_,rfl⟩; rw [hc] at hF
     have hcb : i ≤ c ∧ c < j := by omega
     refine cS ?_
     refine cD [0,0,0,0,12,30,62,0,0,384,896,2047,4095,8191] 35 mixed hF ?_
     refine mP 15 [0,1,2,3] [.func (.func 58) #[] #[],.slice (some aa) n cap,nV ((mid + lm) - 1),nV c] ?_
     refine m1 31 4 (.int .i64 ((((mid + lm) - 1) - c : Nat) : Int)) (.int .i64 (IntKind.i64.wrap ((((mid + lm) - 1 : Nat) : Int) - ((c : Nat) : Int)))) (congrArg (Value.int .i64) (w64' (by omega) (by omega) (by omega))) ?_
     refine mF 63 5 (.pointer (some (Addr.add aa ((((mid + lm) - 1) - c) * 39)))) (Calm.indexA (a := aa) (len := n) (sz := 39) (k := ((((mid + lm) - 1) - c : Nat) : Int)) (((mid + lm) - 1) - c) ((((mid + lm) - 1) - c) * 39) (by kernel_rfl) rfl (by omega) (by omega)) ?_
     refine mL 127 64 6 (.agg (rcs (L.getD (((mid + lm) - 1) - c) rec0)).toArray) (Calm.load (T := 66) (p := (Addr.add aa ((((mid + lm) - 1) - c) * 39))) (by kernel_rfl) (Row.fm (d := rec0) (i := (((mid + lm) - 1) - c)) rcs_len (own_d.row) (by kernel_rfl) (by omega) (by omega))) ?_
     refine mP 511 [7,8] [.slice (some aa) n cap,nV c] ?_
     refine mF 1023 9 (.pointer (some (Addr.add aa (c * 39)))) (Calm.indexA (a := aa) (len := n) (sz := 39) (k := ((c : Nat) : Int)) c (c * 39) (by kernel_rfl) rfl (by omega) (by omega)) ?_
     refine mL 2047 1088 10 (.agg (rcs (L.getD c rec0)).toArray) (Calm.load (T := 66) (p := (Addr.add aa (c * 39))) (by kernel_rfl) (Row.fm (d := rec0) (i := c) rcs_len (own_d.row) (by kernel_rfl) (by omega) (by omega))) ?_
     refine SimK.eff0 (i := 11) (D' := 4095) (X' := 4095) (by kernel_rfl) (by kernel_rfl) (by kernel_rfl) (by kernel_rfl) (Does.call (f := 58) (args := #[.agg (rcs (L.getD (((mid + lm) - 1) - c) rec0)).toArray,.agg (rcs (L.getD c rec0)).toArray]) (by kernel_rfl) (less_sat _ (L.getD (((mid + lm) - 1) - c) rec0) (L.getD c rec0))) ?_
     rintro _ h52 ⟨rfl,g⟩
     replace g0 := g0.trans (g.but _)
     replace own_d := own_d.ext g
     clear g
     refine mP 16383 [12,13] [.bool (decide ((cbR (L.getD (((mid + lm) - 1) - c) rec0) (L.getD c rec0)) < (0 : Int))),.bool (!(decide ((cbR (L.getD (((mid + lm) - 1) - c) rec0) (L.getD c rec0)) < (0 : Int))))] ?_
     refine mE [(171,.bool (!(decide ((cbR (L.getD (((mid + lm) - 1) - c) rec0) (L.getD c rec0)) < (0 : Int)))))] fun a hF => ?_
     refine tK ?_
     refine cC 171 (!(decide ((cbR (L.getD (((mid + lm) - 1) - c) rec0) (L.getD c rec0)) < (0 : Int)))) hF (fun hc53 => ?_) (fun hc53 => ?_)
     ·skip
      have hlo2 : c + 1 = s0 ∨ ¬ cbR (L.getD (mid + lm - 1 - (c + 1 - 1)) rec0) (L.getD (c + 1 - 1) rec0) < 0 := .inr (by rw [show mid + lm - 1 - (c + 1 - 1) = mid + lm - 1 - c by omega]; simpa using hc53)
      have hhi2 := hhi
      refine rS hF ?_
      refine tA 1 c 1 ?_
      refine sE [(20,nV (c + 1))] fun a hF => ?_
      refine bK ?_
      show ∃ m',m' < _ ∧ _
      refine ⟨_,?_,c + 1,j,rfl,g0,(by omega),hlo2,hhi2,own_d,hF.to⟩
      omega
     ·skip
      have hhi2 : c = r0 ∨ cbR (L.getD (mid + lm - 1 - (c)) rec0) (L.getD (c) rec0) < 0 := .inr (by simpa using hc53)
      have hlo2 := hlo
      refine rP [(21,nV c)] hF fun a hF => ?_
      refine bK ?_
      show ∃ m',m' < _ ∧ _
      refine ⟨_,?_,i,c,rfl,g0,(by omega),hlo2,hhi2,own_d,hF.to⟩
      omega
    ·skip
     obtain rfl : i = j := by omega
     refine cX 8 (xT (xT (xB ?_)))
     refine tK ?_
     refine qS hF ?_
     refine tU 2 (mid + lm) i ?_
     refine sT [(24,nV ((mid + lm) - i))] fun a hF => ?_
     obtain ⟨e,he⟩ : ∃ x,(mid + lm) - i = x := ⟨_,rfl⟩; rw [he] at hF
     have ham : la ≤ i ∧ i ≤ lm ∧ lm ≤ e ∧ e ≤ lb ∧ i ≤ mid ∧ mid ≤ e ∧ i + e = mid + lm := by omega
     have hlo3 : i = la ∨ e = lb ∨ leR (L.getD (i - 1) rec0) (L.getD e rec0) := by
      rcases hlo with z | z
      ·omega
      ·by_cases hi0 : i = la
       ·exact .inl hi0
       ·rw [show mid + lm - 1 - (i - 1) = e by omega] at z; exact .inr (.inr (leR_of_not z))
     have hhi3 : i = lm ∨ i = mid ∨ leR (L.getD (e - 1) rec0) (L.getD i rec0) := by
      rcases hhi with z | z
      ·omega
      ·rw [show mid + lm - 1 - i = e - 1 by omega] at z; exact .inr (.inr (leR_of_lt z))
     refine cS ?_
     refine cS ?_
     rcases Nat.lt_or_ge i lm with hc1 | hc1
     rcases Nat.lt_or_ge lm e with hc2 | hc2
     ·skip
      refine rS hF ?_
      refine t1 2 (.bool true) (.bool (decide (((i : Nat) : Int) < ((lm : Nat) : Int)))) (congrArg Value.bool (decide_eq_true (by omega))) ?_
      refine t1 6 (.bool true) (.bool (decide (((lm : Nat) : Int) < ((e : Nat) : Int)))) (congrArg Value.bool (decide_eq_true (by omega))) ?_
      refine sE [(185,.bool true)] fun a hF => ?_
      refine tK ?_
      refine cT 185 hF ?_
      refine rS hF ?_
      refine tG 5 (rot_sat _ ad cap n i lm e L own_d hLn (by omega) (by omega) (by omega) (by omega)) ?_
      rintro _ h55 ⟨K54,hM,hP,hx,ownx,g⟩
      replace g0 := g0.trans g
      clear own_d; have own_d := ownx; clear ownx g
      have hcut : Cut n la lm lb mid i e L K54 := ⟨hM,hP,hx,hs1,hs2,ham,hlo3,hhi3⟩
      refine sE [] fun a hF => ?_
      refine tK ?_
      refine cS ?_
      refine cS ?_
      rcases Nat.lt_or_ge la i with hc1 | hc1
      rcases Nat.lt_or_ge i mid with hc2 | hc2
      ·skip
       refine rS hF ?_
       refine t1 2 (.bool true) (.bool (decide (((la : Nat) : Int) < ((i : Nat) : Int)))) (congrArg Value.bool (decide_eq_true (by omega))) ?_
       refine t1 6 (.bool true) (.bool (decide (((i : Nat) : Int) < ((mid : Nat) : Int)))) (congrArg Value.bool (decide_eq_true (by omega))) ?_
       refine sE [(199,.bool true)] fun a hF => ?_
       refine tK ?_
       refine cT 199 hF ?_
       refine rS hF ?_
       refine tG 5 (ih _ la i mid K54 (by omega) own_d hcut.len (by omega) (by omega) (by omega) hcut.r1 hcut.r2) ?_
       rintro _ h57 ⟨K56,hk,ownx,g⟩
       replace g0 := g0.trans g
       clear own_d; have own_d := ownx; clear ownx g
       refine sE [] fun a hF => ?_
       refine tK ?_
       refine cS ?_
       rcases Nat.lt_or_ge mid e with hc1 | hc1
       rcases Nat.lt_or_ge e lb with hc2 | hc2
       ·skip
        refine rS hF ?_
        refine t1 2 (.bool true) (.bool (decide (((mid : Nat) : Int) < ((e : Nat) : Int)))) (congrArg Value.bool (decide_eq_true (by omega))) ?_
        refine t1 6 (.bool true) (.bool (decide (((e : Nat) : Int) < ((lb : Nat) : Int)))) (congrArg Value.bool (decide_eq_true (by omega))) ?_
        refine sE [(213,.bool true)] fun a hF => ?_
        refine tK ?_
        refine cT 213 hF ?_
        refine rS hF ?_
        refine tG 5 (ih _ mid e lb K56 (by omega) own_d hk.len (by omega) (by omega) (by omega) (hcut.sort hk).1 (hcut.sort hk).2) ?_
        rintro _ h59 ⟨K58,hj,ownx,g⟩
        replace g0 := g0.trans g
        clear own_d; have own_d := ownx; clear ownx g
        refine sE [] fun a hF => ?_
        refine n0 hF ?_
        exact ⟨K58,hcut.done hk hj,own_d,g0⟩
       ·skip
        have hj := hcut.right hk (by omega)
        refine rS hF ?_
        refine t1 2 (.bool true) (.bool (decide (((mid : Nat) : Int) < ((e : Nat) : Int)))) (congrArg Value.bool (decide_eq_true (by omega))) ?_
        refine t1 6 (.bool false) (.bool (decide (((e : Nat) : Int) < ((lb : Nat) : Int)))) (congrArg Value.bool (decide_eq_false (by omega))) ?_
        refine sE [(213,.bool false)] fun a hF => ?_
        refine tK ?_
        refine cF 213 hF ?_
        refine cN ?_
        refine n0 hF ?_
        exact ⟨K56,hcut.done hk hj,own_d,g0⟩
       ·skip
        have hj := hcut.right hk (by omega)
        refine rS hF ?_
        refine t1 2 (.bool false) (.bool (decide (((mid : Nat) : Int) < ((e : Nat) : Int)))) (congrArg Value.bool (decide_eq_false (by omega))) ?_
        refine sE [(213,.bool false)] fun a hF => ?_
        refine tK ?_
        refine cF 213 hF ?_
        refine cN ?_
        refine n0 hF ?_
        exact ⟨K56,hcut.done hk hj,own_d,g0⟩
      ·skip
       have hk := hcut.left (by omega)
       refine rS hF ?_
       refine t1 2 (.bool true) (.bool (decide (((la : Nat) : Int) < ((i : Nat) : Int)))) (congrArg Value.bool (decide_eq_true (by omega))) ?_
       refine t1 6 (.bool false) (.bool (decide (((i : Nat) : Int) < ((mid : Nat) : Int)))) (congrArg Value.bool (decide_eq_false (by omega))) ?_
       refine sE [(199,.bool false)] fun a hF => ?_
       refine tK ?_
       refine cF 199 hF ?_
       refine cN ?_
       refine tK ?_
       refine cS ?_
       rcases Nat.lt_or_ge mid e with hc1 | hc1
       rcases Nat.lt_or_ge e lb with hc2 | hc2
       ·skip
        refine rS hF ?_
        refine t1 2 (.bool true) (.bool (decide (((mid : Nat) : Int) < ((e : Nat) : Int)))) (congrArg Value.bool (decide_eq_true (by omega))) ?_
        refine t1 6 (.bool true) (.bool (decide (((e : Nat) : Int) < ((lb : Nat) : Int)))) (congrArg Value.bool (decide_eq_true (by omega))) ?_
        refine sE [(213,.bool true)] fun a hF => ?_
        refine tK ?_
        refine cT 213 hF ?_
        refine rS hF ?_
        refine tG 5 (ih _ mid e lb K54 (by omega) own_d hk.len (by omega) (by omega) (by omega) (hcut.sort hk).1 (hcut.sort hk).2) ?_
        rintro _ h61 ⟨K60,hj,ownx,g⟩
        replace g0 := g0.trans g
        clear own_d; have own_d := ownx; clear ownx g
        refine sE [] fun a hF => ?_
        refine n0 hF ?_
        exact ⟨K60,hcut.done hk hj,own_d,g0⟩
       ·skip
        have hj := hcut.right hk (by omega)
        refine rS hF ?_
        refine t1 2 (.bool true) (.bool (decide (((mid : Nat) : Int) < ((e : Nat) : Int)))) (congrArg Value.bool (decide_eq_true (by omega))) ?_
        refine t1 6 (.bool false) (.bool (decide (((e : Nat) : Int) < ((lb : Nat) : Int)))) (congrArg Value.bool (decide_eq_false (by omega))) ?_
        refine sE [(213,.bool false)] fun a hF => ?_
        refine tK ?_
        refine cF 213 hF ?_
        refine cN ?_
        refine n0 hF ?_
        exact ⟨K54,hcut.done hk hj,own_d,g0⟩
       ·skip
        have hj := hcut.right hk (by omega)
        refine rS hF ?_
        refine t1 2 (.bool false) (.bool (decide (((mid : Nat) : Int) < ((e : Nat) : Int)))) (congrArg Value.bool (decide_eq_false (by omega))) ?_
        refine sE [(213,.bool false)] fun a hF => ?_
        refine tK ?_
        refine cF 213 hF ?_
        refine cN ?_
        refine n0 hF ?_
        exact ⟨K54,hcut.done hk hj,own_d,g0⟩
      ·skip
       have hk := hcut.left (by omega)
       refine rS hF ?_
       refine t1 2 (.bool false) (.bool (decide (((la : Nat) : Int) < ((i : Nat) : Int)))) (congrArg Value.bool (decide_eq_false (by omega))) ?_
       refine sE [(199,.bool false)] fun a hF => ?_
       refine tK ?_
       refine cF 199 hF ?_
       refine cN ?_
       refine tK ?_
       refine cS ?_
       rcases Nat.lt_or_ge mid e with hc1 | hc1
       rcases Nat.lt_or_ge e lb with hc2 | hc2
       ·skip
        refine rS hF ?_
        refine t1 2 (.bool true) (.bool (decide (((mid : Nat) : Int) < ((e : Nat) : Int)))) (congrArg Value.bool (decide_eq_true (by omega))) ?_
        refine t1 6 (.bool true) (.bool (decide (((e : Nat) : Int) < ((lb : Nat) : Int)))) (congrArg Value.bool (decide_eq_true (by omega))) ?_
        refine sE [(213,.bool true)] fun a hF => ?_
        refine tK ?_
        refine cT 213 hF ?_
        refine rS hF ?_
        refine tG 5 (ih _ mid e lb K54 (by omega) own_d hk.len (by omega) (by omega) (by omega) (hcut.sort hk).1 (hcut.sort hk).2) ?_
        rintro _ h63 ⟨K62,hj,ownx,g⟩
        replace g0 := g0.trans g
        clear own_d; have own_d := ownx; clear ownx g
        refine sE [] fun a hF => ?_
        refine n0 hF ?_
        exact ⟨K62,hcut.done hk hj,own_d,g0⟩
       ·skip
        have hj := hcut.right hk (by omega)
        refine rS hF ?_
        refine t1 2 (.bool true) (.bool (decide (((mid : Nat) : Int) < ((e : Nat) : Int)))) (congrArg Value.bool (decide_eq_true (by omega))) ?_
        refine t1 6 (.bool false) (.bool (decide (((e : Nat) : Int) < ((lb : Nat) : Int)))) (congrArg Value.bool (decide_eq_false (by omega))) ?_
        refine sE [(213,.bool false)] fun a hF => ?_
        refine tK ?_
        refine cF 213 hF ?_
        refine cN ?_
        refine n0 hF ?_
        exact ⟨K54,hcut.done hk hj,own_d,g0⟩
       ·skip
        have hj := hcut.right hk (by omega)
        refine rS hF ?_
        refine t1 2 (.bool false) (.bool (decide (((mid : Nat) : Int) < ((e : Nat) : Int)))) (congrArg Value.bool (decide_eq_false (by omega))) ?_
        refine sE [(213,.bool false)] fun a hF => ?_
        refine tK ?_
        refine cF 213 hF ?_
        refine cN ?_
        refine n0 hF ?_
        exact ⟨K54,hcut.done hk hj,own_d,g0⟩
     ·skip
      have hcut : Cut n la lm lb mid i e L L := ⟨hLn,List.Perm.refl _,Idx.refl _ (rtx_none (by omega)),hs1,hs2,ham,hlo3,hhi3⟩
      refine rS hF ?_
      refine t1 2 (.bool true) (.bool (decide (((i : Nat) : Int) < ((lm : Nat) : Int)))) (congrArg Value.bool (decide_eq_true (by omega))) ?_
      refine t1 6 (.bool false) (.bool (decide (((lm : Nat) : Int) < ((e : Nat) : Int)))) (congrArg Value.bool (decide_eq_false (by omega))) ?_
      refine sE [(185,.bool false)] fun a hF => ?_
      refine tK ?_
      refine cF 185 hF ?_
      refine cN ?_
      refine tK ?_
      refine cS ?_
      refine cS ?_
      rcases Nat.lt_or_ge la i with hc1 | hc1
      rcases Nat.lt_or_ge i mid with hc2 | hc2
      ·skip
       refine rS hF ?_
       refine t1 2 (.bool true) (.bool (decide (((la : Nat) : Int) < ((i : Nat) : Int)))) (congrArg Value.bool (decide_eq_true (by omega))) ?_
       refine t1 6 (.bool true) (.bool (decide (((i : Nat) : Int) < ((mid : Nat) : Int)))) (congrArg Value.bool (decide_eq_true (by omega))) ?_
       refine sE [(199,.bool true)] fun a hF => ?_
       refine tK ?_
       refine cT 199 hF ?_
       refine rS hF ?_
       refine tG 5 (ih _ la i mid L (by omega) own_d hcut.len (by omega) (by omega) (by omega) hcut.r1 hcut.r2) ?_
       rintro _ h65 ⟨K64,hk,ownx,g⟩
       replace g0 := g0.trans g
       clear own_d; have own_d := ownx; clear ownx g
       refine sE [] fun a hF => ?_
       refine tK ?_
       refine cS ?_
       rcases Nat.lt_or_ge mid e with hc1 | hc1
       rcases Nat.lt_or_ge e lb with hc2 | hc2
       ·skip
        refine rS hF ?_
        refine t1 2 (.bool true) (.bool (decide (((mid : Nat) : Int) < ((e : Nat) : Int)))) (congrArg Value.bool (decide_eq_true (by omega))) ?_
        refine t1 6 (.bool true) (.bool (decide (((e : Nat) : Int) < ((lb : Nat) : Int)))) (congrArg Value.bool (decide_eq_true (by omega))) ?_
        refine sE [(213,.bool true)] fun a hF => ?_
        refine tK ?_
        refine cT 213 hF ?_
        refine rS hF ?_
        refine tG 5 (ih _ mid e lb K64 (by omega) own_d hk.len (by omega) (by omega) (by omega) (hcut.sort hk).1 (hcut.sort hk).2) ?_
        rintro _ h67 ⟨K66,hj,ownx,g⟩
        replace g0 := g0.trans g
        clear own_d; have own_d := ownx; clear ownx g
        refine sE [] fun a hF => ?_
        refine n0 hF ?_
        exact ⟨K66,hcut.done hk hj,own_d,g0⟩
       ·skip
        have hj := hcut.right hk (by omega)
        refine rS hF ?_
        refine t1 2 (.bool true) (.bool (decide (((mid : Nat) : Int) < ((e : Nat) : Int)))) (congrArg Value.bool (decide_eq_true (by omega))) ?_
        refine t1 6 (.bool false) (.bool (decide (((e : Nat) : Int) < ((lb : Nat) : Int)))) (congrArg Value.bool (decide_eq_false (by omega))) ?_
        refine sE [(213,.bool false)] fun a hF => ?_
        refine tK ?_
        refine cF 213 hF ?_
        refine cN ?_
        refine n0 hF ?_
        exact ⟨K64,hcut.done hk hj,own_d,g0⟩
       ·skip
        have hj := hcut.right hk (by omega)
        refine rS hF ?_
        refine t1 2 (.bool false) (.bool (decide (((mid : Nat) : Int) < ((e : Nat) : Int)))) (congrArg Value.bool (decide_eq_false (by omega))) ?_
        refine sE [(213,.bool false)] fun a hF => ?_
        refine tK ?_
        refine cF 213 hF ?_
        refine cN ?_
        refine n0 hF ?_
        exact ⟨K64,hcut.done hk hj,own_d,g0⟩
      ·skip
       have hk := hcut.left (by omega)
       refine rS hF ?_
       refine t1 2 (.bool true) (.bool (decide (((la : Nat) : Int) < ((i : Nat) : Int)))) (congrArg Value.bool (decide_eq_true (by omega))) ?_
       refine t1 6 (.bool false) (.bool (decide (((i : Nat) : Int) < ((mid : Nat) : Int)))) (congrArg Value.bool (decide_eq_false (by omega))) ?_
       refine sE [(199,.bool false)] fun a hF => ?_
       refine tK ?_
       refine cF 199 hF ?_
       refine cN ?_
       refine tK ?_
       refine cS ?_
       rcases Nat.lt_or_ge mid e with hc1 | hc1
       rcases Nat.lt_or_ge e lb with hc2 | hc2
       ·skip
        refine rS hF ?_
        refine t1 2 (.bool true) (.bool (decide (((mid : Nat) : Int) < ((e : Nat) : Int)))) (congrArg Value.bool (decide_eq_true (by omega))) ?_
        refine t1 6 (.bool true) (.bool (decide (((e : Nat) : Int) < ((lb : Nat) : Int)))) (congrArg Value.bool (decide_eq_true (by omega))) ?_
        refine sE [(213,.bool true)] fun a hF => ?_
        refine tK ?_
        refine cT 213 hF ?_
        refine rS hF ?_
        refine tG 5 (ih _ mid e lb L (by omega) own_d hk.len (by omega) (by omega) (by omega) (hcut.sort hk).1 (hcut.sort hk).2) ?_
        rintro _ h69 ⟨K68,hj,ownx,g⟩
        replace g0 := g0.trans g
        clear own_d; have own_d := ownx; clear ownx g
        refine sE [] fun a hF => ?_
        refine n0 hF ?_
        exact ⟨K68,hcut.done hk hj,own_d,g0⟩
       ·skip
        have hj := hcut.right hk (by omega)
        refine rS hF ?_
        refine t1 2 (.bool true) (.bool (decide (((mid : Nat) : Int) < ((e : Nat) : Int)))) (congrArg Value.bool (decide_eq_true (by omega))) ?_
        refine t1 6 (.bool false) (.bool (decide (((e : Nat) : Int) < ((lb : Nat) : Int)))) (congrArg Value.bool (decide_eq_false (by omega))) ?_
        refine sE [(213,.bool false)] fun a hF => ?_
        refine tK ?_
        refine cF 213 hF ?_
        refine cN ?_
        refine n0 hF ?_
        exact ⟨L,hcut.done hk hj,own_d,g0⟩
       ·skip
        have hj := hcut.right hk (by omega)
        refine rS hF ?_
        refine t1 2 (.bool false) (.bool (decide (((mid : Nat) : Int) < ((e : Nat) : Int)))) (congrArg Value.bool (decide_eq_false (by omega))) ?_
        refine sE [(213,.bool false)] fun a hF => ?_
        refine tK ?_
        refine cF 213 hF ?_
        refine cN ?_
        refine n0 hF ?_
        exact ⟨L,hcut.done hk hj,own_d,g0⟩
      ·skip
       have hk := hcut.left (by omega)
       refine rS hF ?_
       refine t1 2 (.bool false) (.bool (decide (((la : Nat) : Int) < ((i : Nat) : Int)))) (congrArg Value.bool (decide_eq_false (by omega))) ?_
       refine sE [(199,.bool false)] fun a hF => ?_
       refine tK ?_
       refine cF 199 hF ?_
       refine cN ?_
       refine tK ?_
       refine cS ?_
       rcases Nat.lt_or_ge mid e with hc1 | hc1
       rcases Nat.lt_or_ge e lb with hc2 | hc2
       ·skip
        refine rS hF ?_
        refine t1 2 (.bool true) (.bool (decide (((mid : Nat) : Int) < ((e : Nat) : Int)))) (congrArg Value.bool (decide_eq_true (by omega))) ?_
        refine t1 6 (.bool true) (.bool (decide (((e : Nat) : Int) < ((lb : Nat) : Int)))) (congrArg Value.bool (decide_eq_true (by omega))) ?_
        refine sE [(213,.bool true)] fun a hF => ?_
        refine tK ?_
        refine cT 213 hF ?_
        refine rS hF ?_
        refine tG 5 (ih _ mid e lb L (by omega) own_d hk.len (by omega) (by omega) (by omega) (hcut.sort hk).1 (hcut.sort hk).2) ?_
        rintro _ h71 ⟨K70,hj,ownx,g⟩
        replace g0 := g0.trans g
        clear own_d; have own_d := ownx; clear ownx g
        refine sE [] fun a hF => ?_
        refine n0 hF ?_
        exact ⟨K70,hcut.done hk hj,own_d,g0⟩
       ·skip
        have hj := hcut.right hk (by omega)
        refine rS hF ?_
        refine t1 2 (.bool true) (.bool (decide (((mid : Nat) : Int) < ((e : Nat) : Int)))) (congrArg Value.bool (decide_eq_true (by omega))) ?_
        refine t1 6 (.bool false) (.bool (decide (((e : Nat) : Int) < ((lb : Nat) : Int)))) (congrArg Value.bool (decide_eq_false (by omega))) ?_
        refine sE [(213,.bool false)] fun a hF => ?_
        refine tK ?_
        refine cF 213 hF ?_
        refine cN ?_
        refine n0 hF ?_
        exact ⟨L,hcut.done hk hj,own_d,g0⟩
       ·skip
        have hj := hcut.right hk (by omega)
        refine rS hF ?_
        refine t1 2 (.bool false) (.bool (decide (((mid : Nat) : Int) < ((e : Nat) : Int)))) (congrArg Value.bool (decide_eq_false (by omega))) ?_
        refine sE [(213,.bool false)] fun a hF => ?_
        refine tK ?_
        refine cF 213 hF ?_
        refine cN ?_
        refine n0 hF ?_
        exact ⟨L,hcut.done hk hj,own_d,g0⟩
     ·skip
      have hcut : Cut n la lm lb mid i e L L := ⟨hLn,List.Perm.refl _,Idx.refl _ (rtx_none (by omega)),hs1,hs2,ham,hlo3,hhi3⟩
      refine rS hF ?_
      refine t1 2 (.bool false) (.bool (decide (((i : Nat) : Int) < ((lm : Nat) : Int)))) (congrArg Value.bool (decide_eq_false (by omega))) ?_
      refine sE [(185,.bool false)] fun a hF => ?_
      refine tK ?_
      refine cF 185 hF ?_
      refine cN ?_
      refine tK ?_
      refine cS ?_
      refine cS ?_
      rcases Nat.lt_or_ge la i with hc1 | hc1
      rcases Nat.lt_or_ge i mid with hc2 | hc2
      ·skip
       refine rS hF ?_
       refine t1 2 (.bool true) (.bool (decide (((la : Nat) : Int) < ((i : Nat) : Int)))) (congrArg Value.bool (decide_eq_true (by omega))) ?_
       refine t1 6 (.bool true) (.bool (decide (((i : Nat) : Int) < ((mid : Nat) : Int)))) (congrArg Value.bool (decide_eq_true (by omega))) ?_
       refine sE [(199,.bool true)] fun a hF => ?_
       refine tK ?_
       refine cT 199 hF ?_
       refine rS hF ?_
       refine tG 5 (ih _ la i mid L (by omega) own_d hcut.len (by omega) (by omega) (by omega) hcut.r1 hcut.r2) ?_
       rintro _ h73 ⟨K72,hk,ownx,g⟩
       replace g0 := g0.trans g
       clear own_d; have own_d := ownx; clear ownx g
       refine sE [] fun a hF => ?_
       refine tK ?_
       refine cS ?_
       rcases Nat.lt_or_ge mid e with hc1 | hc1
       rcases Nat.lt_or_ge e lb with hc2 | hc2
       ·skip
        refine rS hF ?_
        refine t1 2 (.bool true) (.bool (decide (((mid : Nat) : Int) < ((e : Nat) : Int)))) (congrArg Value.bool (decide_eq_true (by omega))) ?_
        refine t1 6 (.bool true) (.bool (decide (((e : Nat) : Int) < ((lb : Nat) : Int)))) (congrArg Value.bool (decide_eq_true (by omega))) ?_
        refine sE [(213,.bool true)] fun a hF => ?_
        refine tK ?_
        refine cT 213 hF ?_
        refine rS hF ?_
        refine tG 5 (ih _ mid e lb K72 (by omega) own_d hk.len (by omega) (by omega) (by omega) (hcut.sort hk).1 (hcut.sort hk).2) ?_
        rintro _ h75 ⟨K74,hj,ownx,g⟩
        replace g0 := g0.trans g
        clear own_d; have own_d := ownx; clear ownx g
        refine sE [] fun a hF => ?_
        refine n0 hF ?_
        exact ⟨K74,hcut.done hk hj,own_d,g0⟩
       ·skip
        have hj := hcut.right hk (by omega)
        refine rS hF ?_
        refine t1 2 (.bool true) (.bool (decide (((mid : Nat) : Int) < ((e : Nat) : Int)))) (congrArg Value.bool (decide_eq_true (by omega))) ?_
        refine t1 6 (.bool false) (.bool (decide (((e : Nat) : Int) < ((lb : Nat) : Int)))) (congrArg Value.bool (decide_eq_false (by omega))) ?_
        refine sE [(213,.bool false)] fun a hF => ?_
        refine tK ?_
        refine cF 213 hF ?_
        refine cN ?_
        refine n0 hF ?_
        exact ⟨K72,hcut.done hk hj,own_d,g0⟩
       ·skip
        have hj := hcut.right hk (by omega)
        refine rS hF ?_
        refine t1 2 (.bool false) (.bool (decide (((mid : Nat) : Int) < ((e : Nat) : Int)))) (congrArg Value.bool (decide_eq_false (by omega))) ?_
        refine sE [(213,.bool false)] fun a hF => ?_
        refine tK ?_
        refine cF 213 hF ?_
        refine cN ?_
        refine n0 hF ?_
        exact ⟨K72,hcut.done hk hj,own_d,g0⟩
      ·skip
       have hk := hcut.left (by omega)
       refine rS hF ?_
       refine t1 2 (.bool true) (.bool (decide (((la : Nat) : Int) < ((i : Nat) : Int)))) (congrArg Value.bool (decide_eq_true (by omega))) ?_
       refine t1 6 (.bool false) (.bool (decide (((i : Nat) : Int) < ((mid : Nat) : Int)))) (congrArg Value.bool (decide_eq_false (by omega))) ?_
       refine sE [(199,.bool false)] fun a hF => ?_
       refine tK ?_
       refine cF 199 hF ?_
       refine cN ?_
       refine tK ?_
       refine cS ?_
       rcases Nat.lt_or_ge mid e with hc1 | hc1
       rcases Nat.lt_or_ge e lb with hc2 | hc2
       ·skip
        refine rS hF ?_
        refine t1 2 (.bool true) (.bool (decide (((mid : Nat) : Int) < ((e : Nat) : Int)))) (congrArg Value.bool (decide_eq_true (by omega))) ?_
        refine t1 6 (.bool true) (.bool (decide (((e : Nat) : Int) < ((lb : Nat) : Int)))) (congrArg Value.bool (decide_eq_true (by omega))) ?_
        refine sE [(213,.bool true)] fun a hF => ?_
        refine tK ?_
        refine cT 213 hF ?_
        refine rS hF ?_
        refine tG 5 (ih _ mid e lb L (by omega) own_d hk.len (by omega) (by omega) (by omega) (hcut.sort hk).1 (hcut.sort hk).2) ?_
        rintro _ h77 ⟨K76,hj,ownx,g⟩
        replace g0 := g0.trans g
        clear own_d; have own_d := ownx; clear ownx g
        refine sE [] fun a hF => ?_
        refine n0 hF ?_
        exact ⟨K76,hcut.done hk hj,own_d,g0⟩
       ·skip
        have hj := hcut.right hk (by omega)
        refine rS hF ?_
        refine t1 2 (.bool true) (.bool (decide (((mid : Nat) : Int) < ((e : Nat) : Int)))) (congrArg Value.bool (decide_eq_true (by omega))) ?_
        refine t1 6 (.bool false) (.bool (decide (((e : Nat) : Int) < ((lb : Nat) : Int)))) (congrArg Value.bool (decide_eq_false (by omega))) ?_
        refine sE [(213,.bool false)] fun a hF => ?_
        refine tK ?_
        refine cF 213 hF ?_
        refine cN ?_
        refine n0 hF ?_
        exact ⟨L,hcut.done hk hj,own_d,g0⟩
       ·skip
        have hj := hcut.right hk (by omega)
        refine rS hF ?_
        refine t1 2 (.bool false) (.bool (decide (((mid : Nat) : Int) < ((e : Nat) : Int)))) (congrArg Value.bool (decide_eq_false (by omega))) ?_
        refine sE [(213,.bool false)] fun a hF => ?_
        refine tK ?_
        refine cF 213 hF ?_
        refine cN ?_
        refine n0 hF ?_
        exact ⟨L,hcut.done hk hj,own_d,g0⟩
      ·skip
       have hk := hcut.left (by omega)
       refine rS hF ?_
       refine t1 2 (.bool false) (.bool (decide (((la : Nat) : Int) < ((i : Nat) : Int)))) (congrArg Value.bool (decide_eq_false (by omega))) ?_
       refine sE [(199,.bool false)] fun a hF => ?_
       refine tK ?_
       refine cF 199 hF ?_
       refine cN ?_
       refine tK ?_
       refine cS ?_
       rcases Nat.lt_or_ge mid e with hc1 | hc1
       rcases Nat.lt_or_ge e lb with hc2 | hc2
       ·skip
        refine rS hF ?_
        refine t1 2 (.bool true) (.bool (decide (((mid : Nat) : Int) < ((e : Nat) : Int)))) (congrArg Value.bool (decide_eq_true (by omega))) ?_
        refine t1 6 (.bool true) (.bool (decide (((e : Nat) : Int) < ((lb : Nat) : Int)))) (congrArg Value.bool (decide_eq_true (by omega))) ?_
        refine sE [(213,.bool true)] fun a hF => ?_
        refine tK ?_
        refine cT 213 hF ?_
        refine rS hF ?_
        refine tG 5 (ih _ mid e lb L (by omega) own_d hk.len (by omega) (by omega) (by omega) (hcut.sort hk).1 (hcut.sort hk).2) ?_
        rintro _ h79 ⟨K78,hj,ownx,g⟩
        replace g0 := g0.trans g
        clear own_d; have own_d := ownx; clear ownx g
        refine sE [] fun a hF => ?_
        refine n0 hF ?_
        exact ⟨K78,hcut.done hk hj,own_d,g0⟩
       ·skip
        have hj := hcut.right hk (by omega)
        refine rS hF ?_
        refine t1 2 (.bool true) (.bool (decide (((mid : Nat) : Int) < ((e : Nat) : Int)))) (congrArg Value.bool (decide_eq_true (by omega))) ?_
        refine t1 6 (.bool false) (.bool (decide (((e : Nat) : Int) < ((lb : Nat) : Int)))) (congrArg Value.bool (decide_eq_false (by omega))) ?_
        refine sE [(213,.bool false)] fun a hF => ?_
        refine tK ?_
        refine cF 213 hF ?_
        refine cN ?_
        refine n0 hF ?_
        exact ⟨L,hcut.done hk hj,own_d,g0⟩
       ·skip
        have hj := hcut.right hk (by omega)
        refine rS hF ?_
        refine t1 2 (.bool false) (.bool (decide (((mid : Nat) : Int) < ((e : Nat) : Int)))) (congrArg Value.bool (decide_eq_false (by omega))) ?_
        refine sE [(213,.bool false)] fun a hF => ?_
        refine tK ?_
        refine cF 213 hF ?_
        refine cN ?_
        refine n0 hF ?_
        exact ⟨L,hcut.done hk hj,own_d,g0⟩
theorem sym_all (ad : Option Addr) (cap n : Nat) (hn : n ≤ 1099511627776) : ∀ (k : Nat),∀ (h : Heap) (a m b : Nat) (L : List Rec),b - a ≤ k → Own h (.slice ad n cap) 66 n 39 (rrow L) → L.length = n → a < m → m < b → b ≤ n → SrtOn L a m → SrtOn L m b → Sat Tryd.prog 92 #[.slice ad n cap,.int .i64 ((a : Nat) : Int),.int .i64 ((m : Nat) : Int),.int .i64 ((b : Nat) : Int),.func (.func 58) #[] #[]] h fun _ h' => ∃ M,Mgd n a b L M ∧ Own h' (.slice ad n cap) 66 n 39 (rrow M) ∧ Grew (ad.map (fun (x : Addr) => x.block)) h h'
 | 0,_,_,_,_,_,hk,_,_,h1,h2,_,_,_ => by omega
 | k + 1,h,a,m,b,L,hk,o,hL,h1,h2,h3,h4,h5 => sym_step h ad cap n a m b L o hL h1 h2 h3 hn h4 h5 fun h a' m' b' L hlt => sym_all ad cap n hn k h a' m' b' L (by omega)
theorem sym_sat (ad : Option Addr) (cap n : Nat) (hn : n ≤ 1099511627776) : ∀ (h : Heap) (a m b : Nat) (L : List Rec),Own h (.slice ad n cap) 66 n 39 (rrow L) → L.length = n → a < m → m < b → b ≤ n → SrtOn L a m → SrtOn L m b → Sat Tryd.prog 92 #[.slice ad n cap,.int .i64 ((a : Nat) : Int),.int .i64 ((m : Nat) : Int),.int .i64 ((b : Nat) : Int),.func (.func 58) #[] #[]] h fun _ h' => ∃ M,Mgd n a b L M ∧ Own h' (.slice ad n cap) 66 n 39 (rrow M) ∧ Grew (ad.map (fun (x : Addr) => x.block)) h h' := fun h a m b L => sym_all ad cap n hn (b - a) h a m b L (Nat.le_refl _)
end Go.Proofs.YtegkejcglfgpmaaDoor
end
section
namespace Go.Proofs.YtegkejcglfgpmaaDoor
open Go Go.Lane Go.Sha
noncomputable def b74' : Code := Tryd.f74.body.getD .skip
set_option maxHeartbeats 2000000 in
theorem stable_sat (h : Heap) (ad : Option Addr) (cap n : Nat) (L : List Rec) (own_d : Own h (.slice ad n cap) 66 n 39 (rrow L)) (hLn : L.length = n) (hn : n ≤ 1099511627776) : Sat Tryd.prog 74 #[.slice ad n cap,.int .i64 ((n : Nat) : Int),.func (.func 58) #[] #[]] h fun _ h' => ∃ M,M.length = n ∧ M.Perm L ∧ SrtOn M 0 n ∧ Own h' (.slice ad n cap) 66 n 39 (rrow M) ∧ Grew (ad.map (fun (x : Addr) => x.block)) h h' := by
 have g0 := Grew.refl (ad.map (fun (x : Addr) => x.block)) h
 refine sat_in Tryd.func74 63 fun a hF => ?_
 refine qP [(6,.int .i64 20)] hF fun a hF => ?_
 refine qP [(7,.int .i64 0),(8,.int .i64 20)] hF fun a hF => ?_
 refine cS ?_
 refine cB 0 ?_
 refine cL (fun m a h' => ∃ a1 : Nat,∃ M : List Rec,m = n - a1 ∧ (Grew (ad.map (fun (x : Addr) => x.block)) h h') ∧ (∃ t,a1 = t * 20) ∧ (a1 ≤ n) ∧ (M.length = n) ∧ (M.Perm L) ∧ (Blk M 20 0 a1) ∧ (Own h' (.slice ad n cap) 66 n 39 (rrow M)) ∧ (Fr a 63 [(0,.slice ad n cap),(1,.int .i64 ((n : Nat) : Int)),(2,.func (.func 58) #[] #[]),(6,.int .i64 20),(7,.int .i64 ((a1 : Nat) : Int)),(8,.int .i64 ((a1 + 20 : Nat) : Int))])) (n - 0) ⟨0,L,rfl,g0,⟨0,rfl⟩,(by omega),hLn,(List.Perm.refl _),(Blk.nil _ _ _),own_d,hF.to⟩ ?_
 clear hF a
 clear g0
 clear hLn
 clear own_d
 rintro m a h1 ⟨a1,M,rfl,g0,hat,han,hM,hP,hblk,own_d,hF⟩
 obtain ⟨t,ht⟩ := hat
 refine cS ?_
 refine qP [(13,.bool (decide (((a1 + 20 : Nat) : Int) ≤ ((n : Nat) : Int))))] hF fun a hF => ?_
 refine cJ 13 hF (fun hc2 => ?_) fun hc2 => ?_
 ·skip
  refine cN ?_
  refine tK ?_
  refine cB 1 ?_
  refine qS hF ?_
  refine tG 4 (ins_sat _ ad cap n a1 (a1 + 20) M own_d hM (by omega) (by omega) (by omega)) ?_
  rintro _ h4 ⟨K3,hM2,hP2,hout,hs,ownx,g⟩
  replace g0 := g0.trans g
  clear own_d; have own_d := ownx; clear ownx g
  replace hP := hP2.trans hP; replace hM := hM2; replace hblk := hblk.more ht hout hs (by omega); clear hP2 hM2 hout hs
  refine sT [] fun a hF => ?_
  refine qP [(7,nV (a1 + 20))] hF fun a hF => ?_
  refine rS hF ?_
  refine tA 2 (a1 + 20) 20 ?_
  refine sE [(8,nV ((a1 + 20) + 20))] fun a hF => ?_
  refine bK ?_
  show ∃ m',m' < _ ∧ _
  refine ⟨_,?_,(a1 + 20),K3,rfl,g0,⟨t + 1,by omega⟩,(by omega),hM,hP,hblk,own_d,hF.to⟩
  omega
 ·skip
  refine cX 0 (xT (xT (xB ?_)))
  refine tK ?_
  refine qS hF ?_
  refine tG 4 (ins_sat _ ad cap n a1 (n) M own_d hM (by omega) (by omega) (by omega)) ?_
  rintro _ h6 ⟨K5,hM2,hP2,hout,hs,ownx,g⟩
  replace g0 := g0.trans g
  clear own_d; have own_d := ownx; clear ownx g
  replace hP := hP2.trans hP; replace hM := hM2; replace hblk := hblk.more ht hout hs (by omega); clear hP2 hM2 hout hs
  refine sT [] fun a hF => ?_
  refine cB 2 ?_
  refine cL (fun m a h' => ∃ s : Nat,∃ M : List Rec,m = n - s ∧ (Grew (ad.map (fun (x : Addr) => x.block)) h h') ∧ (20 ≤ s) ∧ (M.length = n) ∧ (M.Perm L) ∧ (Blk M s 0 n) ∧ (Own h' (.slice ad n cap) 66 n 39 (rrow M)) ∧ (Fr a 63 [(0,.slice ad n cap),(1,.int .i64 ((n : Nat) : Int)),(2,.func (.func 58) #[] #[]),(6,.int .i64 ((s : Nat) : Int))])) (n - 20) ⟨20,K5,rfl,g0,(by omega),hM,hP,hblk,own_d,hF.to⟩ ?_
  clear hF a
  clear g0
  clear hM
  clear hP
  clear hblk
  clear own_d
  rintro m a h7 ⟨s,M,rfl,g0,hs20,hM,hP,hblk,own_d,hF⟩
  refine cS ?_
  refine qP [(30,.bool (decide (((s : Nat) : Int) < ((n : Nat) : Int))))] hF fun a hF => ?_
  refine cJ 30 hF (fun hc8 => ?_) fun hc8 => ?_
  ·skip
   refine cN ?_
   refine tK ?_
   refine cB 3 ?_
   refine qS hF ?_
   refine t1 1 (.int .i64 ((2 * s : Nat) : Int)) (.int .i64 (IntKind.i64.wrap (2 * ((s : Nat) : Int)))) (congrArg (Value.int .i64) (w64' (by omega) (by omega) (by omega))) ?_
   refine sT [(7,.int .i64 0),(8,nV (2 * s))] fun a hF => ?_
   refine cS ?_
   refine cB 4 ?_
   have hz : 2 * s = 0 + 2 * s := (Nat.zero_add _).symm; rw [hz] at hF
   refine cL (fun m a h' => ∃ a1 : Nat,∃ M : List Rec,m = n + 2 * s - a1 ∧ (Grew (ad.map (fun (x : Addr) => x.block)) h h') ∧ (∃ t,a1 = t * (2 * s)) ∧ (a1 ≤ n) ∧ (M.length = n) ∧ (M.Perm L) ∧ (Blk M (2 * s) 0 a1) ∧ (Blk M s a1 n) ∧ (Own h' (.slice ad n cap) 66 n 39 (rrow M)) ∧ (Fr a 63 [(0,.slice ad n cap),(1,.int .i64 ((n : Nat) : Int)),(2,.func (.func 58) #[] #[]),(6,.int .i64 ((s : Nat) : Int)),(7,.int .i64 ((a1 : Nat) : Int)),(8,.int .i64 ((a1 + 2 * s : Nat) : Int))])) (n + 2 * s - 0) ⟨0,M,rfl,g0,⟨0,by rw [Nat.zero_mul]⟩,(by omega),hM,hP,(Blk.nil _ _ _),hblk,own_d,hF.to⟩ ?_
   clear hF a
   clear g0
   clear hM
   clear hP
   clear hblk
   clear own_d
   rintro m a h9 ⟨a1,M,rfl,g0,hat,han,hM,hP,hd,hr,own_d,hF⟩
   obtain ⟨t,ht⟩ := hat
   refine cS ?_
   refine qP [(35,.bool (decide (((a1 + 2 * s : Nat) : Int) ≤ ((n : Nat) : Int))))] hF fun a hF => ?_
   refine cJ 35 hF (fun hc10 => ?_) fun hc10 => ?_
   ·skip
    refine cN ?_
    refine tK ?_
    refine cB 5 ?_
    refine qS hF ?_
    refine tA 4 a1 s ?_
    obtain ⟨hr1,hr2⟩ := hr.two (c := a1 + 2 * s) ht (by omega) (by omega) (by omega)
    refine tG 7 (sym_sat ad cap n hn _ a1 (a1 + s) (a1 + 2 * s) M own_d hM (by omega) (by omega) (by omega) hr1 hr2) ?_
    rintro _ h12 ⟨K11,hm,ownx,g⟩
    replace g0 := g0.trans g
    clear own_d; have own_d := ownx; clear ownx g
    replace hP := hm.perm.trans hP; replace hM := hm.len; clear hr1 hr2
    replace hd := hd.more ht hm.out hm.srt (by omega); replace hr := hr.rest (by omega) hm.out; clear hm
    refine sT [] fun a hF => ?_
    refine qP [(7,nV (a1 + 2 * s))] hF fun a hF => ?_
    refine rS hF ?_
    refine t1 2 (.int .i64 ((2 * s : Nat) : Int)) (.int .i64 (IntKind.i64.wrap (2 * ((s : Nat) : Int)))) (congrArg (Value.int .i64) (w64' (by omega) (by omega) (by omega))) ?_
    refine tA 3 (a1 + 2 * s) (2 * s) ?_
    refine sE [(8,nV ((a1 + 2 * s) + (2 * s)))] fun a hF => ?_
    refine bK ?_
    show ∃ m',m' < _ ∧ _
    refine ⟨_,?_,(a1 + 2 * s),K11,rfl,g0,⟨t + 1,by rw [ht,Nat.add_mul,Nat.one_mul]⟩,(by omega),hM,hP,hd,hr,own_d,hF.to⟩
    omega
   ·skip
    refine cX 4 (xT (xT (xB ?_)))
    refine tK ?_
    refine cS ?_
    refine qS hF ?_
    refine tA 2 a1 s ?_
    refine sT [(9,nV (a1 + s))] fun a hF => ?_
    refine qP [(54,.bool (decide (((a1 + s : Nat) : Int) < ((n : Nat) : Int))))] hF fun a hF => ?_
    refine cJ 54 hF (fun hc13 => ?_) fun hc13 => ?_
    ·skip
     refine rS hF ?_
     obtain ⟨hr1,hr2⟩ := hr.two (c := n) ht (by omega) (by omega) (by omega)
     refine tG 5 (sym_sat ad cap n hn _ a1 (a1 + s) (n) M own_d hM (by omega) (by omega) (by omega) hr1 hr2) ?_
     rintro _ h15 ⟨K14,hm,ownx,g⟩
     replace g0 := g0.trans g
     clear own_d; have own_d := ownx; clear ownx g
     replace hP := hm.perm.trans hP; replace hM := hm.len; clear hr1 hr2
     have hblk2 := hd.more ht hm.out hm.srt (by omega)
     refine sE [] fun a hF => ?_
     refine tK ?_
     refine rS hF ?_
     refine t1 1 (.int .i64 ((s * 2 : Nat) : Int)) (.int .i64 (IntKind.i64.wrap (((s : Nat) : Int) * 2))) (congrArg (Value.int .i64) (w64' (by omega) (by omega) (by omega))) ?_
     refine sE [(6,nV (s * 2))] fun a hF => ?_
     refine bK ?_
     show ∃ m',m' < _ ∧ _
     refine ⟨_,?_,(s * 2),K14,rfl,g0,(by omega),hM,hP,(Nat.mul_comm 2 s ▸ hblk2),own_d,hF.to⟩
     omega
    ·skip
     have hblk2 := hd.more (c := n) ht (fun _ _ => rfl) (hr.one ht (by omega)) (by omega)
     refine cN ?_
     refine tK ?_
     refine rS hF ?_
     refine t1 1 (.int .i64 ((s * 2 : Nat) : Int)) (.int .i64 (IntKind.i64.wrap (((s : Nat) : Int) * 2))) (congrArg (Value.int .i64) (w64' (by omega) (by omega) (by omega))) ?_
     refine sE [(6,nV (s * 2))] fun a hF => ?_
     refine bK ?_
     show ∃ m',m' < _ ∧ _
     refine ⟨_,?_,(s * 2),M,rfl,g0,(by omega),hM,hP,(Nat.mul_comm 2 s ▸ hblk2),own_d,hF.to⟩
     omega
  ·skip
   refine cX 2 (xT (xT (xB ?_)))
   refine n0 hF ?_
   exact ⟨M,hM,hP,hblk.all (by omega),own_d,g0⟩
noncomputable def b57' : Code := Tryd.f57.body.getD .skip
theorem sort_all (h : Heap) (ad : Option Addr) (cap n : Nat) (L : List Rec) (own_d : Own h (.slice ad n cap) 66 n 39 (rrow L)) (hLn : L.length = n) (hn : n ≤ 1099511627776) : Sat Tryd.prog 57 #[.slice ad n cap,.func (.func 58) #[] #[]] h fun _ h' => ∃ M,M.length = n ∧ M.Perm L ∧ SrtOn M 0 n ∧ Own h' (.slice ad n cap) 66 n 39 (rrow M) ∧ Grew (ad.map (fun (x : Addr) => x.block)) h h' := by
 refine sat_in Tryd.func57 9 fun a hF => ?_
 refine rS hF ?_
 refine tG 4 (stable_sat _ ad cap n L own_d hLn hn) ?_
 rintro _ h1 ⟨M,hM,hP,hs,ownx,g0⟩
 refine sE [] fun a hF => ?_
 refine n0 hF ?_
 exact ⟨M,hM,hP,hs,ownx,g0⟩
theorem sorts_all : Sorts Tryd.prog 57 (.func (.func 58) #[] #[]) 66 1099511627776 := fun h ad cap n L o hL hn _ => sort_all h ad cap n L o hL hn
end Go.Proofs.YtegkejcglfgpmaaDoor
end
section
namespace Go.Proofs.YtegkejcglfgpmaaDoor
open Go Go.Lane Go.Sha
theorem del_any (h : Heap) (r : Rec) (now : Int) (ok : RecOk h r) : Sat Tryd.prog 32 #[.agg (rcs r).toArray,.int .i64 now] h fun v h' => ∃ (w : Rec) (z : Int),v = .tuple #[.agg (rcs w).toArray,.int .i64 z] ∧ (z = 0 ↔ delB now r) ∧ Ext h h' := by
 obtain ⟨P,hP,hr,hn⟩ := ok
 obtain ⟨x,e,ho,go,ad,n,cap⟩ := r
 simp only at hP hr hn
 subst hP
 cases go with
 | true => exact (del_gone h x e ho P ad cap now).mono fun v h' ⟨e1,g⟩ => ⟨rec0,213,e1,by simp [delB],g⟩
 | false =>
  cases ho with
  | true => exact (del_held h x e P ad cap now).mono fun v h' ⟨e1,g⟩ => ⟨rec0,214,e1,by simp [delB],g⟩
  | false =>
   by_cases hu : e ≤ now
   ·exact (del_ok h x e P ad cap hr hn now hu).mono fun v h' ⟨e1,g⟩ => ⟨⟨x,e,false,true,none,0,0⟩,0,e1,by simp [delB,hu],g⟩
   ·exact (del_soon h x e P ad cap now (by omega)).mono fun v h' ⟨e1,g⟩ => ⟨rec0,214,e1,by simp [delB,hu],g⟩
noncomputable def b34 : Code := Tryd.f34.body.getD .skip
set_option maxHeartbeats 1000000 in
theorem due_sat (h : Heap) (L : List Rec) (va : Option Addr) (vc : Nat) (now : Int) (K : Nat) (hsort : Sorts Tryd.prog 57 (.func (.func 58) #[] #[]) 66 K) (hr : Row h (.slice va L.length vc) L.length 39 (rrow L)) (hL : L.length ≤ 1099511627776) (hok : ∀ r ∈ L,RecOk h r) (hK : (L.filter (dueB now)).length ≤ K) : Sat Tryd.prog 34 #[.slice va L.length vc,.int .i64 now] h fun v h' => ∃ (M : List Rec) (ad : Option Addr) (cap : Nat),M.Perm (L.filter (dueB now)) ∧ SrtOn M 0 M.length ∧ v = .slice ad M.length cap ∧ Own h' (.slice ad M.length cap) 9 M.length 1 ((ids M).map Value.string) ∧ (∀ k,ad.map (fun (x : Addr) => x.block) = some k → h.size ≤ k) ∧ Ext h h' := by
 have e0 := Ext.refl h
 have sep : Sep h.size h.size [] := Sep.nil _ _
 refine sat_in Tryd.func34 50 fun a hF => ?_
 refine qP [] hF fun a hF => ?_
 refine qP [(5,.slice none 0 0)] hF fun a hF => ?_
 refine cS ?_
 refine qP [(13,.slice va L.length vc),(14,nV L.length),(15,.int .i64 0)] hF fun a hF => ?_
 refine cB 0 ?_
 have own_o : Own h (.slice none 0 0) 66 0 39 (rrow []) := Own.nil _ _ _
 have hlo := e0.size
 replace sep := sep.none hlo; clear hlo
 refine cL (fun m a h' => ∃ i : Nat,∃ D : List Rec,∃ ad : Option Addr,∃ cap : Nat,m = L.length - i ∧ (Ext h h') ∧ (i ≤ L.length) ∧ ((L.take i).filter (dueB now) = D) ∧ (Own h' (.slice ad D.length cap) 66 D.length 39 (rrow D)) ∧ (Sep h.size h'.size [ad.map (·.block)]) ∧ (Fr a 50 [(1,.int .i64 now),(5,.slice ad D.length cap),(13,.slice va L.length vc),(14,.int .i64 ((L.length : Nat) : Int)),(15,.int .i64 ((i : Nat) : Int))])) (L.length - 0) ⟨0,[],none,0,rfl,e0,(by omega),rfl,own_o,sep,hF.to⟩ ?_
 clear hF a
 clear e0
 clear own_o
 clear sep
 rintro m a h1 ⟨i,D,ad,cap,rfl,e0,hi,hD,own_o,sep,hF⟩
 refine qP [(16,.bool (decide (((i : Nat) : Int) < ((L.length : Nat) : Int))))] hF fun a hF => ?_
 refine cS ?_
 refine cJ 16 hF (fun hc2 => ?_) fun hc2 => ?_
 ·skip
  have hia : i < L.length := by omega
  have hDl := filt_le hD
  obtain ⟨aa,rfl,hcap_aa⟩ := hr.someA (by omega)
  refine cN ?_
  refine tK ?_
  refine cS ?_
  refine cB 1 ?_
  refine qS hF ?_
  refine tI 0 aa L.length 39 i (i * 39) ?_
  refine tC 1 (.agg (rcs (L.getD i rec0)).toArray) (Calm.load (T := 66) (p := (Addr.add aa (i * 39))) (by kernel_rfl) (Row.fm (d := rec0) (i := i) rcs_len (hr.ext e0) (by kernel_rfl) (by omega) (by omega))) ?_
  refine tN 2 (pV h1.size) ((rc rb0 (0 : Int) false false (.slice none 0 0)).toArray) 66 fun h3 g4 m5 => ?_
  have lt6 := blk_lt m5
  have zs7 := e0.size
  have hlo := e0.size
  have sepo := sep
  replace e0 := e0.ext g4
  replace own_o := own_o.ext g4
  replace sep := sep.up g4.size
  replace sep := sepo.new hlo (blk_lt m5)
  clear sepo hlo
  refine tW 3 0 (rcs (L.getD i rec0)) (rc rb0 (0 : Int) false false (.slice none 0 0)) (rcs (L.getD i rec0)) m5 (fun h8 g9 m5' => ?_)
  replace e0 := e0.grew g9 (sep.low 0 rfl)
  replace own_o := own_o.kept g9 (by rw [blkOf_slice]; exact (sep.ap 1 0))
  replace sep := sep.up g9.size
  clear m5; have m5 := m5'; clear m5'
  refine sT [(7,pV h1.size)] fun a hF => ?_
  refine qS hF ?_
  refine tC 1 (.int .i64 ((L.getD i rec0).e)) (Calm.load (T := 3) (p := ⟨h1.size,35,none⟩) (by kernel_rfl) (Loads.one (k := 1) (by kernel_rfl) ((hcell_blk m5).trans (rfl)))) ?_
  refine sT [(21,.bool (decide ((0 : Int) < ((L.getD i rec0).e))))] fun a hF => ?_
  refine cJ 21 hF (fun hc10 => ?_) fun hc10 => ?_
  ·skip
   have hpos := hc10
   refine qS hF ?_
   refine tC 0 (.agg (rcs (L.getD i rec0)).toArray) (Calm.load (T := 66) (p := ⟨h1.size,0,none⟩) (by kernel_rfl) (Loads.blk (vs := rcs (L.getD i rec0)) (by kernel_rfl) m5 rfl)) ?_
   refine tG 2 (del_any _ (L.getD i rec0) now ((hok _ (getD_mem hia)).ext e0)) ?_
   rintro _ h11 ⟨w,z,rfl,hz,g⟩
   replace e0 := e0.ext g
   replace own_o := own_o.ext g
   replace m5 := Ext.blk g m5
   replace sep := sep.up g.size
   clear g
   refine tN 6 (pV h11.size) ((rc rb0 (0 : Int) false false (.slice none 0 0)).toArray) 66 fun h12 g13 m14 => ?_
   have lt15 := blk_lt m14
   have zs16 := e0.size
   have hlo := e0.size
   have sepo := sep
   replace e0 := e0.ext g13
   replace own_o := own_o.ext g13
   replace m5 := Ext.blk g13 m5
   replace sep := sep.up g13.size
   replace sep := sepo.new hlo (blk_lt m14)
   clear sepo hlo
   refine tW 7 0 (rcs w) (rc rb0 (0 : Int) false false (.slice none 0 0)) (rcs w) m14 (fun h17 g18 m14' => ?_)
   replace e0 := e0.grew g18 (sep.low 0 rfl)
   replace own_o := own_o.kept g18 (by rw [blkOf_slice]; exact (sep.ap 2 0))
   replace m5 := Grew.blk g18 m5 ((sep.bp 1 0))
   replace sep := sep.up g18.size
   clear m14; have m14 := m14'; clear m14'
   refine sT [(9,.int .i64 z)] fun a hF => ?_
   refine qP [(29,.bool (decide (z = (0 : Int))))] hF fun a hF => ?_
   refine cJ 29 hF (fun hc19 => ?_) fun hc19 => ?_
   ·skip
    have hD2 := tf_yes hia hD (dueB_iff.2 ⟨hpos,hz.1 hc19⟩)
    refine rS hF ?_
    refine tC 1 (.agg (rcs (L.getD i rec0)).toArray) (Calm.load (T := 66) (p := ⟨h1.size,0,none⟩) (by kernel_rfl) (Loads.blk (vs := rcs (L.getD i rec0)) (by kernel_rfl) m5 rfl)) ?_
    refine tN 2 (.slice (some ⟨h17.size,0,none⟩) 1 1) ((rrow [L.getD i rec0]).toArray) 66 fun h20 g21 m22 => ?_
    have lt23 := blk_lt m22
    have zs24 := e0.size
    have hlo := e0.size
    have sepo := sep
    replace e0 := e0.ext g21
    replace own_o := own_o.ext g21
    replace m5 := Ext.blk g21 m5
    replace m14 := Ext.blk g21 m14
    replace sep := sep.up g21.size
    replace sep := sepo.new hlo (blk_lt m22)
    clear sepo hlo
    refine tF 3 (Does.append2 (t := 88) (E := 66) (sz := 39) (by_ := 104) (n := D.length) (m := 1) (v := .slice ad D.length cap) (x := .slice (some ⟨h17.size,0,none⟩) 1 1) (xs := (rrow D)) (ys := (rrow ([L.getD i rec0]))) (by kernel_rfl) (by kernel_rfl) own_o (Row.blk (n := 1) (sz := 39) (l := rrow [L.getD i rec0]) m22 rfl) (rrow_one _) (by unfold maxLen; omega) (by omega)) ?_
    rintro _ h27 ⟨ad25,cap26,rfl,ownx,g,hb⟩
    rw [blkOf_slice] at g hb
    have hlo := e0.size
    have sepo := sep
    replace e0 := e0.grew g (sep.low 3 rfl)
    replace m5 := Grew.blk g m5 ((sep.bp 2 3))
    replace m14 := Grew.blk g m14 ((sep.bp 1 3))
    replace m22 := Grew.blk g m22 ((sep.bp 0 3))
    replace sep := sep.up g.size
    replace sep : Sep h.size h27.size [some (h17.size),some (h11.size),some (h1.size),ad25.map (·.block)] := sepo.set g.size hlo 3 (y := ad25.map (fun (x : Addr) => x.block)) rfl (hb.imp id fun e => .inr ⟨_,e,Nat.le_refl _⟩) (fun k e => ownx.lt (by rw [blkOf_slice]; exact e))
    replace own_o : Own h27 (.slice ad25 ((D ++ [L.getD i rec0]).length) cap26) 66 ((D ++ [L.getD i rec0]).length) 39 (rrow (D ++ [L.getD i rec0])) := Own.appG ownx (by first | rfl | exact List.flatMap_append.symm | simp [rrow]) (by first | rfl | (simp; done) | (simp; omega))
    clear ownx g hb hlo sepo
    refine sE [(5,.slice ad25 (D.length + 1) cap26)] fun a hF => ?_
    have hcan : (D.length + 1 : Nat) = (D ++ [L.getD i rec0]).length := by first | (simp; done) | (simp; omega)
    rw [hcan] at hF; clear hcan
    refine bK ?_
    refine tK ?_
    refine rS hF ?_
    refine tA 0 i 1 ?_
    refine sE [(15,nV (i + 1))] fun a hF => ?_
    clear m5 lt6 zs7
    clear m14 lt15 zs16
    clear m22 lt23 zs24
    replace sep := sep.sub (l' := [ad25.map (·.block)]) (.cons _ (.cons _ (.cons _ (.cons_cons _ (.slnil)))))
    show ∃ m',m' < _ ∧ _
    refine ⟨_,?_,(i + 1),(D ++ [L.getD i rec0]),ad25,cap26,rfl,e0,(by omega),hD2,own_o,sep,hF.to⟩
    omega
   ·skip
    have hD2 := tf_no hia hD (dueB_no (now := now) (fun hb => hc19 (hz.2 hb)))
    refine cN ?_
    refine bK ?_
    refine tK ?_
    refine rS hF ?_
    refine tA 0 i 1 ?_
    refine sE [(15,nV (i + 1))] fun a hF => ?_
    clear m5 lt6 zs7
    clear m14 lt15 zs16
    replace sep := sep.sub (l' := [ad.map (·.block)]) (.cons _ (.cons _ (.cons_cons _ (.slnil))))
    show ∃ m',m' < _ ∧ _
    refine ⟨_,?_,(i + 1),D,ad,cap,rfl,e0,(by omega),hD2,own_o,sep,hF.to⟩
    omega
  ·skip
   have hD2 := tf_no hia hD (dueB_early (now := now) hc10)
   refine cN ?_
   refine bK ?_
   refine tK ?_
   refine rS hF ?_
   refine tA 0 i 1 ?_
   refine sE [(15,nV (i + 1))] fun a hF => ?_
   clear m5 lt6 zs7
   replace sep := sep.sub (l' := [ad.map (·.block)]) (.cons _ (.cons_cons _ (.slnil)))
   show ∃ m',m' < _ ∧ _
   refine ⟨_,?_,(i + 1),D,ad,cap,rfl,e0,(by omega),hD2,own_o,sep,hF.to⟩
   omega
 ·skip
  obtain rfl : i = L.length := by omega
  rw [List.take_length] at hD
  refine cX 0 (xT (xT (xB ?_)))
  refine tK ?_
  refine qS hF ?_
  have hfl : D.length ≤ L.length := by rw [← hD]; exact List.length_filter_le _ _
  refine tG 1 (hsort _ _ _ _ _ own_o rfl (by rw [← hD]; exact hK) (by omega)) ?_
  rintro _ h28 ⟨M,hM,hP,hS,ownx,g⟩
  replace e0 := e0.grew g (sep.low 0 rfl)
  replace sep := sep.up g.size
  clear own_o; have own_o := ownx; clear ownx g
  refine sT [] fun a hF => ?_
  refine qP [(10,.slice none 0 0)] hF fun a hF => ?_
  refine cS ?_
  refine qP [(37,.slice ad D.length cap),(38,nV D.length),(39,.int .i64 0)] hF fun a hF => ?_
  refine cB 2 ?_
  have own_s : Own h28 (.slice none 0 0) 9 0 1 ((ids (M.take 0)).map Value.string) := Own.nil _ _ _
  have hlo := e0.size
  replace sep := sep.none hlo; clear hlo
  refine cL (fun m a h' => ∃ i : Nat,∃ ad2 : Option Addr,∃ cap2 : Nat,m = D.length - i ∧ (Ext h h') ∧ (i ≤ D.length) ∧ (Own h' (.slice ad2 i cap2) 9 i 1 ((ids (M.take i)).map Value.string)) ∧ (Own h' (.slice ad D.length cap) 66 D.length 39 (rrow M)) ∧ (Sep h.size h'.size [ad2.map (·.block),ad.map (·.block)]) ∧ (Fr a 50 [(10,.slice ad2 i cap2),(37,.slice ad D.length cap),(38,.int .i64 ((D.length : Nat) : Int)),(39,.int .i64 ((i : Nat) : Int))])) (D.length - 0) ⟨0,none,0,rfl,e0,(by omega),own_s,own_o,sep,hF.to⟩ ?_
  clear hF a
  clear e0
  clear own_s
  clear own_o
  clear sep
  rintro m a h29 ⟨i,ad2,cap2,rfl,e0,hi,own_s,own_o,sep,hF⟩
  refine qP [(40,.bool (decide (((i : Nat) : Int) < ((D.length : Nat) : Int))))] hF fun a hF => ?_
  refine cS ?_
  refine cJ 40 hF (fun hc30 => ?_) fun hc30 => ?_
  ·skip
   have hia : i < D.length := by omega
   obtain ⟨ab,rfl,hcap_ab⟩ := own_o.someA (by omega)
   refine cN ?_
   refine tK ?_
   refine cS ?_
   refine cB 3 ?_
   refine qS hF ?_
   refine tI 0 ab D.length 39 i (i * 39) ?_
   refine tC 1 (.agg (rcs (M.getD i rec0)).toArray) (Calm.load (T := 66) (p := (Addr.add ab (i * 39))) (by kernel_rfl) (Row.fm (d := rec0) (i := i) rcs_len (own_o.row) (by kernel_rfl) (by omega) (by omega))) ?_
   refine tN 2 (pV h29.size) ((rc rb0 (0 : Int) false false (.slice none 0 0)).toArray) 66 fun h31 g32 m33 => ?_
   have lt34 := blk_lt m33
   have zs35 := e0.size
   have hlo := e0.size
   have sepo := sep
   replace e0 := e0.ext g32
   replace own_s := own_s.ext g32
   replace own_o := own_o.ext g32
   replace sep := sep.up g32.size
   replace sep := sepo.new hlo (blk_lt m33)
   clear sepo hlo
   refine tW 3 0 (rcs (M.getD i rec0)) (rc rb0 (0 : Int) false false (.slice none 0 0)) (rcs (M.getD i rec0)) m33 (fun h36 g37 m33' => ?_)
   replace e0 := e0.grew g37 (sep.low 0 rfl)
   replace own_s := own_s.kept g37 (by rw [blkOf_slice]; exact (sep.ap 1 0))
   replace own_o := own_o.kept g37 (by rw [blkOf_slice]; exact (sep.ap 2 0))
   replace sep := sep.up g37.size
   clear m33; have m33 := m33'; clear m33'
   refine sT [(12,pV h29.size)] fun a hF => ?_
   refine rS hF ?_
   refine tC 2 (.string (((M.getD i rec0).b).id)) (Calm.load (T := 9) (p := ⟨h29.size,0,none⟩) (by kernel_rfl) (Loads.one (k := 1) (by kernel_rfl) ((hcell_blk m33).trans (rfl)))) ?_
   refine tN 3 (.slice (some ⟨h36.size,0,none⟩) 1 1) (#[.string (((M.getD i rec0).b).id)]) 9 fun h38 g39 m40 => ?_
   have lt41 := blk_lt m40
   have zs42 := e0.size
   have hlo := e0.size
   have sepo := sep
   replace e0 := e0.ext g39
   replace own_s := own_s.ext g39
   replace own_o := own_o.ext g39
   replace m33 := Ext.blk g39 m33
   replace sep := sep.up g39.size
   replace sep := sepo.new hlo (blk_lt m40)
   clear sepo hlo
   refine tF 4 (Does.append2 (t := 36) (E := 9) (sz := 1) (by_ := 16) (n := i) (m := 1) (v := .slice ad2 i cap2) (x := .slice (some ⟨h36.size,0,none⟩) 1 1) (xs := ((ids (M.take i)).map Value.string)) (ys := (([((M.getD i rec0).b).id]).map Value.string)) (by kernel_rfl) (by kernel_rfl) own_s (Row.blk (n := 1) (sz := 1) (l := [((M.getD i rec0).b).id].map Value.string) m40 rfl) (ones_str _) (by unfold maxLen; omega) (by omega)) ?_
   rintro _ h45 ⟨ad43,cap44,rfl,ownx,g,hb⟩
   rw [blkOf_slice] at g hb
   have hlo := e0.size
   have sepo := sep
   replace e0 := e0.grew g (sep.low 2 rfl)
   replace own_o := own_o.kept g (by rw [blkOf_slice]; exact (sep.ap 3 2))
   replace m33 := Grew.blk g m33 ((sep.bp 1 2))
   replace m40 := Grew.blk g m40 ((sep.bp 0 2))
   replace sep := sep.up g.size
   replace sep : Sep h.size h45.size [some (h36.size),some (h29.size),ad43.map (·.block),(some ab : Option Addr).map (·.block)] := sepo.set g.size hlo 2 (y := ad43.map (fun (x : Addr) => x.block)) rfl (hb.imp id fun e => .inr ⟨_,e,Nat.le_refl _⟩) (fun k e => ownx.lt (by rw [blkOf_slice]; exact e))
   replace own_s : Own h45 (.slice ad43 (i + 1) cap44) 9 (i + 1) 1 ((ids (M.take i) ++ [((M.getD i rec0).b).id]).map Value.string) := Own.appG ownx (by first | rfl | simp) (by first | rfl | (simp; done) | (simp; omega))
   clear ownx g hb hlo sepo
   refine sE [(10,.slice ad43 (i + 1) cap44)] fun a hF => ?_
   have hcan : (i + 1 : Nat) = (i + 1) := by first | (simp; done) | (simp; omega)
   rw [hcan] at hF; clear hcan
   refine bK ?_
   refine tK ?_
   refine rS hF ?_
   refine tA 0 i 1 ?_
   refine sE [(39,nV (i + 1))] fun a hF => ?_
   rw [ids_next (by omega)] at own_s
   clear m33 lt34 zs35
   clear m40 lt41 zs42
   replace sep := sep.sub (l' := [ad43.map (·.block),(some ab : Option Addr).map (·.block)]) (.cons _ (.cons _ (.cons_cons _ (.cons_cons _ (.slnil)))))
   show ∃ m',m' < _ ∧ _
   refine ⟨_,?_,(i + 1),ad43,cap44,rfl,e0,(by omega),own_s,own_o,sep,hF.to⟩
   omega
  ·skip
   refine cX 2 (xT (xT (xB ?_)))
   refine tK ?_
   refine qP [(4,.slice ad2 i cap2)] hF fun a hF => ?_
   refine cR ?_
   refine rT 4 (.slice ad2 i cap2) hF ?_
   obtain rfl : i = D.length := by omega
   rw [← hM,List.take_length] at own_s
   rw [← hM]
   exact ⟨M,ad2,cap2,hD ▸ hP,by rw [hM]; exact hS,rfl,own_s,sep.low 0 rfl,e0⟩
end Go.Proofs.YtegkejcglfgpmaaDoor
end
section
namespace Go.Proofs.YtegkejcglfgpmaaDoor
open Go Go.Lane Go.Sha
noncomputable def b20 : Code := Tryd.f20.body.getD .skip
theorem leaves_sat (h : Heap) (mb mp : Nat) (M : Md) (L : List Ent) (ck : Nat) (ea : Option Addr) (ec : Nat) (es : List Value) (md : ModA h mb mp M L ck ea ec es) (kt : Ktab h) (hE : M.E.length ≤ 1099511627) : Sat Tryd.prog 20 #[.pointer (some ⟨mb,0,none⟩)] h fun v h' => ∃ ad cap,v = .slice ad M.E.length cap ∧ Own h' (.slice ad M.E.length cap) 33 M.E.length 32 (hcs (ledH M.E)) ∧ (∀ k,ad.map (fun (x : Addr) => x.block) = some k → h.size ≤ k) ∧ Ext h h' := by
 have hm := md.hm
 have hp := md.hp
 have e0 := Ext.refl h
 have h0s := kt.lt
 have sep : Sep h.size h.size [] := Sep.nil _ _
 refine sat_in Tryd.func20 22 fun a hF => ?_
 refine qP [] hF fun a hF => ?_
 refine qP [(3,.slice none 0 0)] hF fun a hF => ?_
 refine cS ?_
 refine qS hF ?_
 refine tC 3 (.slice ea M.E.length ec) (Calm.load (T := 55) (p := ⟨mb,1,none⟩) (by kernel_rfl) (Loads.one (k := 1) (by kernel_rfl) ((hcell_blk (e0.blk hm)).trans rfl))) ?_
 refine sT [(9,.slice ea M.E.length ec),(10,nV M.E.length),(11,.int .i64 0)] fun a hF => ?_
 refine cB 0 ?_
 have own_o : Own h (.slice none 0 0) 33 0 32 (hcs (ledH (M.E.take 0))) := Own.nil _ _ _
 have hlo := e0.size
 replace sep := sep.none hlo; clear hlo
 refine cL (fun m a h' => ∃ k : Nat,∃ ad : Option Addr,∃ cap : Nat,m = M.E.length - k ∧ (Ext h h') ∧ (Ktab h') ∧ (k ≤ M.E.length) ∧ (Own h' (.slice ad k cap) 33 k 32 (hcs (ledH (M.E.take k)))) ∧ (Sep h.size h'.size [ad.map (·.block)]) ∧ (Fr a 22 [(3,.slice ad k cap),(9,.slice ea M.E.length ec),(10,.int .i64 ((M.E.length : Nat) : Int)),(11,.int .i64 ((k : Nat) : Int))])) (M.E.length - 0) ⟨0,none,0,rfl,e0,kt,(by omega),own_o,sep,hF.to⟩ ?_
 clear hF a
 clear e0
 clear kt
 clear own_o
 clear sep
 rintro m a h1 ⟨k,ad,cap,rfl,e0,kt,hk,own_o,sep,hF⟩
 refine qP [(12,.bool (decide (((k : Nat) : Int) < ((M.E.length : Nat) : Int))))] hF fun a hF => ?_
 refine cS ?_
 refine cJ 12 hF (fun hc2 => ?_) fun hc2 => ?_
 ·skip
  have hkn : k < M.E.length := by omega
  obtain ⟨e,he⟩ : ∃ e,M.E[k]? = some e := ⟨_,List.getElem?_eq_getElem hkn⟩
  obtain ⟨hel,xa,xc,hes,hrx⟩ := md.en.2 k e he
  obtain ⟨aa,rfl,hcap_aa⟩ := md.er.1.someA (by omega)
  refine cN ?_
  refine tK ?_
  refine cS ?_
  refine cB 1 ?_
  refine qS hF ?_
  refine tI 0 aa M.E.length 1 k k ?_
  refine tC 1 (.slice xa e.length xc) (Calm.load (T := 23) (p := (Addr.add aa k)) (by kernel_rfl) (Loads.one (k := 1) (by kernel_rfl) ((md.er.1.ext e0).cells _ _ hes))) ?_
  refine sT [(5,.slice xa e.length xc)] fun a hF => ?_
  refine rS hF ?_
  refine tG 2 (leaf_sat _ e xa xc (hrx.1.ext e0) (hrx.1.ext e0).ltS kt (by omega)) ?_
  rintro _ h3 ⟨rfl,g⟩
  replace e0 := e0.ext g
  replace kt := kt.ext g
  replace own_o := own_o.ext g
  replace sep := sep.up g.size
  clear g
  refine tF 3 (Does.newHs (L := [leafH e]) (t := 39) (E := 33) (by_ := 32) (n := 1) (by kernel_rfl) (by kernel_rfl) (All32.cons (leaf_len _) All32.nil) rfl (by decide) (by decide)) ?_
  rintro _ h4 ⟨rfl,hh⟩
  have g5 : Ext h3 h4 := push_ext hh
  have m6 : h4[h3.size]? = some (.cells (hcs [leafH e]).toArray 33) := push_at hh
  clear hh
  have lt7 := blk_lt m6
  have zs8 := e0.size
  have hlo := e0.size
  have sepo := sep
  replace e0 := e0.ext g5
  replace kt := kt.ext g5
  replace own_o := own_o.ext g5
  replace sep := sep.up g5.size
  replace sep := sepo.new hlo (blk_lt m6)
  clear sepo hlo
  refine tF 4 (Does.append2 (t := 39) (E := 33) (sz := 32) (by_ := 32) (n := k) (m := 1) (v := .slice ad k cap) (x := .slice (some ⟨h3.size,0,none⟩) 1 1) (xs := (hcs (ledH (M.E.take k)))) (ys := (hcs ([leafH e]))) (by kernel_rfl) (by kernel_rfl) own_o (hrow1 (leaf_len _) m6) (ones_hcs _) (by unfold maxLen; omega) (by omega)) ?_
  rintro _ h11 ⟨ad9,cap10,rfl,ownx,g,hb⟩
  rw [blkOf_slice] at g hb
  have hlo := e0.size
  have sepo := sep
  replace e0 := e0.grew g (sep.low 1 rfl)
  replace kt := kt.grew g (sep.zero 1 rfl h0s)
  replace m6 := Grew.blk g m6 ((sep.bp 0 1))
  replace sep := sep.up g.size
  replace sep : Sep h.size h11.size [some (h3.size),ad9.map (·.block)] := sepo.set g.size hlo 1 (y := ad9.map (fun (x : Addr) => x.block)) rfl (hb.imp id fun e => .inr ⟨_,e,Nat.le_refl _⟩) (fun k e => ownx.lt (by rw [blkOf_slice]; exact e))
  replace own_o : Own h11 (.slice ad9 (k + 1) cap10) 33 (k + 1) 32 (hcs (ledH (M.E.take k) ++ [leafH e])) := Own.appG ownx (by first | rfl | exact (hcs_append _ _).symm | simp [hcs_append]) (by first | rfl | (simp; done) | (simp; omega))
  clear ownx g hb hlo sepo
  refine sE [(3,.slice ad9 (k + 1) cap10)] fun a hF => ?_
  refine bK ?_
  refine tK ?_
  refine rS hF ?_
  refine tA 0 k 1 ?_
  refine sE [(11,nV (k + 1))] fun a hF => ?_
  rw [ledH_next he] at own_o
  clear m6 lt7 zs8
  replace sep := sep.sub (l' := [ad9.map (·.block)]) (.cons _ (.cons_cons _ (.slnil)))
  show ∃ m',m' < _ ∧ _
  refine ⟨_,?_,(k + 1),ad9,cap10,rfl,e0,kt,(by omega),own_o,sep,hF.to⟩
  omega
 ·skip
  refine cX 0 (xT (xT (xB ?_)))
  refine tK ?_
  refine qP [(2,.slice ad k cap)] hF fun a hF => ?_
  refine cR ?_
  refine rT 2 (.slice ad k cap) hF ?_
  obtain rfl : k = M.E.length := by omega
  rw [List.take_length] at own_o
  exact ⟨ad,cap,rfl,own_o,sep.low 0 rfl,e0⟩
noncomputable def b18 : Code := Tryd.f18.body.getD .skip
theorem recok0 {h h2 : Heap} {M : Md} {oaf : Ent → OA} {L D : List Ent} (hg : ∀ x ∈ L,Holds3 h M oaf x) (hP : D.Perm L) {r : Rec} (hr : r ∈ D.map (rcG oaf)) : RecOk h2 r := by
 obtain ⟨x,hx,rfl⟩ := List.mem_map.1 hr
 exact ⟨[],rfl,(hg x (hP.mem_iff.1 hx)).rc.zero rfl,Nat.zero_le _⟩
set_option maxHeartbeats 1000000 in
theorem ids_all (h : Heap) (mb mp : Nat) (M : Md) (L : List Ent) (ck : Nat) (ea : Option Addr) (ec : Nat) (es : List Value) (md : ModA h mb mp M L ck ea ec es) (hE : M.E.length ≤ 1099511627) : Sat Tryd.prog 18 #[.pointer (some ⟨mb,0,none⟩),.bool false] h fun v h' => ∃ ad cap,v = .slice ad (idsM M).length cap ∧ Own h' (.slice ad (idsM M).length cap) 9 (idsM M).length 1 ((idsM M).map Value.string) ∧ (∀ k,ad.map (fun (x : Addr) => x.block) = some k → h.size ≤ k) ∧ Ext h h' := by
 have hm := md.hm
 have hp := md.hp
 obtain ⟨oaf,hg⟩ := md.choose
 have hLn := md.ln
 have e0 := Ext.refl h
 have sep : Sep h.size h.size [] := Sep.nil _ _
 refine sat_in Tryd.func18 42 fun a hF => ?_
 refine qP [] hF fun a hF => ?_
 refine qP [(5,.slice none 0 0)] hF fun a hF => ?_
 refine qP [(6,.slice none 0 0)] hF fun a hF => ?_
 refine cS ?_
 refine qS hF ?_
 refine tC 3 (.map (some mp)) (Calm.load (T := 54) (p := ⟨mb,0,none⟩) (by kernel_rfl) (Loads.one (k := 1) (by kernel_rfl) ((hcell_blk (e0.blk hm)).trans rfl))) ?_
 refine tF 4 (Does.range (t := 54) (k := 9) (el := 68) (by kernel_rfl) (by kernel_rfl) (e0.blk hp)) ?_
 rintro _ h1 ⟨rfl,hh⟩
 have g := push_ext hh
 have hit := push_at hh
 have hlo := e0.size
 have sepo := sep
 replace e0 := e0.ext g
 replace sep := sep.up g.size
 replace sep := sepo.new hlo (blk_lt hit)
 clear sepo hlo hh g
 refine sT [(13,pV h.size)] fun a hF => ?_
 refine cB 0 ?_
 have own_o : Own h1 (.slice none 0 0) 66 0 39 (rrow (([] : List Ent).map (rcG oaf))) := Own.nil _ _ _
 have own_s : Own h1 (.slice none 0 0) 9 0 1 ((live (([] : List Ent).map (rcG oaf))).map Value.string) := Own.nil _ _ _
 have hlo := e0.size
 replace sep := (sep.none hlo).none hlo; clear hlo
 refine cL (fun m a h' => ∃ D : List Ent,∃ R : List Ent,∃ ad : Option Addr,∃ cap : Nat,∃ ad2 : Option Addr,∃ cap2 : Nat,m = R.length ∧ (Ext h h') ∧ ((D ++ R).Perm L) ∧ (h'[h.size]? = some (itr mp ck D)) ∧ (Own h' (.slice ad ((D.map (rcG oaf)).length) cap) 66 ((D.map (rcG oaf)).length) 39 (rrow (D.map (rcG oaf)))) ∧ (Own h' (.slice ad2 ((live (D.map (rcG oaf))).length) cap2) 9 ((live (D.map (rcG oaf))).length) 1 ((live (D.map (rcG oaf))).map Value.string)) ∧ (Sep h.size h'.size [ad2.map (·.block),ad.map (·.block),some h.size]) ∧ (Fr a 42 [(0,.pointer (some ⟨mb,0,none⟩)),(1,.bool false),(5,.slice ad ((D.map (rcG oaf)).length) cap),(6,.slice ad2 ((live (D.map (rcG oaf))).length) cap2),(13,.pointer (some ⟨h.size,0,none⟩))])) (L.length) ⟨[],L,none,0,none,0,rfl,e0,(List.Perm.refl _),hit,own_o,own_s,sep,hF.to⟩ ?_
 clear hF a
 clear e0
 clear hit
 clear own_o
 clear own_s
 clear sep
 rintro m a h2 ⟨D,R,ad,cap,ad2,cap2,rfl,e0,hP,hit,own_o,own_s,sep,hF⟩
 refine cS ?_
 rcases (by cases R <;> simp : R = [] ∨ R ≠ []) with hR | hR
 ·skip
  refine rS hF ?_
  refine tC 0 (.tuple #[.bool false]) (nextNil (by kernel_rfl) hit (e0.blk hp) hP md.bo hR) ?_
  refine sE [(15,.bool false)] fun a hF => ?_
  refine tK ?_
  refine cS ?_
  refine cF 15 hF ?_
  refine cX 0 (xT (xT (xB ?_)))
  refine tK ?_
  refine cS ?_
  refine qP [(32,.bool false)] hF fun a hF => ?_
  refine cF 32 hF ?_
  refine cN ?_
  refine tK ?_
  refine qS hF ?_
  subst hR
  rw [List.append_nil] at hP
  have hen := md.enum hg hP
  have hDl := hP.length_eq
  have hlv := live_le (D.map (rcG oaf))
  rw [List.length_map] at hlv
  refine tG 1 (sortS_sat _ _ _ _ (live (D.map (rcG oaf))) own_s rfl (by omega)) ?_
  rintro _ h3 ⟨ownx,g⟩
  replace e0 := e0.grew g (sep.low 0 rfl)
  replace own_o := own_o.kept g (by rw [blkOf_slice]; exact (sep.ap 1 0))
  replace hit := g.blk hit (sep.bp 2 0)
  replace sep := sep.up g.size
  clear own_s; have own_s := ownx; clear ownx g
  refine sT [] fun a hF => ?_
  refine qP [(4,.slice ad2 ((live (D.map (rcG oaf))).length) cap2)] hF fun a hF => ?_
  refine cR ?_
  refine rT 4 (.slice ad2 ((live (D.map (rcG oaf))).length) cap2) hF ?_
  rw [← idsM_eq hen] at own_s
  have hil : (live (D.map (rcG oaf))).length = (idsM M).length := by rw [idsM_eq hen]; unfold srt; rw [List.length_mergeSort]
  rw [hil] at own_s
  exact ⟨ad2,cap2,by rw [hil],own_s,sep.low 0 rfl,e0⟩
 ·skip
  refine rS hF ?_
  refine tF 0 (nextCons (by kernel_rfl) hit (e0.blk hp) hP md.bo hR) ?_
  rintro _ h4 ⟨x,R',hP2,hRl,hxL,rfl,hh⟩
  obtain ⟨hit2,gi⟩ := itr_put hh hit
  replace e0 := e0.grew gi (sep.low 2 rfl)
  replace own_s := own_s.kept gi (by rw [blkOf_slice]; exact (sep.ap 0 2))
  replace own_o := own_o.kept gi (by rw [blkOf_slice]; exact (sep.ap 1 2))
  replace hit := hit
  replace sep := sep.up gi.size
  clear hit; have hit := hit2; clear hit2 hh gi
  have hh3 := hg x hxL
  have hDl : D.length < L.length := by have := hP2.length_eq; simp at this; omega
  refine sE [(15,.bool true)] fun a hF => ?_
  refine tK ?_
  refine cS ?_
  refine cT 15 hF ?_
  refine cN ?_
  refine tK ?_
  refine cB 1 ?_
  refine qS hF ?_
  refine tC 0 (.tuple #[.string x.1,.agg (obx ((rcG oaf x).b) ((rcG oaf x).e) ((rcG oaf x).ho) ((rcG oaf x).go) (.slice (rcG oaf x).ad ((rcG oaf x).n) ((rcG oaf x).cap)) (.slice (oaf x).ba ((oaf x).o.dt.length) ((oaf x).bc))).toArray]) (entryV (by kernel_rfl) hit (e0.blk hp) hxL md.bo hh3.hv) ?_
  refine tN 3 (pV h4.size) ((obx rb0 (0 : Int) false false (.slice none 0 0) (.slice none 0 0)).toArray) 68 fun h5 g6 m7 => ?_
  have lt8 := blk_lt m7
  have zs9 := e0.size
  have hlo := e0.size
  have sepo := sep
  replace e0 := e0.ext g6
  replace own_s := own_s.ext g6
  replace own_o := own_o.ext g6
  replace hit := g6.blk hit
  replace sep := sep.up g6.size
  replace sep := sepo.new hlo (blk_lt m7)
  clear sepo hlo
  refine tW 5 0 (obx ((rcG oaf x).b) ((rcG oaf x).e) ((rcG oaf x).ho) ((rcG oaf x).go) (.slice (rcG oaf x).ad ((rcG oaf x).n) ((rcG oaf x).cap)) (.slice (oaf x).ba ((oaf x).o.dt.length) ((oaf x).bc))) (obx rb0 (0 : Int) false false (.slice none 0 0) (.slice none 0 0)) (obx ((rcG oaf x).b) ((rcG oaf x).e) ((rcG oaf x).ho) ((rcG oaf x).go) (.slice (rcG oaf x).ad ((rcG oaf x).n) ((rcG oaf x).cap)) (.slice (oaf x).ba ((oaf x).o.dt.length) ((oaf x).bc))) m7 (fun h10 g11 m7' => ?_)
  replace e0 := e0.grew g11 (sep.low 0 rfl)
  replace own_s := own_s.kept g11 (by rw [blkOf_slice]; exact (sep.ap 1 0))
  replace own_o := own_o.kept g11 (by rw [blkOf_slice]; exact (sep.ap 2 0))
  replace hit := g11.blk hit (sep.bp 3 0)
  replace sep := sep.up g11.size
  clear m7; have m7 := m7'; clear m7'
  refine sT [(7,.string x.1),(8,pV h4.size)] fun a hF => ?_
  refine qS hF ?_
  refine tC 2 (.agg (rcs (rcG oaf x)).toArray) (Calm.load (T := 66) (p := ⟨h4.size,0,none⟩) (by kernel_rfl) (Loads.blk (vs := rc ((rcG oaf x).b) ((rcG oaf x).e) ((rcG oaf x).ho) ((rcG oaf x).go) (.slice (rcG oaf x).ad ((rcG oaf x).n) ((rcG oaf x).cap))) (by kernel_rfl) m7 rfl)) ?_
  refine tN 3 (.slice (some ⟨h10.size,0,none⟩) 1 1) ((rrow [(rcG oaf x)]).toArray) 66 fun h12 g13 m14 => ?_
  have lt15 := blk_lt m14
  have zs16 := e0.size
  have hlo := e0.size
  have sepo := sep
  replace e0 := e0.ext g13
  replace own_s := own_s.ext g13
  replace own_o := own_o.ext g13
  replace hit := g13.blk hit
  replace m7 := Ext.blk g13 m7
  replace sep := sep.up g13.size
  replace sep := sepo.new hlo (blk_lt m14)
  clear sepo hlo
  refine tF 4 (Does.append2 (t := 88) (E := 66) (sz := 39) (by_ := 104) (n := (D.map (rcG oaf)).length) (m := 1) (v := .slice ad ((D.map (rcG oaf)).length) cap) (x := .slice (some ⟨h10.size,0,none⟩) 1 1) (xs := (rrow (D.map (rcG oaf)))) (ys := (rrow ([(rcG oaf x)]))) (by kernel_rfl) (by kernel_rfl) own_o (Row.blk (n := 1) (sz := 39) (l := rrow [(rcG oaf x)]) m14 rfl) (rrow_one _) (by unfold maxLen; rw [List.length_map]; omega) (by rw [List.length_map]; omega)) ?_
  rintro _ h19 ⟨ad17,cap18,rfl,ownx,g,hb⟩
  rw [blkOf_slice] at g hb
  have hlo := e0.size
  have sepo := sep
  replace e0 := e0.grew g (sep.low 3 rfl)
  replace own_s := own_s.kept g (by rw [blkOf_slice]; exact (sep.ap 2 3))
  replace hit := g.blk hit (sep.bp 4 3)
  replace m7 := Grew.blk g m7 ((sep.bp 1 3))
  replace m14 := Grew.blk g m14 ((sep.bp 0 3))
  replace sep := sep.up g.size
  replace sep : Sep h.size h19.size [some (h10.size),some (h4.size),ad2.map (·.block),ad17.map (·.block),some h.size] := sepo.set g.size hlo 3 (y := ad17.map (fun (x : Addr) => x.block)) rfl (hb.imp id fun e => .inr ⟨_,e,Nat.le_refl _⟩) (fun k e => ownx.lt (by rw [blkOf_slice]; exact e))
  replace own_o : Own h19 (.slice ad17 ((D.map (rcG oaf) ++ [(rcG oaf x)]).length) cap18) 66 ((D.map (rcG oaf) ++ [(rcG oaf x)]).length) 39 (rrow (D.map (rcG oaf) ++ [(rcG oaf x)])) := Own.appG ownx (by first | rfl | exact List.flatMap_append.symm | simp [rrow]) (by first | rfl | (simp; done) | (simp; omega))
  clear ownx g hb hlo sepo
  rw [recs_snoc] at own_o
  refine sT [(5,.slice ad17 (((D.map (rcG oaf)).length) + 1) cap18)] fun a hF => ?_
  have hcan : (((D.map (rcG oaf)).length) + 1 : Nat) = ((D ++ [x]).map (rcG oaf)).length := by first | (simp; done) | (simp; omega)
  rw [hcan] at hF; clear hcan
  refine qS hF ?_
  refine tC 2 (.bool ((rcG oaf x).go)) (Calm.load (T := 4) (p := ⟨h4.size,37,none⟩) (by kernel_rfl) (Loads.one (k := 1) (by kernel_rfl) ((hcell_blk m7).trans (rfl)))) ?_
  refine sT [(27,.bool (!((rcG oaf x).go)))] fun a hF => ?_
  refine cC 27 (!((rcG oaf x).go)) hF (fun hc20 => ?_) (fun hc20 => ?_)
  ·skip
   replace hc20 : (rcG oaf x).go = false := by simpa using hc20
   refine rS hF ?_
   refine tN 2 (.slice (some ⟨h19.size,0,none⟩) 1 1) (#[.string x.1]) 9 fun h21 g22 m23 => ?_
   have lt24 := blk_lt m23
   have zs25 := e0.size
   have hlo := e0.size
   have sepo := sep
   replace e0 := e0.ext g22
   replace own_s := own_s.ext g22
   replace own_o := own_o.ext g22
   replace hit := g22.blk hit
   replace m7 := Ext.blk g22 m7
   replace m14 := Ext.blk g22 m14
   replace sep := sep.up g22.size
   replace sep := sepo.new hlo (blk_lt m23)
   clear sepo hlo
   have hlv := live_le (D.map (rcG oaf))
   rw [List.length_map] at hlv
   refine tF 3 (Does.append2 (t := 36) (E := 9) (sz := 1) (by_ := 16) (n := (live (D.map (rcG oaf))).length) (m := 1) (v := .slice ad2 ((live (D.map (rcG oaf))).length) cap2) (x := .slice (some ⟨h19.size,0,none⟩) 1 1) (xs := ((live (D.map (rcG oaf))).map Value.string)) (ys := (([x.1]).map Value.string)) (by kernel_rfl) (by kernel_rfl) own_s (Row.blk (n := 1) (sz := 1) (l := [x.1].map Value.string) m23 rfl) (ones_str _) (by unfold maxLen; omega) (by omega)) ?_
   rintro _ h28 ⟨ad26,cap27,rfl,ownx,g,hb⟩
   rw [blkOf_slice] at g hb
   have hlo := e0.size
   have sepo := sep
   replace e0 := e0.grew g (sep.low 3 rfl)
   replace own_o := own_o.kept g (by rw [blkOf_slice]; exact (sep.ap 4 3))
   replace hit := g.blk hit (sep.bp 5 3)
   replace m7 := Grew.blk g m7 ((sep.bp 2 3))
   replace m14 := Grew.blk g m14 ((sep.bp 1 3))
   replace m23 := Grew.blk g m23 ((sep.bp 0 3))
   replace sep := sep.up g.size
   replace sep : Sep h.size h28.size [some (h19.size),some (h10.size),some (h4.size),ad26.map (·.block),ad17.map (·.block),some h.size] := sepo.set g.size hlo 3 (y := ad26.map (fun (x : Addr) => x.block)) rfl (hb.imp id fun e => .inr ⟨_,e,Nat.le_refl _⟩) (fun k e => ownx.lt (by rw [blkOf_slice]; exact e))
   replace own_s : Own h28 (.slice ad26 ((live (D.map (rcG oaf)) ++ [x.1]).length) cap27) 9 ((live (D.map (rcG oaf)) ++ [x.1]).length) 1 ((live (D.map (rcG oaf)) ++ [x.1]).map Value.string) := Own.appG ownx (by first | rfl | simp) (by first | rfl | (simp; done) | (simp; omega))
   clear ownx g hb hlo sepo
   have hlo3 : live (D.map (rcG oaf)) ++ [x.1] = live ((D ++ [x]).map (rcG oaf)) := by rw [live_on hc20,hh3.id]
   rw [hlo3] at own_s
   refine sE [(6,.slice ad26 (((live (D.map (rcG oaf))).length) + 1) cap27)] fun a hF => ?_
   have hcan : (((live (D.map (rcG oaf))).length) + 1 : Nat) = (live ((D ++ [x]).map (rcG oaf))).length := by first | (rw [← hlo3,List.length_append]; rfl) | (simp; done) | (simp; omega)
   rw [hcan] at hF; clear hcan
   refine bK ?_
   clear m7 lt8 zs9
   clear m14 lt15 zs16
   clear m23 lt24 zs25
   replace sep := sep.sub (l' := [ad26.map (·.block),ad17.map (·.block),some h.size]) (.cons _ (.cons _ (.cons _ (.cons_cons _ (.cons_cons _ (.cons_cons _ (.slnil)))))))
   show ∃ m',m' < _ ∧ _
   refine ⟨_,?_,(D ++ [x]),R',ad17,cap18,ad26,cap27,rfl,e0,hP2,hit,own_o,own_s,sep,hF.to⟩
   omega
  ·skip
   replace hc20 : (rcG oaf x).go = true := by simpa using hc20
   rw [← live_go hc20] at own_s
   rw [← live_go hc20] at hF
   refine cN ?_
   refine bK ?_
   clear m7 lt8 zs9
   clear m14 lt15 zs16
   replace sep := sep.sub (l' := [ad2.map (·.block),ad17.map (·.block),some h.size]) (.cons _ (.cons _ (.cons_cons _ (.cons_cons _ (.cons_cons _ (.slnil))))))
   show ∃ m',m' < _ ∧ _
   refine ⟨_,?_,(D ++ [x]),R',ad17,cap18,ad2,cap2,rfl,e0,hP2,hit,own_o,own_s,sep,hF.to⟩
   omega
set_option maxHeartbeats 1000000 in
theorem ids_due (h : Heap) (mb mp : Nat) (M : Md) (L : List Ent) (ck : Nat) (ea : Option Addr) (ec : Nat) (es : List Value) (md : ModA h mb mp M L ck ea ec es) (hE : M.E.length ≤ 1099511627) : Sat Tryd.prog 18 #[.pointer (some ⟨mb,0,none⟩),.bool true] h fun v h' => ∃ ad cap,v = .slice ad (dueM M).length cap ∧ Own h' (.slice ad (dueM M).length cap) 9 (dueM M).length 1 ((dueM M).map Value.string) ∧ (∀ k,ad.map (fun (x : Addr) => x.block) = some k → h.size ≤ k) ∧ Ext h h' := by
 have hm := md.hm
 have hp := md.hp
 obtain ⟨oaf,hg⟩ := md.choose
 have hLn := md.ln
 have e0 := Ext.refl h
 have sep : Sep h.size h.size [] := Sep.nil _ _
 refine sat_in Tryd.func18 42 fun a hF => ?_
 refine qP [] hF fun a hF => ?_
 refine qP [(5,.slice none 0 0)] hF fun a hF => ?_
 refine qP [(6,.slice none 0 0)] hF fun a hF => ?_
 refine cS ?_
 refine qS hF ?_
 refine tC 3 (.map (some mp)) (Calm.load (T := 54) (p := ⟨mb,0,none⟩) (by kernel_rfl) (Loads.one (k := 1) (by kernel_rfl) ((hcell_blk (e0.blk hm)).trans rfl))) ?_
 refine tF 4 (Does.range (t := 54) (k := 9) (el := 68) (by kernel_rfl) (by kernel_rfl) (e0.blk hp)) ?_
 rintro _ h1 ⟨rfl,hh⟩
 have g := push_ext hh
 have hit := push_at hh
 have hlo := e0.size
 have sepo := sep
 replace e0 := e0.ext g
 replace sep := sep.up g.size
 replace sep := sepo.new hlo (blk_lt hit)
 clear sepo hlo hh g
 refine sT [(13,pV h.size)] fun a hF => ?_
 refine cB 0 ?_
 have own_o : Own h1 (.slice none 0 0) 66 0 39 (rrow (([] : List Ent).map (rcG oaf))) := Own.nil _ _ _
 have own_s : Own h1 (.slice none 0 0) 9 0 1 ((live (([] : List Ent).map (rcG oaf))).map Value.string) := Own.nil _ _ _
 have hlo := e0.size
 replace sep := (sep.none hlo).none hlo; clear hlo
 refine cL (fun m a h' => ∃ D : List Ent,∃ R : List Ent,∃ ad : Option Addr,∃ cap : Nat,∃ ad2 : Option Addr,∃ cap2 : Nat,m = R.length ∧ (Ext h h') ∧ ((D ++ R).Perm L) ∧ (h'[h.size]? = some (itr mp ck D)) ∧ (Own h' (.slice ad ((D.map (rcG oaf)).length) cap) 66 ((D.map (rcG oaf)).length) 39 (rrow (D.map (rcG oaf)))) ∧ (Own h' (.slice ad2 ((live (D.map (rcG oaf))).length) cap2) 9 ((live (D.map (rcG oaf))).length) 1 ((live (D.map (rcG oaf))).map Value.string)) ∧ (Sep h.size h'.size [ad2.map (·.block),ad.map (·.block),some h.size]) ∧ (Fr a 42 [(0,.pointer (some ⟨mb,0,none⟩)),(1,.bool true),(5,.slice ad ((D.map (rcG oaf)).length) cap),(6,.slice ad2 ((live (D.map (rcG oaf))).length) cap2),(13,.pointer (some ⟨h.size,0,none⟩))])) (L.length) ⟨[],L,none,0,none,0,rfl,e0,(List.Perm.refl _),hit,own_o,own_s,sep,hF.to⟩ ?_
 clear hF a
 clear e0
 clear hit
 clear own_o
 clear own_s
 clear sep
 rintro m a h2 ⟨D,R,ad,cap,ad2,cap2,rfl,e0,hP,hit,own_o,own_s,sep,hF⟩
 refine cS ?_
 rcases (by cases R <;> simp : R = [] ∨ R ≠ []) with hR | hR
 ·skip
  refine rS hF ?_
  refine tC 0 (.tuple #[.bool false]) (nextNil (by kernel_rfl) hit (e0.blk hp) hP md.bo hR) ?_
  refine sE [(15,.bool false)] fun a hF => ?_
  refine tK ?_
  refine cS ?_
  refine cF 15 hF ?_
  refine cX 0 (xT (xT (xB ?_)))
  refine tK ?_
  refine cS ?_
  refine qP [(32,.bool true)] hF fun a hF => ?_
  refine cT 32 hF ?_
  refine qS hF ?_
  refine tC 4 (.int .i64 M.t) (Calm.load (T := 3) (p := ⟨mb,2,none⟩) (by kernel_rfl) (Loads.one (k := 1) (by kernel_rfl) ((hcell_blk (e0.blk hm)).trans rfl))) ?_
  subst hR
  rw [List.append_nil] at hP
  have hen := md.enum hg hP
  have hDl := hP.length_eq
  have hlv := live_le (D.map (rcG oaf))
  rw [List.length_map] at hlv
  have hse := e0.size
  refine tG 5 (due_sat _ (D.map (rcG oaf)) _ _ M.t 1099511627776 sorts_all own_o.row (by rw [List.length_map]; omega) (fun r hr => recok0 hg hP hr) (Nat.le_trans (List.length_filter_le _ _) (by rw [List.length_map]; omega))) ?_
  rintro _ h5 ⟨M2,ad3,cap4,hPM,hSM,rfl,own_d,hge,g⟩
  replace e0 := e0.ext g
  replace own_s := own_s.ext g
  replace own_o := own_o.ext g
  replace hit := g.blk hit
  replace sep := sep.up g.size
  refine sT [(4,.slice ad3 M2.length cap4)] fun a hF => ?_
  refine cR (yT ?_)
  refine rT 4 (.slice ad3 M2.length cap4) hF ?_
  have hdm := dueM_eq hen hPM hSM
  have hdl : M2.length = (dueM M).length := by rw [hdm]; unfold ids; rw [List.length_map]
  rw [hdl,← hdm] at own_d
  exact ⟨ad3,cap4,by rw [hdl],own_d,fun k e => Nat.le_trans hse (hge k e),e0⟩
 ·skip
  refine rS hF ?_
  refine tF 0 (nextCons (by kernel_rfl) hit (e0.blk hp) hP md.bo hR) ?_
  rintro _ h6 ⟨x,R',hP2,hRl,hxL,rfl,hh⟩
  obtain ⟨hit2,gi⟩ := itr_put hh hit
  replace e0 := e0.grew gi (sep.low 2 rfl)
  replace own_s := own_s.kept gi (by rw [blkOf_slice]; exact (sep.ap 0 2))
  replace own_o := own_o.kept gi (by rw [blkOf_slice]; exact (sep.ap 1 2))
  replace hit := hit
  replace sep := sep.up gi.size
  clear hit; have hit := hit2; clear hit2 hh gi
  have hh3 := hg x hxL
  have hDl : D.length < L.length := by have := hP2.length_eq; simp at this; omega
  refine sE [(15,.bool true)] fun a hF => ?_
  refine tK ?_
  refine cS ?_
  refine cT 15 hF ?_
  refine cN ?_
  refine tK ?_
  refine cB 1 ?_
  refine qS hF ?_
  refine tC 0 (.tuple #[.string x.1,.agg (obx ((rcG oaf x).b) ((rcG oaf x).e) ((rcG oaf x).ho) ((rcG oaf x).go) (.slice (rcG oaf x).ad ((rcG oaf x).n) ((rcG oaf x).cap)) (.slice (oaf x).ba ((oaf x).o.dt.length) ((oaf x).bc))).toArray]) (entryV (by kernel_rfl) hit (e0.blk hp) hxL md.bo hh3.hv) ?_
  refine tN 3 (pV h6.size) ((obx rb0 (0 : Int) false false (.slice none 0 0) (.slice none 0 0)).toArray) 68 fun h7 g8 m9 => ?_
  have lt10 := blk_lt m9
  have zs11 := e0.size
  have hlo := e0.size
  have sepo := sep
  replace e0 := e0.ext g8
  replace own_s := own_s.ext g8
  replace own_o := own_o.ext g8
  replace hit := g8.blk hit
  replace sep := sep.up g8.size
  replace sep := sepo.new hlo (blk_lt m9)
  clear sepo hlo
  refine tW 5 0 (obx ((rcG oaf x).b) ((rcG oaf x).e) ((rcG oaf x).ho) ((rcG oaf x).go) (.slice (rcG oaf x).ad ((rcG oaf x).n) ((rcG oaf x).cap)) (.slice (oaf x).ba ((oaf x).o.dt.length) ((oaf x).bc))) (obx rb0 (0 : Int) false false (.slice none 0 0) (.slice none 0 0)) (obx ((rcG oaf x).b) ((rcG oaf x).e) ((rcG oaf x).ho) ((rcG oaf x).go) (.slice (rcG oaf x).ad ((rcG oaf x).n) ((rcG oaf x).cap)) (.slice (oaf x).ba ((oaf x).o.dt.length) ((oaf x).bc))) m9 (fun h12 g13 m9' => ?_)
  replace e0 := e0.grew g13 (sep.low 0 rfl)
  replace own_s := own_s.kept g13 (by rw [blkOf_slice]; exact (sep.ap 1 0))
  replace own_o := own_o.kept g13 (by rw [blkOf_slice]; exact (sep.ap 2 0))
  replace hit := g13.blk hit (sep.bp 3 0)
  replace sep := sep.up g13.size
  clear m9; have m9 := m9'; clear m9'
  refine sT [(7,.string x.1),(8,pV h6.size)] fun a hF => ?_
  refine qS hF ?_
  refine tC 2 (.agg (rcs (rcG oaf x)).toArray) (Calm.load (T := 66) (p := ⟨h6.size,0,none⟩) (by kernel_rfl) (Loads.blk (vs := rc ((rcG oaf x).b) ((rcG oaf x).e) ((rcG oaf x).ho) ((rcG oaf x).go) (.slice (rcG oaf x).ad ((rcG oaf x).n) ((rcG oaf x).cap))) (by kernel_rfl) m9 rfl)) ?_
  refine tN 3 (.slice (some ⟨h12.size,0,none⟩) 1 1) ((rrow [(rcG oaf x)]).toArray) 66 fun h14 g15 m16 => ?_
  have lt17 := blk_lt m16
  have zs18 := e0.size
  have hlo := e0.size
  have sepo := sep
  replace e0 := e0.ext g15
  replace own_s := own_s.ext g15
  replace own_o := own_o.ext g15
  replace hit := g15.blk hit
  replace m9 := Ext.blk g15 m9
  replace sep := sep.up g15.size
  replace sep := sepo.new hlo (blk_lt m16)
  clear sepo hlo
  refine tF 4 (Does.append2 (t := 88) (E := 66) (sz := 39) (by_ := 104) (n := (D.map (rcG oaf)).length) (m := 1) (v := .slice ad ((D.map (rcG oaf)).length) cap) (x := .slice (some ⟨h12.size,0,none⟩) 1 1) (xs := (rrow (D.map (rcG oaf)))) (ys := (rrow ([(rcG oaf x)]))) (by kernel_rfl) (by kernel_rfl) own_o (Row.blk (n := 1) (sz := 39) (l := rrow [(rcG oaf x)]) m16 rfl) (rrow_one _) (by unfold maxLen; rw [List.length_map]; omega) (by rw [List.length_map]; omega)) ?_
  rintro _ h21 ⟨ad19,cap20,rfl,ownx,g,hb⟩
  rw [blkOf_slice] at g hb
  have hlo := e0.size
  have sepo := sep
  replace e0 := e0.grew g (sep.low 3 rfl)
  replace own_s := own_s.kept g (by rw [blkOf_slice]; exact (sep.ap 2 3))
  replace hit := g.blk hit (sep.bp 4 3)
  replace m9 := Grew.blk g m9 ((sep.bp 1 3))
  replace m16 := Grew.blk g m16 ((sep.bp 0 3))
  replace sep := sep.up g.size
  replace sep : Sep h.size h21.size [some (h12.size),some (h6.size),ad2.map (·.block),ad19.map (·.block),some h.size] := sepo.set g.size hlo 3 (y := ad19.map (fun (x : Addr) => x.block)) rfl (hb.imp id fun e => .inr ⟨_,e,Nat.le_refl _⟩) (fun k e => ownx.lt (by rw [blkOf_slice]; exact e))
  replace own_o : Own h21 (.slice ad19 ((D.map (rcG oaf) ++ [(rcG oaf x)]).length) cap20) 66 ((D.map (rcG oaf) ++ [(rcG oaf x)]).length) 39 (rrow (D.map (rcG oaf) ++ [(rcG oaf x)])) := Own.appG ownx (by first | rfl | exact List.flatMap_append.symm | simp [rrow]) (by first | rfl | (simp; done) | (simp; omega))
  clear ownx g hb hlo sepo
  rw [recs_snoc] at own_o
  refine sT [(5,.slice ad19 (((D.map (rcG oaf)).length) + 1) cap20)] fun a hF => ?_
  have hcan : (((D.map (rcG oaf)).length) + 1 : Nat) = ((D ++ [x]).map (rcG oaf)).length := by first | (simp; done) | (simp; omega)
  rw [hcan] at hF; clear hcan
  refine qS hF ?_
  refine tC 2 (.bool ((rcG oaf x).go)) (Calm.load (T := 4) (p := ⟨h6.size,37,none⟩) (by kernel_rfl) (Loads.one (k := 1) (by kernel_rfl) ((hcell_blk m9).trans (rfl)))) ?_
  refine sT [(27,.bool (!((rcG oaf x).go)))] fun a hF => ?_
  refine cC 27 (!((rcG oaf x).go)) hF (fun hc22 => ?_) (fun hc22 => ?_)
  ·skip
   replace hc22 : (rcG oaf x).go = false := by simpa using hc22
   refine rS hF ?_
   refine tN 2 (.slice (some ⟨h21.size,0,none⟩) 1 1) (#[.string x.1]) 9 fun h23 g24 m25 => ?_
   have lt26 := blk_lt m25
   have zs27 := e0.size
   have hlo := e0.size
   have sepo := sep
   replace e0 := e0.ext g24
   replace own_s := own_s.ext g24
   replace own_o := own_o.ext g24
   replace hit := g24.blk hit
   replace m9 := Ext.blk g24 m9
   replace m16 := Ext.blk g24 m16
   replace sep := sep.up g24.size
   replace sep := sepo.new hlo (blk_lt m25)
   clear sepo hlo
   have hlv := live_le (D.map (rcG oaf))
   rw [List.length_map] at hlv
   refine tF 3 (Does.append2 (t := 36) (E := 9) (sz := 1) (by_ := 16) (n := (live (D.map (rcG oaf))).length) (m := 1) (v := .slice ad2 ((live (D.map (rcG oaf))).length) cap2) (x := .slice (some ⟨h21.size,0,none⟩) 1 1) (xs := ((live (D.map (rcG oaf))).map Value.string)) (ys := (([x.1]).map Value.string)) (by kernel_rfl) (by kernel_rfl) own_s (Row.blk (n := 1) (sz := 1) (l := [x.1].map Value.string) m25 rfl) (ones_str _) (by unfold maxLen; omega) (by omega)) ?_
   rintro _ h30 ⟨ad28,cap29,rfl,ownx,g,hb⟩
   rw [blkOf_slice] at g hb
   have hlo := e0.size
   have sepo := sep
   replace e0 := e0.grew g (sep.low 3 rfl)
   replace own_o := own_o.kept g (by rw [blkOf_slice]; exact (sep.ap 4 3))
   replace hit := g.blk hit (sep.bp 5 3)
   replace m9 := Grew.blk g m9 ((sep.bp 2 3))
   replace m16 := Grew.blk g m16 ((sep.bp 1 3))
   replace m25 := Grew.blk g m25 ((sep.bp 0 3))
   replace sep := sep.up g.size
   replace sep : Sep h.size h30.size [some (h21.size),some (h12.size),some (h6.size),ad28.map (·.block),ad19.map (·.block),some h.size] := sepo.set g.size hlo 3 (y := ad28.map (fun (x : Addr) => x.block)) rfl (hb.imp id fun e => .inr ⟨_,e,Nat.le_refl _⟩) (fun k e => ownx.lt (by rw [blkOf_slice]; exact e))
   replace own_s : Own h30 (.slice ad28 ((live (D.map (rcG oaf)) ++ [x.1]).length) cap29) 9 ((live (D.map (rcG oaf)) ++ [x.1]).length) 1 ((live (D.map (rcG oaf)) ++ [x.1]).map Value.string) := Own.appG ownx (by first | rfl | simp) (by first | rfl | (simp; done) | (simp; omega))
   clear ownx g hb hlo sepo
   have hlo3 : live (D.map (rcG oaf)) ++ [x.1] = live ((D ++ [x]).map (rcG oaf)) := by rw [live_on hc22,hh3.id]
   rw [hlo3] at own_s
   refine sE [(6,.slice ad28 (((live (D.map (rcG oaf))).length) + 1) cap29)] fun a hF => ?_
   have hcan : (((live (D.map (rcG oaf))).length) + 1 : Nat) = (live ((D ++ [x]).map (rcG oaf))).length := by first | (rw [← hlo3,List.length_append]; rfl) | (simp; done) | (simp; omega)
   rw [hcan] at hF; clear hcan
   refine bK ?_
   clear m9 lt10 zs11
   clear m16 lt17 zs18
   clear m25 lt26 zs27
   replace sep := sep.sub (l' := [ad28.map (·.block),ad19.map (·.block),some h.size]) (.cons _ (.cons _ (.cons _ (.cons_cons _ (.cons_cons _ (.cons_cons _ (.slnil)))))))
   show ∃ m',m' < _ ∧ _
   refine ⟨_,?_,(D ++ [x]),R',ad19,cap20,ad28,cap29,rfl,e0,hP2,hit,own_o,own_s,sep,hF.to⟩
   omega
  ·skip
   replace hc22 : (rcG oaf x).go = true := by simpa using hc22
   rw [← live_go hc22] at own_s
   rw [← live_go hc22] at hF
   refine cN ?_
   refine bK ?_
   clear m9 lt10 zs11
   clear m16 lt17 zs18
   replace sep := sep.sub (l' := [ad2.map (·.block),ad19.map (·.block),some h.size]) (.cons _ (.cons _ (.cons_cons _ (.cons_cons _ (.cons_cons _ (.slnil))))))
   show ∃ m',m' < _ ∧ _
   refine ⟨_,?_,(D ++ [x]),R',ad19,cap20,ad2,cap2,rfl,e0,hP2,hit,own_o,own_s,sep,hF.to⟩
   omega
end Go.Proofs.YtegkejcglfgpmaaDoor
end
section
namespace Go.Proofs.YtegkejcglfgpmaaDoor
open Go Go.Lane Go.Sha
noncomputable def b22 : Code := Tryd.f22.body.getD .skip
theorem stat_sat (h : Heap) (x : RB) (e : Int) (ho go : Bool) (c d : Value) : Sat Tryd.prog 22 #[.agg (obx x e ho go (c) (d)).toArray] h fun v h' => v = .agg (stc x e ho go).toArray ∧ Ext h h' := by
 have e0 := Ext.refl h
 have sep : Sep h.size h.size [] := Sep.nil _ _
 refine sat_in Tryd.func22 22 fun a hF => ?_
 refine qS hF ?_
 refine tN 0 (pV h.size) ((obx x e ho go (c) (d)).toArray) 68 fun h1 g2 m3 => ?_
 have lt4 := blk_lt m3
 have zs5 := e0.size
 have hlo := e0.size
 have sepo := sep
 replace e0 := e0.ext g2
 replace sep := sep.up g2.size
 replace sep := sepo.new hlo (blk_lt m3)
 clear sepo hlo
 refine tN 1 (pV h1.size) ((stc rb0 (0 : Int) false false).toArray) 35 fun h6 g7 m8 => ?_
 have lt9 := blk_lt m8
 have zs10 := e0.size
 have hlo := e0.size
 have sepo := sep
 replace e0 := e0.ext g7
 replace m3 := Ext.blk g7 m3
 replace sep := sep.up g7.size
 replace sep := sepo.new hlo (blk_lt m8)
 clear sepo hlo
 refine sT [(1,pV h.size),(2,pV h1.size)] fun a hF => ?_
 refine qS hF ?_
 refine tC 2 (.int .i64 x.len) (Calm.load (T := 3) (p := ⟨h.size,1,none⟩) (by kernel_rfl) (Loads.one (k := 1) (by kernel_rfl) ((hcell_blk m3).trans (rfl)))) ?_
 refine tC 5 (.agg ((hl x).map bv).toArray) (Calm.load (T := 33) (p := ⟨h.size,2,none⟩) (by kernel_rfl) (Loads.blk (vs := (hl x).map bv) (by kernel_rfl) m3 rfl)) ?_
 refine tC 8 (.int .i64 x.idx) (Calm.load (T := 3) (p := ⟨h.size,34,none⟩) (by kernel_rfl) (Loads.one (k := 1) (by kernel_rfl) ((hcell_blk m3).trans (rfl)))) ?_
 refine tC 11 (.int .i64 e) (Calm.load (T := 3) (p := ⟨h.size,35,none⟩) (by kernel_rfl) (Loads.one (k := 1) (by kernel_rfl) ((hcell_blk m3).trans (rfl)))) ?_
 refine tC 14 (.bool ho) (Calm.load (T := 4) (p := ⟨h.size,36,none⟩) (by kernel_rfl) (Loads.one (k := 1) (by kernel_rfl) ((hcell_blk m3).trans (rfl)))) ?_
 refine tC 17 (.bool go) (Calm.load (T := 4) (p := ⟨h.size,37,none⟩) (by kernel_rfl) (Loads.one (k := 1) (by kernel_rfl) ((hcell_blk m3).trans (rfl)))) ?_
 refine tW 19 0 (stc x e ho go) (stc rb0 (0 : Int) false false) (stc x e ho go) m8 (fun h11 g12 m8' => ?_)
 replace e0 := e0.grew g12 (sep.low 0 rfl)
 replace m3 := Grew.blk g12 m3 ((sep.bp 1 0))
 replace sep := sep.up g12.size
 clear m8; have m8 := m8'; clear m8'
 refine sT [] fun a hF => ?_
 refine cR ?_
 refine ret_ok [.cell 2 35] [.agg (stc x e ho go).toArray] (.agg (stc x e ho go).toArray) rfl hF ⟨⟨_,rfl,Loads.blk (vs := stc x e ho go) (by kernel_rfl) m8 rfl⟩,trivial⟩ rfl ?_
 exact ⟨rfl,e0⟩
theorem incl_at (h : Heap) (L : List Hs) (va : Option Addr) (vc n : Nat) (hL : HR h va vc n L) (hn : n ≤ 1099511627000) (i : Int) (kt : Ktab h) (p : List Hs) (e : Int) (hz : inclZ L i = (p,e)) : Sat Tryd.prog 33 #[.slice va n vc,.int .i64 i] h fun v h' => ∃ ad cap,v = .tuple #[.slice ad p.length cap,.int .i64 e] ∧ Own h' (.slice ad p.length cap) 33 p.length 32 (hcs p) ∧ (∀ k,ad.map (fun (x : Addr) => x.block) = some k → h.size ≤ k) ∧ Ext h h' :=
 (tincl_sat h L va vc n hL hn i kt).mono fun v h' ⟨s,hv,ad,cap,hs,o,hge,g⟩ => by
  rw [hz] at hv hs o
  subst hs
  exact ⟨ad,cap,hv,o,hge,g⟩
theorem rroot_r (h : Heap) (L : List Hs) (va : Option Addr) (vc n : Nat) (hL : HR h va vc n L) (hn : n ≤ 1099511627000) (kt : Ktab h) : Sat Tryd.prog 19 #[.slice va n vc] h fun v h' => v = .agg ((hl (rbh (root L))).map bv).toArray ∧ Ext h h' := by
 rw [hl_rbh (root_len hL.2.1)]; exact troot_sat h L va vc n hL kt hn
noncomputable def b17 : Code := Tryd.f17.body.getD .skip
set_option maxHeartbeats 1000000 in
theorem ask_sat (h : Heap) (mb mp : Nat) (M : Md) (L : List Ent) (ck : Nat) (ea : Option Addr) (ec : Nat) (es : List Value) (md : ModA h mb mp M L ck ea ec es) (kd n : Int) (s : ByteArray) (oa : Option Addr) (on oc : Nat) (ka : Option Addr) (kn kc : Nat) (hsz : s.size ≤ 9223372036854775807) (kt : Ktab h) (hE : M.E.length ≤ 1099511627) : Sat Tryd.prog 17 #[.pointer (some ⟨mb,0,none⟩),.agg #[.int .i64 kd,.string s,.slice oa on oc,.int .i64 n,.slice ka kn kc]] h fun v h' => AnsAt h' v (askM M kd s) ∧ Ext h h' := by
 have hm := md.hm
 have hp := md.hp
 have e0 := Ext.refl h
 have h0s := kt.lt
 have sep : Sep h.size h.size [] := Sep.nil _ _
 refine sat_in Tryd.func17 59 fun a hF => ?_
 refine qS hF ?_
 refine tN 0 (pV h.size) (#[.int .i64 kd,.string s,.slice oa on oc,.int .i64 n,.slice ka kn kc]) 26 fun h1 g2 m3 => ?_
 have lt4 := blk_lt m3
 have zs5 := e0.size
 have hlo := e0.size
 have sepo := sep
 replace e0 := e0.ext g2
 replace kt := kt.ext g2
 replace sep := sep.up g2.size
 replace sep := sepo.new hlo (blk_lt m3)
 clear sepo hlo
 refine tN 1 (pV h1.size) ((asc (0 : Int) (.slice none 0 0) rb0 (0 : Int) false false (.slice none 0 0) (0 : Int) rb0 (0 : Int) (.slice none 0 0)).toArray) 41 fun h6 g7 m8 => ?_
 have lt9 := blk_lt m8
 have zs10 := e0.size
 have hlo := e0.size
 have sepo := sep
 replace e0 := e0.ext g7
 replace kt := kt.ext g7
 replace m3 := Ext.blk g7 m3
 replace sep := sep.up g7.size
 replace sep := sepo.new hlo (blk_lt m8)
 clear sepo hlo
 refine sT [(3,pV h.size),(4,pV h1.size)] fun a hF => ?_
 refine cS ?_
 rcases md.cases3 s with hok | ⟨hok,hf,hno⟩ | ⟨hok,A,x,B,o,rfl,hs,hf,hid,hdl,ca,cc,ba,bc,hv,r1,r2⟩
 ·skip
  refine rS hF ?_
  refine tB 2 9 1 (.string s) m3 ?_
  refine tG 3 (find_id _ mb mp M _ ck ea ec es (md.ext e0) s hsz hok) ?_
  rintro _ h11 ⟨rfl,g⟩
  replace e0 := e0.ext g
  replace kt := kt.ext g
  replace m3 := Ext.blk g m3
  replace m8 := Ext.blk g m8
  replace sep := sep.up g.size
  clear g
  refine tN 7 (pV h11.size) ((obx rb0 (0 : Int) false false (.slice none 0 0) (.slice none 0 0)).toArray) 68 fun h12 g13 m14 => ?_
  have lt15 := blk_lt m14
  have zs16 := e0.size
  have hlo := e0.size
  have sepo := sep
  replace e0 := e0.ext g13
  replace kt := kt.ext g13
  replace m3 := Ext.blk g13 m3
  replace m8 := Ext.blk g13 m8
  replace sep := sep.up g13.size
  replace sep := sepo.new hlo (blk_lt m14)
  clear sepo hlo
  refine tW 8 0 (obx rb0 (0 : Int) false false (.slice none 0 0) (.slice none 0 0)) (obx rb0 (0 : Int) false false (.slice none 0 0) (.slice none 0 0)) (obx rb0 (0 : Int) false false (.slice none 0 0) (.slice none 0 0)) m14 (fun h17 g18 m14' => ?_)
  replace e0 := e0.grew g18 (sep.low 0 rfl)
  replace kt := kt.grew g18 (sep.zero 0 rfl h0s)
  replace m3 := Grew.blk g18 m3 ((sep.bp 2 0))
  replace m8 := Grew.blk g18 m8 ((sep.bp 1 0))
  replace sep := sep.up g18.size
  clear m14; have m14 := m14'; clear m14'
  refine sE [(5,pV h11.size),(6,.int .i64 210)] fun a hF => ?_
  refine tK ?_
  refine cS ?_
  refine cB 0 ?_
  refine qP [(14,.bool true)] hF fun a hF => ?_
  refine cT 14 hF ?_
  refine rS hF ?_
  refine tW 2 0 ([.int .i64 210]) (asc (0 : Int) (.slice none 0 0) rb0 (0 : Int) false false (.slice none 0 0) (0 : Int) rb0 (0 : Int) (.slice none 0 0)) (asc (210 : Int) (.slice none 0 0) rb0 (0 : Int) false false (.slice none 0 0) (0 : Int) rb0 (0 : Int) (.slice none 0 0)) m8 (fun h19 g20 m8' => ?_)
  replace e0 := e0.grew g20 (sep.low 1 rfl)
  replace kt := kt.grew g20 (sep.zero 1 rfl h0s)
  replace m3 := Grew.blk g20 m3 ((sep.bp 2 1))
  replace m14 := Grew.blk g20 m14 ((sep.bp 0 1))
  replace sep := sep.up g20.size
  clear m8; have m8 := m8'; clear m8'
  refine sE [] fun a hF => ?_
  refine bK ?_
  refine tK ?_
  refine qS hF ?_
  refine tC 0 (.agg (asc (210 : Int) (.slice none 0 0) rb0 (0 : Int) false false (.slice none 0 0) (0 : Int) rb0 (0 : Int) (.slice none 0 0)).toArray) (Calm.load (T := 41) (p := ⟨h1.size,0,none⟩) (by kernel_rfl) (Loads.blk (vs := asc (210 : Int) (.slice none 0 0) rb0 (0 : Int) false false (.slice none 0 0) (0 : Int) rb0 (0 : Int) (.slice none 0 0)) (by kernel_rfl) m8 rfl)) ?_
  refine tW 1 0 (asc (210 : Int) (.slice none 0 0) rb0 (0 : Int) false false (.slice none 0 0) (0 : Int) rb0 (0 : Int) (.slice none 0 0)) (asc (210 : Int) (.slice none 0 0) rb0 (0 : Int) false false (.slice none 0 0) (0 : Int) rb0 (0 : Int) (.slice none 0 0)) (asc (210 : Int) (.slice none 0 0) rb0 (0 : Int) false false (.slice none 0 0) (0 : Int) rb0 (0 : Int) (.slice none 0 0)) m8 (fun h21 g22 m8' => ?_)
  replace e0 := e0.grew g22 (sep.low 1 rfl)
  replace kt := kt.grew g22 (sep.zero 1 rfl h0s)
  replace m3 := Grew.blk g22 m3 ((sep.bp 2 1))
  replace m14 := Grew.blk g22 m14 ((sep.bp 0 1))
  replace sep := sep.up g22.size
  clear m8; have m8 := m8'; clear m8'
  refine sT [] fun a hF => ?_
  refine cR ?_
  refine ret_ok [.cell 4 41] [.agg (asc (210 : Int) (.slice none 0 0) rb0 (0 : Int) false false (.slice none 0 0) (0 : Int) rb0 (0 : Int) (.slice none 0 0)).toArray] (.agg (asc (210 : Int) (.slice none 0 0) rb0 (0 : Int) false false (.slice none 0 0) (0 : Int) rb0 (0 : Int) (.slice none 0 0)).toArray) rfl hF ⟨⟨_,rfl,Loads.blk (vs := asc (210 : Int) (.slice none 0 0) rb0 (0 : Int) false false (.slice none 0 0) (0 : Int) rb0 (0 : Int) (.slice none 0 0)) (by kernel_rfl) m8 rfl⟩,trivial⟩ rfl ?_
  rw [askM_id hok]; exact ⟨ansC _ 210,e0⟩
 ·skip
  refine rS hF ?_
  refine tB 2 9 1 (.string s) m3 ?_
  refine tG 3 (find_none _ mb mp M _ ck ea ec es (md.ext e0) s hno hok) ?_
  rintro _ h23 ⟨rfl,g⟩
  replace e0 := e0.ext g
  replace kt := kt.ext g
  replace m3 := Ext.blk g m3
  replace m8 := Ext.blk g m8
  replace sep := sep.up g.size
  clear g
  refine tN 7 (pV h23.size) ((obx rb0 (0 : Int) false false (.slice none 0 0) (.slice none 0 0)).toArray) 68 fun h24 g25 m26 => ?_
  have lt27 := blk_lt m26
  have zs28 := e0.size
  have hlo := e0.size
  have sepo := sep
  replace e0 := e0.ext g25
  replace kt := kt.ext g25
  replace m3 := Ext.blk g25 m3
  replace m8 := Ext.blk g25 m8
  replace sep := sep.up g25.size
  replace sep := sepo.new hlo (blk_lt m26)
  clear sepo hlo
  refine tW 8 0 (obx rb0 (0 : Int) false false (.slice none 0 0) (.slice none 0 0)) (obx rb0 (0 : Int) false false (.slice none 0 0) (.slice none 0 0)) (obx rb0 (0 : Int) false false (.slice none 0 0) (.slice none 0 0)) m26 (fun h29 g30 m26' => ?_)
  replace e0 := e0.grew g30 (sep.low 0 rfl)
  replace kt := kt.grew g30 (sep.zero 0 rfl h0s)
  replace m3 := Grew.blk g30 m3 ((sep.bp 2 0))
  replace m8 := Grew.blk g30 m8 ((sep.bp 1 0))
  replace sep := sep.up g30.size
  clear m26; have m26 := m26'; clear m26'
  refine sE [(5,pV h23.size),(6,.int .i64 211)] fun a hF => ?_
  refine tK ?_
  refine cS ?_
  refine cB 0 ?_
  refine qP [(14,.bool true)] hF fun a hF => ?_
  refine cT 14 hF ?_
  refine rS hF ?_
  refine tW 2 0 ([.int .i64 211]) (asc (0 : Int) (.slice none 0 0) rb0 (0 : Int) false false (.slice none 0 0) (0 : Int) rb0 (0 : Int) (.slice none 0 0)) (asc (211 : Int) (.slice none 0 0) rb0 (0 : Int) false false (.slice none 0 0) (0 : Int) rb0 (0 : Int) (.slice none 0 0)) m8 (fun h31 g32 m8' => ?_)
  replace e0 := e0.grew g32 (sep.low 1 rfl)
  replace kt := kt.grew g32 (sep.zero 1 rfl h0s)
  replace m3 := Grew.blk g32 m3 ((sep.bp 2 1))
  replace m26 := Grew.blk g32 m26 ((sep.bp 0 1))
  replace sep := sep.up g32.size
  clear m8; have m8 := m8'; clear m8'
  refine sE [] fun a hF => ?_
  refine bK ?_
  refine tK ?_
  refine qS hF ?_
  refine tC 0 (.agg (asc (211 : Int) (.slice none 0 0) rb0 (0 : Int) false false (.slice none 0 0) (0 : Int) rb0 (0 : Int) (.slice none 0 0)).toArray) (Calm.load (T := 41) (p := ⟨h1.size,0,none⟩) (by kernel_rfl) (Loads.blk (vs := asc (211 : Int) (.slice none 0 0) rb0 (0 : Int) false false (.slice none 0 0) (0 : Int) rb0 (0 : Int) (.slice none 0 0)) (by kernel_rfl) m8 rfl)) ?_
  refine tW 1 0 (asc (211 : Int) (.slice none 0 0) rb0 (0 : Int) false false (.slice none 0 0) (0 : Int) rb0 (0 : Int) (.slice none 0 0)) (asc (211 : Int) (.slice none 0 0) rb0 (0 : Int) false false (.slice none 0 0) (0 : Int) rb0 (0 : Int) (.slice none 0 0)) (asc (211 : Int) (.slice none 0 0) rb0 (0 : Int) false false (.slice none 0 0) (0 : Int) rb0 (0 : Int) (.slice none 0 0)) m8 (fun h33 g34 m8' => ?_)
  replace e0 := e0.grew g34 (sep.low 1 rfl)
  replace kt := kt.grew g34 (sep.zero 1 rfl h0s)
  replace m3 := Grew.blk g34 m3 ((sep.bp 2 1))
  replace m26 := Grew.blk g34 m26 ((sep.bp 0 1))
  replace sep := sep.up g34.size
  clear m8; have m8 := m8'; clear m8'
  refine sT [] fun a hF => ?_
  refine cR ?_
  refine ret_ok [.cell 4 41] [.agg (asc (211 : Int) (.slice none 0 0) rb0 (0 : Int) false false (.slice none 0 0) (0 : Int) rb0 (0 : Int) (.slice none 0 0)).toArray] (.agg (asc (211 : Int) (.slice none 0 0) rb0 (0 : Int) false false (.slice none 0 0) (0 : Int) rb0 (0 : Int) (.slice none 0 0)).toArray) rfl hF ⟨⟨_,rfl,Loads.blk (vs := asc (211 : Int) (.slice none 0 0) rb0 (0 : Int) false false (.slice none 0 0) (0 : Int) rb0 (0 : Int) (.slice none 0 0)) (by kernel_rfl) m8 rfl⟩,trivial⟩ rfl ?_
  rw [askM_none hok hf]; exact ⟨ansC _ 211,e0⟩
 ·skip
  refine rS hF ?_
  refine tB 2 9 1 (.string s) m3 ?_
  refine tG 3 (find_yes _ mb mp M _ ck ea ec es (md.ext e0) s x (List.mem_append_right _ (List.mem_cons_self ..)) hs o ca cc ba bc hv hok) ?_
  rintro _ h35 ⟨rfl,g⟩
  replace e0 := e0.ext g
  replace kt := kt.ext g
  replace m3 := Ext.blk g m3
  replace m8 := Ext.blk g m8
  replace sep := sep.up g.size
  clear g
  refine tN 7 (pV h35.size) ((obx rb0 (0 : Int) false false (.slice none 0 0) (.slice none 0 0)).toArray) 68 fun h36 g37 m38 => ?_
  have lt39 := blk_lt m38
  have zs40 := e0.size
  have hlo := e0.size
  have sepo := sep
  replace e0 := e0.ext g37
  replace kt := kt.ext g37
  replace m3 := Ext.blk g37 m3
  replace m8 := Ext.blk g37 m8
  replace sep := sep.up g37.size
  replace sep := sepo.new hlo (blk_lt m38)
  clear sepo hlo
  refine tW 8 0 (obx o.b o.e o.ho o.go (.slice ca 0 cc) (.slice ba o.dt.length bc)) (obx rb0 (0 : Int) false false (.slice none 0 0) (.slice none 0 0)) (obx o.b o.e o.ho o.go (.slice ca 0 cc) (.slice ba o.dt.length bc)) m38 (fun h41 g42 m38' => ?_)
  replace e0 := e0.grew g42 (sep.low 0 rfl)
  replace kt := kt.grew g42 (sep.zero 0 rfl h0s)
  replace m3 := Grew.blk g42 m3 ((sep.bp 2 0))
  replace m8 := Grew.blk g42 m8 ((sep.bp 1 0))
  replace sep := sep.up g42.size
  clear m38; have m38 := m38'; clear m38'
  refine sE [(5,pV h35.size),(6,.int .i64 0)] fun a hF => ?_
  refine tK ?_
  refine cS ?_
  refine cB 0 ?_
  refine qP [(14,.bool false)] hF fun a hF => ?_
  refine cF 14 hF ?_
  refine qS hF ?_
  refine tB 1 3 0 (.int .i64 kd) m3 ?_
  refine sT [(19,.bool (decide (kd = (3 : Int))))] fun a hF => ?_
  refine cJ 19 hF (fun hc43 => ?_) fun hc43 => ?_
  ·skip
   refine rS hF ?_
   refine tC 0 (.agg (obx o.b o.e o.ho o.go (.slice ca 0 cc) (.slice ba o.dt.length bc)).toArray) (Calm.load (T := 68) (p := ⟨h35.size,0,none⟩) (by kernel_rfl) (Loads.blk (vs := obx o.b o.e o.ho o.go (.slice ca 0 cc) (.slice ba o.dt.length bc)) (by kernel_rfl) m38 rfl)) ?_
   refine tG 1 (stat_sat _ o.b o.e o.ho o.go (.slice ca 0 cc) (.slice ba o.dt.length bc)) ?_
   rintro _ h44 ⟨rfl,g⟩
   replace e0 := e0.ext g
   replace kt := kt.ext g
   replace m3 := Ext.blk g m3
   replace m8 := Ext.blk g m8
   replace m38 := Ext.blk g m38
   replace sep := sep.up g.size
   clear g
   refine tW 3 2 (stc o.b o.e o.ho o.go) (asc (0 : Int) (.slice none 0 0) rb0 (0 : Int) false false (.slice none 0 0) (0 : Int) rb0 (0 : Int) (.slice none 0 0)) (asc (0 : Int) (.slice none 0 0) o.b o.e o.ho o.go (.slice none 0 0) (0 : Int) rb0 (0 : Int) (.slice none 0 0)) m8 (fun h45 g46 m8' => ?_)
   replace e0 := e0.grew g46 (sep.low 1 rfl)
   replace kt := kt.grew g46 (sep.zero 1 rfl h0s)
   replace m3 := Grew.blk g46 m3 ((sep.bp 2 1))
   replace m38 := Grew.blk g46 m38 ((sep.bp 0 1))
   replace sep := sep.up g46.size
   clear m8; have m8 := m8'; clear m8'
   refine sE [] fun a hF => ?_
   refine bK ?_
   refine tK ?_
   refine qS hF ?_
   refine tC 0 (.agg (asc (0 : Int) (.slice none 0 0) o.b o.e o.ho o.go (.slice none 0 0) (0 : Int) rb0 (0 : Int) (.slice none 0 0)).toArray) (Calm.load (T := 41) (p := ⟨h1.size,0,none⟩) (by kernel_rfl) (Loads.blk (vs := asc (0 : Int) (.slice none 0 0) o.b o.e o.ho o.go (.slice none 0 0) (0 : Int) rb0 (0 : Int) (.slice none 0 0)) (by kernel_rfl) m8 rfl)) ?_
   refine tW 1 0 (asc (0 : Int) (.slice none 0 0) o.b o.e o.ho o.go (.slice none 0 0) (0 : Int) rb0 (0 : Int) (.slice none 0 0)) (asc (0 : Int) (.slice none 0 0) o.b o.e o.ho o.go (.slice none 0 0) (0 : Int) rb0 (0 : Int) (.slice none 0 0)) (asc (0 : Int) (.slice none 0 0) o.b o.e o.ho o.go (.slice none 0 0) (0 : Int) rb0 (0 : Int) (.slice none 0 0)) m8 (fun h47 g48 m8' => ?_)
   replace e0 := e0.grew g48 (sep.low 1 rfl)
   replace kt := kt.grew g48 (sep.zero 1 rfl h0s)
   replace m3 := Grew.blk g48 m3 ((sep.bp 2 1))
   replace m38 := Grew.blk g48 m38 ((sep.bp 0 1))
   replace sep := sep.up g48.size
   clear m8; have m8 := m8'; clear m8'
   refine sT [] fun a hF => ?_
   refine cR ?_
   refine ret_ok [.cell 4 41] [.agg (asc (0 : Int) (.slice none 0 0) o.b o.e o.ho o.go (.slice none 0 0) (0 : Int) rb0 (0 : Int) (.slice none 0 0)).toArray] (.agg (asc (0 : Int) (.slice none 0 0) o.b o.e o.ho o.go (.slice none 0 0) (0 : Int) rb0 (0 : Int) (.slice none 0 0)).toArray) rfl hF ⟨⟨_,rfl,Loads.blk (vs := asc (0 : Int) (.slice none 0 0) o.b o.e o.ho o.go (.slice none 0 0) (0 : Int) rb0 (0 : Int) (.slice none 0 0)) (by kernel_rfl) m8 rfl⟩,trivial⟩ rfl ?_
   rw [askM_stat hok hf hc43]; exact ⟨⟨_,_,_,_,_,_,rfl,RowE.nil _ _,RowE.nil _ _,RowE.nil _ _,All32.nil⟩,e0⟩
  ·skip
   refine qS hF ?_
   refine tB 1 3 0 (.int .i64 kd) m3 ?_
   refine sT [(26,.bool (decide (kd = (16 : Int))))] fun a hF => ?_
   refine cJ 26 hF (fun hc49 => ?_) fun hc49 => ?_
   ·skip
    refine qS hF ?_
    refine tC 2 (.int .i64 o.b.idx) (Calm.load (T := 3) (p := ⟨h35.size,34,none⟩) (by kernel_rfl) (Loads.one (k := 1) (by kernel_rfl) ((hcell_blk m38).trans (rfl)))) ?_
    refine tW 4 73 ([.int .i64 o.b.idx]) (asc (0 : Int) (.slice none 0 0) rb0 (0 : Int) false false (.slice none 0 0) (0 : Int) rb0 (0 : Int) (.slice none 0 0)) (asc (0 : Int) (.slice none 0 0) rb0 (0 : Int) false false (.slice none 0 0) (0 : Int) rb0 o.b.idx (.slice none 0 0)) m8 (fun h50 g51 m8' => ?_)
    replace e0 := e0.grew g51 (sep.low 1 rfl)
    replace kt := kt.grew g51 (sep.zero 1 rfl h0s)
    replace m3 := Grew.blk g51 m3 ((sep.bp 2 1))
    replace m38 := Grew.blk g51 m38 ((sep.bp 0 1))
    replace sep := sep.up g51.size
    clear m8; have m8 := m8'; clear m8'
    refine sT [] fun a hF => ?_
    refine cD [0,1,0,4,12,31,63,127,127,255,767,2047,4095] 8 mixed hF ?_
    refine mP 13 [0,2,3] [pV mb,pV h35.size,.pointer (some ⟨h35.size,34,none⟩)] ?_
    refine mL 29 16 4 (.int .i64 o.b.idx) (Calm.load (T := 3) (p := ⟨h35.size,34,none⟩) (by kernel_rfl) (Loads.one (k := 1) (by kernel_rfl) ((hcell_blk m38).trans (rfl)))) ?_
    refine SimK.eff (i := 1) (D' := 31) (X' := 3) (by kernel_rfl) (by kernel_rfl) (by kernel_rfl) [4] (by kernel_rfl) (Does.call (f := 20) (args := #[.pointer (some ⟨mb,0,none⟩)]) (by kernel_rfl) (leaves_sat _ mb mp M _ ck ea ec es (md.ext e0) kt hE)) ?_
    rintro _ h54 ⟨ad52,cap53,rfl,ownx,hge,g⟩
    have hlo := e0.size
    have sepo := sep
    replace e0 := e0.ext g
    replace kt := kt.ext g
    replace m3 := Ext.blk g m3
    replace m8 := Ext.blk g m8
    replace m38 := Ext.blk g m38
    replace sep := sep.up g.size
    replace sep := sepo.cons (x := ad52.map (fun (x : Addr) => x.block)) g.size hlo (fun k e => ⟨hge k e,ownx.lt (by rw [blkOf_slice]; exact e)⟩)
    have own_l : Own h54 (.slice ad52 M.E.length cap53) 33 M.E.length 32 (hcs (ledH M.E)) := ownx; clear ownx sepo hlo hge g
    refine ⟨?_,?_⟩
    ·intro j hj
     simp only [List.mem_cons,List.not_mem_nil,or_false] at hj
     subst hj
     exact goodOf (Calm.load (T := 3) (p := ⟨h35.size,34,none⟩) (by kernel_rfl) (Loads.one (k := 1) (by kernel_rfl) ((hcell_blk m38).trans (rfl))))
    obtain ⟨p,e,hz⟩ : ∃ p e,inclZ (ledH M.E) o.b.idx = (p,e) := ⟨_,_,rfl⟩
    refine SimK.eff0 (i := 5) (D' := 63) (X' := 63) (by kernel_rfl) (by kernel_rfl) (by kernel_rfl) (by kernel_rfl) (Does.call (f := 33) (args := #[.slice ad52 M.E.length cap53,.int .i64 o.b.idx]) (by kernel_rfl) (incl_at _ (ledH M.E) _ _ M.E.length (HR.of own_l (ledH_32 _)) (by omega) o.b.idx kt p e hz)) ?_
    rintro _ h57 ⟨ad55,cap56,rfl,ownx,hge,g⟩
    have hlo := e0.size
    have sepo := sep
    replace e0 := e0.ext g
    replace kt := kt.ext g
    replace own_l := own_l.ext g
    replace m3 := Ext.blk g m3
    replace m8 := Ext.blk g m8
    replace m38 := Ext.blk g m38
    replace sep := sep.up g.size
    replace sep := sepo.cons (x := ad55.map (fun (x : Addr) => x.block)) g.size hlo (fun k e => ⟨hge k e,ownx.lt (by rw [blkOf_slice]; exact e)⟩)
    have own_p : Own h57 (.slice ad55 p.length cap56) 33 p.length 32 (hcs p) := ownx; clear ownx sepo hlo hge g
    refine mP 1023 [6,7,8,9] [.tuple #[.slice ad55 p.length cap56,.int .i64 e],.slice ad55 p.length cap56,.int .i64 e,.pointer (some ⟨h1.size,74,none⟩)] ?_
    refine SimK.eff0 (i := 10) (D' := 2047) (X' := 1791) (by kernel_rfl) (by kernel_rfl) (by kernel_rfl) (by kernel_rfl) (Does.store (b := h1.size) (off := 74) (vs := [.slice ad55 p.length cap56]) (l := asc (0 : Int) (.slice none 0 0) rb0 (0 : Int) false false (.slice none 0 0) (0 : Int) rb0 o.b.idx (.slice none 0 0)) (by kernel_rfl) m8 (of_decide_eq_true (by kernel_rfl)) (List.all_eq_true.1 (by kernel_rfl))) ?_
    rintro _ h58 ⟨rfl,hh⟩
    have g59 : Grew (some (h1.size)) h57 h58 := hput_gr hh
    replace m8 : h58[h1.size]? = some (.cells (asc (0 : Int) (.slice none 0 0) rb0 (0 : Int) false false (.slice none 0 0) (0 : Int) rb0 o.b.idx (.slice ad55 p.length cap56)).toArray 41) := hput_at (off := 74) (vs := [.slice ad55 p.length cap56]) (l := (asc (0 : Int) (.slice none 0 0) rb0 (0 : Int) false false (.slice none 0 0) (0 : Int) rb0 o.b.idx (.slice none 0 0))) hh (by kernel_rfl) m8
    clear hh
    replace e0 := e0.grew g59 (sep.low 3 rfl)
    replace kt := kt.grew g59 (sep.zero 3 rfl h0s)
    replace own_l := own_l.kept g59 (by rw [blkOf_slice]; exact (sep.ap 1 3))
    replace own_p := own_p.kept g59 (by rw [blkOf_slice]; exact (sep.ap 0 3))
    replace m3 := Grew.blk g59 m3 ((sep.bp 4 3))
    replace m38 := Grew.blk g59 m38 ((sep.bp 2 3))
    replace sep := sep.up g59.size
    refine mP 4095 [11] [pV h1.size] ?_
    refine SimK.eff0 (i := 12) (D' := 8191) (X' := 8191) (by kernel_rfl) (by kernel_rfl) (by kernel_rfl) (by kernel_rfl) (Does.store (b := h1.size) (off := 0) (vs := [.int .i64 e]) (l := asc (0 : Int) (.slice none 0 0) rb0 (0 : Int) false false (.slice none 0 0) (0 : Int) rb0 o.b.idx (.slice ad55 p.length cap56)) (by kernel_rfl) m8 (of_decide_eq_true (by kernel_rfl)) (List.all_eq_true.1 (by kernel_rfl))) ?_
    rintro _ h60 ⟨rfl,hh⟩
    have g61 : Grew (some (h1.size)) h58 h60 := hput_gr hh
    replace m8 : h60[h1.size]? = some (.cells (asc e (.slice none 0 0) rb0 (0 : Int) false false (.slice none 0 0) (0 : Int) rb0 o.b.idx (.slice ad55 p.length cap56)).toArray 41) := hput_at (off := 0) (vs := [.int .i64 e]) (l := (asc (0 : Int) (.slice none 0 0) rb0 (0 : Int) false false (.slice none 0 0) (0 : Int) rb0 o.b.idx (.slice ad55 p.length cap56))) hh (by kernel_rfl) m8
    clear hh
    replace e0 := e0.grew g61 (sep.low 3 rfl)
    replace kt := kt.grew g61 (sep.zero 3 rfl h0s)
    replace own_l := own_l.kept g61 (by rw [blkOf_slice]; exact (sep.ap 1 3))
    replace own_p := own_p.kept g61 (by rw [blkOf_slice]; exact (sep.ap 0 3))
    replace m3 := Grew.blk g61 m3 ((sep.bp 4 3))
    replace m38 := Grew.blk g61 m38 ((sep.bp 2 3))
    replace sep := sep.up g61.size
    refine mE [] fun a hF => ?_
    refine bK ?_
    refine tK ?_
    refine qS hF ?_
    refine tC 0 (.agg (asc e (.slice none 0 0) rb0 (0 : Int) false false (.slice none 0 0) (0 : Int) rb0 o.b.idx (.slice ad55 p.length cap56)).toArray) (Calm.load (T := 41) (p := ⟨h1.size,0,none⟩) (by kernel_rfl) (Loads.blk (vs := asc e (.slice none 0 0) rb0 (0 : Int) false false (.slice none 0 0) (0 : Int) rb0 o.b.idx (.slice ad55 p.length cap56)) (by kernel_rfl) m8 rfl)) ?_
    refine tW 1 0 (asc e (.slice none 0 0) rb0 (0 : Int) false false (.slice none 0 0) (0 : Int) rb0 o.b.idx (.slice ad55 p.length cap56)) (asc e (.slice none 0 0) rb0 (0 : Int) false false (.slice none 0 0) (0 : Int) rb0 o.b.idx (.slice ad55 p.length cap56)) (asc e (.slice none 0 0) rb0 (0 : Int) false false (.slice none 0 0) (0 : Int) rb0 o.b.idx (.slice ad55 p.length cap56)) m8 (fun h62 g63 m8' => ?_)
    replace e0 := e0.grew g63 (sep.low 3 rfl)
    replace kt := kt.grew g63 (sep.zero 3 rfl h0s)
    replace own_l := own_l.kept g63 (by rw [blkOf_slice]; exact (sep.ap 1 3))
    replace own_p := own_p.kept g63 (by rw [blkOf_slice]; exact (sep.ap 0 3))
    replace m3 := Grew.blk g63 m3 ((sep.bp 4 3))
    replace m38 := Grew.blk g63 m38 ((sep.bp 2 3))
    replace sep := sep.up g63.size
    clear m8; have m8 := m8'; clear m8'
    refine sT [] fun a hF => ?_
    refine cR ?_
    refine ret_ok [.cell 4 41] [.agg (asc e (.slice none 0 0) rb0 (0 : Int) false false (.slice none 0 0) (0 : Int) rb0 o.b.idx (.slice ad55 p.length cap56)).toArray] (.agg (asc e (.slice none 0 0) rb0 (0 : Int) false false (.slice none 0 0) (0 : Int) rb0 o.b.idx (.slice ad55 p.length cap56)).toArray) rfl hF ⟨⟨_,rfl,Loads.blk (vs := asc e (.slice none 0 0) rb0 (0 : Int) false false (.slice none 0 0) (0 : Int) rb0 o.b.idx (.slice ad55 p.length cap56)) (by kernel_rfl) m8 rfl⟩,trivial⟩ rfl ?_
    have hpp : (inclZ (ledH M.E) o.b.idx).1 = p := by rw [hz]
    rw [askM_prove hok hf hc49 hz]; exact ⟨⟨_,_,_,_,_,_,rfl,RowE.nil _ _,RowE.nil _ _,RowE.of own_p (by decide),hpp ▸ inclZ_32 (ledH_32 _) _⟩,e0⟩
   ·skip
    refine qS hF ?_
    refine tC 2 (.bool o.go) (Calm.load (T := 4) (p := ⟨h35.size,37,none⟩) (by kernel_rfl) (Loads.one (k := 1) (by kernel_rfl) ((hcell_blk m38).trans (rfl)))) ?_
    refine sT [(45,.bool o.go)] fun a hF => ?_
    refine cC 45 o.go hF (fun hc64 => ?_) (fun hc64 => ?_)
    ·skip
     have hgo := hc64
     refine rS hF ?_
     refine tW 1 0 ([.int .i64 213]) (asc (0 : Int) (.slice none 0 0) rb0 (0 : Int) false false (.slice none 0 0) (0 : Int) rb0 (0 : Int) (.slice none 0 0)) (asc (213 : Int) (.slice none 0 0) rb0 (0 : Int) false false (.slice none 0 0) (0 : Int) rb0 (0 : Int) (.slice none 0 0)) m8 (fun h65 g66 m8' => ?_)
     replace e0 := e0.grew g66 (sep.low 1 rfl)
     replace kt := kt.grew g66 (sep.zero 1 rfl h0s)
     replace m3 := Grew.blk g66 m3 ((sep.bp 2 1))
     replace m38 := Grew.blk g66 m38 ((sep.bp 0 1))
     replace sep := sep.up g66.size
     clear m8; have m8 := m8'; clear m8'
     refine sE [] fun a hF => ?_
     refine bK ?_
     refine tK ?_
     refine qS hF ?_
     refine tC 0 (.agg (asc (213 : Int) (.slice none 0 0) rb0 (0 : Int) false false (.slice none 0 0) (0 : Int) rb0 (0 : Int) (.slice none 0 0)).toArray) (Calm.load (T := 41) (p := ⟨h1.size,0,none⟩) (by kernel_rfl) (Loads.blk (vs := asc (213 : Int) (.slice none 0 0) rb0 (0 : Int) false false (.slice none 0 0) (0 : Int) rb0 (0 : Int) (.slice none 0 0)) (by kernel_rfl) m8 rfl)) ?_
     refine tW 1 0 (asc (213 : Int) (.slice none 0 0) rb0 (0 : Int) false false (.slice none 0 0) (0 : Int) rb0 (0 : Int) (.slice none 0 0)) (asc (213 : Int) (.slice none 0 0) rb0 (0 : Int) false false (.slice none 0 0) (0 : Int) rb0 (0 : Int) (.slice none 0 0)) (asc (213 : Int) (.slice none 0 0) rb0 (0 : Int) false false (.slice none 0 0) (0 : Int) rb0 (0 : Int) (.slice none 0 0)) m8 (fun h67 g68 m8' => ?_)
     replace e0 := e0.grew g68 (sep.low 1 rfl)
     replace kt := kt.grew g68 (sep.zero 1 rfl h0s)
     replace m3 := Grew.blk g68 m3 ((sep.bp 2 1))
     replace m38 := Grew.blk g68 m38 ((sep.bp 0 1))
     replace sep := sep.up g68.size
     clear m8; have m8 := m8'; clear m8'
     refine sT [] fun a hF => ?_
     refine cR ?_
     refine ret_ok [.cell 4 41] [.agg (asc (213 : Int) (.slice none 0 0) rb0 (0 : Int) false false (.slice none 0 0) (0 : Int) rb0 (0 : Int) (.slice none 0 0)).toArray] (.agg (asc (213 : Int) (.slice none 0 0) rb0 (0 : Int) false false (.slice none 0 0) (0 : Int) rb0 (0 : Int) (.slice none 0 0)).toArray) rfl hF ⟨⟨_,rfl,Loads.blk (vs := asc (213 : Int) (.slice none 0 0) rb0 (0 : Int) false false (.slice none 0 0) (0 : Int) rb0 (0 : Int) (.slice none 0 0)) (by kernel_rfl) m8 rfl⟩,trivial⟩ rfl ?_
     rw [askM_gone hok hf hc43 hc49 hgo]; exact ⟨ansC _ 213,e0⟩
    ·skip
     have hgo := hc64
     refine qS hF ?_
     refine tB 1 3 0 (.int .i64 kd) m3 ?_
     refine sT [(50,.bool (decide (kd = (2 : Int))))] fun a hF => ?_
     refine cJ 50 hF (fun hc69 => ?_) fun hc69 => ?_
     ·skip
      refine rS hF ?_
      refine tC 1 (.slice ba o.dt.length bc) (Calm.load (T := 23) (p := ⟨h35.size,39,none⟩) (by kernel_rfl) (Loads.one (k := 1) (by kernel_rfl) ((hcell_blk m38).trans (rfl)))) ?_
      refine tG 2 (cloneb_sat _ o.dt o.dt.length ba bc (r2.ext e0).1 (by omega)) ?_
      rintro _ h72 ⟨ad70,cap71,rfl,ownx,hge,g⟩
      have hlo := e0.size
      have sepo := sep
      replace e0 := e0.ext g
      replace kt := kt.ext g
      replace m3 := Ext.blk g m3
      replace m8 := Ext.blk g m8
      replace m38 := Ext.blk g m38
      replace sep := sep.up g.size
      replace sep := sepo.cons (x := ad70.map (fun (x : Addr) => x.block)) g.size hlo (fun k e => ⟨hge k e,ownx.lt (by rw [blkOf_slice]; exact e)⟩)
      have own_v : Own h72 (.slice ad70 o.dt.length cap71) 5 o.dt.length 1 (o.dt.map bv) := ownx; clear ownx sepo hlo hge g
      refine tW 4 1 ([.slice ad70 o.dt.length cap71]) (asc (0 : Int) (.slice none 0 0) rb0 (0 : Int) false false (.slice none 0 0) (0 : Int) rb0 (0 : Int) (.slice none 0 0)) (asc (0 : Int) (.slice ad70 o.dt.length cap71) rb0 (0 : Int) false false (.slice none 0 0) (0 : Int) rb0 (0 : Int) (.slice none 0 0)) m8 (fun h73 g74 m8' => ?_)
      replace e0 := e0.grew g74 (sep.low 2 rfl)
      replace kt := kt.grew g74 (sep.zero 2 rfl h0s)
      replace own_v := own_v.kept g74 (by rw [blkOf_slice]; exact (sep.ap 0 2))
      replace m3 := Grew.blk g74 m3 ((sep.bp 3 2))
      replace m38 := Grew.blk g74 m38 ((sep.bp 1 2))
      replace sep := sep.up g74.size
      clear m8; have m8 := m8'; clear m8'
      refine sE [] fun a hF => ?_
      refine bK ?_
      refine tK ?_
      refine qS hF ?_
      refine tC 0 (.agg (asc (0 : Int) (.slice ad70 o.dt.length cap71) rb0 (0 : Int) false false (.slice none 0 0) (0 : Int) rb0 (0 : Int) (.slice none 0 0)).toArray) (Calm.load (T := 41) (p := ⟨h1.size,0,none⟩) (by kernel_rfl) (Loads.blk (vs := asc (0 : Int) (.slice ad70 o.dt.length cap71) rb0 (0 : Int) false false (.slice none 0 0) (0 : Int) rb0 (0 : Int) (.slice none 0 0)) (by kernel_rfl) m8 rfl)) ?_
      refine tW 1 0 (asc (0 : Int) (.slice ad70 o.dt.length cap71) rb0 (0 : Int) false false (.slice none 0 0) (0 : Int) rb0 (0 : Int) (.slice none 0 0)) (asc (0 : Int) (.slice ad70 o.dt.length cap71) rb0 (0 : Int) false false (.slice none 0 0) (0 : Int) rb0 (0 : Int) (.slice none 0 0)) (asc (0 : Int) (.slice ad70 o.dt.length cap71) rb0 (0 : Int) false false (.slice none 0 0) (0 : Int) rb0 (0 : Int) (.slice none 0 0)) m8 (fun h75 g76 m8' => ?_)
      replace e0 := e0.grew g76 (sep.low 2 rfl)
      replace kt := kt.grew g76 (sep.zero 2 rfl h0s)
      replace own_v := own_v.kept g76 (by rw [blkOf_slice]; exact (sep.ap 0 2))
      replace m3 := Grew.blk g76 m3 ((sep.bp 3 2))
      replace m38 := Grew.blk g76 m38 ((sep.bp 1 2))
      replace sep := sep.up g76.size
      clear m8; have m8 := m8'; clear m8'
      refine sT [] fun a hF => ?_
      refine cR ?_
      refine ret_ok [.cell 4 41] [.agg (asc (0 : Int) (.slice ad70 o.dt.length cap71) rb0 (0 : Int) false false (.slice none 0 0) (0 : Int) rb0 (0 : Int) (.slice none 0 0)).toArray] (.agg (asc (0 : Int) (.slice ad70 o.dt.length cap71) rb0 (0 : Int) false false (.slice none 0 0) (0 : Int) rb0 (0 : Int) (.slice none 0 0)).toArray) rfl hF ⟨⟨_,rfl,Loads.blk (vs := asc (0 : Int) (.slice ad70 o.dt.length cap71) rb0 (0 : Int) false false (.slice none 0 0) (0 : Int) rb0 (0 : Int) (.slice none 0 0)) (by kernel_rfl) m8 rfl⟩,trivial⟩ rfl ?_
      rw [askM_get hok hf hc69 hgo]; exact ⟨⟨_,_,_,_,_,_,rfl,RowE.of own_v (by decide),RowE.nil _ _,RowE.nil _ _,All32.nil⟩,e0⟩
     ·skip
      refine cN ?_
      refine bK ?_
      refine tK ?_
      refine qS hF ?_
      refine tC 0 (.agg (asc (0 : Int) (.slice none 0 0) rb0 (0 : Int) false false (.slice none 0 0) (0 : Int) rb0 (0 : Int) (.slice none 0 0)).toArray) (Calm.load (T := 41) (p := ⟨h1.size,0,none⟩) (by kernel_rfl) (Loads.blk (vs := asc (0 : Int) (.slice none 0 0) rb0 (0 : Int) false false (.slice none 0 0) (0 : Int) rb0 (0 : Int) (.slice none 0 0)) (by kernel_rfl) m8 rfl)) ?_
      refine tW 1 0 (asc (0 : Int) (.slice none 0 0) rb0 (0 : Int) false false (.slice none 0 0) (0 : Int) rb0 (0 : Int) (.slice none 0 0)) (asc (0 : Int) (.slice none 0 0) rb0 (0 : Int) false false (.slice none 0 0) (0 : Int) rb0 (0 : Int) (.slice none 0 0)) (asc (0 : Int) (.slice none 0 0) rb0 (0 : Int) false false (.slice none 0 0) (0 : Int) rb0 (0 : Int) (.slice none 0 0)) m8 (fun h77 g78 m8' => ?_)
      replace e0 := e0.grew g78 (sep.low 1 rfl)
      replace kt := kt.grew g78 (sep.zero 1 rfl h0s)
      replace m3 := Grew.blk g78 m3 ((sep.bp 2 1))
      replace m38 := Grew.blk g78 m38 ((sep.bp 0 1))
      replace sep := sep.up g78.size
      clear m8; have m8 := m8'; clear m8'
      refine sT [] fun a hF => ?_
      refine cR ?_
      refine ret_ok [.cell 4 41] [.agg (asc (0 : Int) (.slice none 0 0) rb0 (0 : Int) false false (.slice none 0 0) (0 : Int) rb0 (0 : Int) (.slice none 0 0)).toArray] (.agg (asc (0 : Int) (.slice none 0 0) rb0 (0 : Int) false false (.slice none 0 0) (0 : Int) rb0 (0 : Int) (.slice none 0 0)).toArray) rfl hF ⟨⟨_,rfl,Loads.blk (vs := asc (0 : Int) (.slice none 0 0) rb0 (0 : Int) false false (.slice none 0 0) (0 : Int) rb0 (0 : Int) (.slice none 0 0)) (by kernel_rfl) m8 rfl⟩,trivial⟩ rfl ?_
      rw [askM_else hok hf hc43 hc49 hc69 hgo]; exact ⟨ansC _ 0,e0⟩
end Go.Proofs.YtegkejcglfgpmaaDoor
end
