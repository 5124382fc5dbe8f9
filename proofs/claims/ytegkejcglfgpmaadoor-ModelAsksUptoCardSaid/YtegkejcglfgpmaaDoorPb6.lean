/- The walks and the plain laws, part 6: MdlO, MdlQ, ModelAsksCard. Conditions: those that each theorem names. -/
import Derived.Test.YtegkejcglfgpmaaDoorPb5
section
namespace Go.Proofs.YtegkejcglfgpmaaDoor
open Go Go.Lane Go.Sha
noncomputable def b5 : Code := Tryd.f5.body.getD .skip
set_option maxHeartbeats 1000000 in
set_option maxRecDepth 10000 in
theorem shown_sat (h : Heap) (kt : Ktab h) : Sat Tryd.prog 5 #[] h fun v h' => v = .bool true ∧ Ext h h' := by
 have e0 := Ext.refl h
 have h0s := kt.lt
 have sep : Sep h.size h.size [] := Sep.nil _ _
 refine sat_in Tryd.func5 103 fun a hF => ?_
 refine qP [] hF fun a hF => ?_
 refine qS hF ?_
 refine tG 0 (new_m _ (by have := e0.size; omega)) ?_
 rintro _ h4 ⟨mb,mp,rfl,hM,hb1,hp2,g⟩
 have hse := e0.size
 replace e0 := e0.ext g
 replace kt := kt.ext g
 replace sep := sep.up g.size
 clear g
 have hk3 := hM.kb
 have sz1 : h4.size ≤ h4.size := Nat.le_refl _
 refine sT [(1,pV mb)] fun a hF => ?_
 refine cS ?_
 refine qP [(14,.bool false)] hF fun a hF => ?_
 refine cF 14 hF ?_
 refine cN ?_
 refine tK ?_
 refine qS hF ?_
 refine tN 0 (.slice (some ⟨h4.size,0,none⟩) 1 1) (#[.int .u8 97]) 5 fun h5 g6 m7 => ?_
 have lt8 := blk_lt m7
 have zs9 := e0.size
 have zs10 := sz1
 have hlo := e0.size
 have sepo := sep
 replace e0 := e0.ext g6
 replace kt := kt.ext g6
 replace sz1 := Nat.le_trans sz1 g6.size
 replace hM := hM.ext g6
 replace sep := sep.up g6.size
 replace sep := sepo.new hlo (blk_lt m7)
 clear sepo hlo
 refine tN 2 (pV h5.size) (#[.int .i64 0,.string ByteArray.empty,.slice none 0 0,.int .i64 0,.slice none 0 0]) 26 fun h11 g12 m13 => ?_
 have lt14 := blk_lt m13
 have zs15 := e0.size
 have zs16 := sz1
 have hlo := e0.size
 have sepo := sep
 replace e0 := e0.ext g12
 replace kt := kt.ext g12
 replace sz1 := Nat.le_trans sz1 g12.size
 replace hM := hM.ext g12
 replace m7 := Ext.blk g12 m7
 replace sep := sep.up g12.size
 replace sep := sepo.new hlo (blk_lt m13)
 clear sepo hlo
 refine tW 3 0 ([.int .i64 1,.string (ByteArray.mk #[97]),.slice (some ⟨h4.size,0,none⟩) 1 1,.int .i64 0,.slice none 0 0]) ([.int .i64 0,.string ByteArray.empty,.slice none 0 0,.int .i64 0,.slice none 0 0]) ([.int .i64 1,.string (ByteArray.mk #[97]),.slice (some ⟨h4.size,0,none⟩) 1 1,.int .i64 0,.slice none 0 0]) m13 (fun h17 g18 m13' => ?_)
 replace e0 := e0.grew g18 (sep.low 0 rfl)
 replace kt := kt.grew g18 (sep.zero 0 rfl h0s)
 replace sz1 := Nat.le_trans sz1 g18.1
 replace hM := hM.put1 g18 m13 (by decide) (by omega)
 replace m7 := Grew.blk g18 m7 ((sep.bp 1 0))
 replace sep := sep.up g18.size
 clear m13; have m13 := m13'; clear m13'
 refine sT [(2,pV h5.size)] fun a hF => ?_
 refine qS hF ?_
 refine tN 1 (pV h17.size) (#[.int .i64 0,.string ByteArray.empty,.slice none 0 0,.int .i64 0,.slice none 0 0]) 26 fun h19 g20 m21 => ?_
 have lt22 := blk_lt m21
 have zs23 := e0.size
 have zs24 := sz1
 have hlo := e0.size
 have sepo := sep
 replace e0 := e0.ext g20
 replace kt := kt.ext g20
 replace sz1 := Nat.le_trans sz1 g20.size
 replace hM := hM.ext g20
 replace m7 := Ext.blk g20 m7
 replace m13 := Ext.blk g20 m13
 replace sep := sep.up g20.size
 replace sep := sepo.new hlo (blk_lt m21)
 clear sepo hlo
 refine tW 2 0 ([.int .i64 2,.string (ByteArray.mk #[97]),.slice none 0 0,.int .i64 0,.slice none 0 0]) ([.int .i64 0,.string ByteArray.empty,.slice none 0 0,.int .i64 0,.slice none 0 0]) ([.int .i64 2,.string (ByteArray.mk #[97]),.slice none 0 0,.int .i64 0,.slice none 0 0]) m21 (fun h25 g26 m21' => ?_)
 replace e0 := e0.grew g26 (sep.low 0 rfl)
 replace kt := kt.grew g26 (sep.zero 0 rfl h0s)
 replace sz1 := Nat.le_trans sz1 g26.1
 replace hM := hM.put1 g26 m21 (by decide) (by omega)
 replace m7 := Grew.blk g26 m7 ((sep.bp 2 0))
 replace m13 := Grew.blk g26 m13 ((sep.bp 1 0))
 replace sep := sep.up g26.size
 clear m21; have m21 := m21'; clear m21'
 refine sT [(3,pV h17.size)] fun a hF => ?_
 refine qS hF ?_
 refine tC 1 (.agg #[.int .i64 1,.string (ByteArray.mk #[97]),.slice (some ⟨h4.size,0,none⟩) 1 1,.int .i64 0,.slice none 0 0]) (Calm.load (T := 26) (p := ⟨h5.size,0,none⟩) (by kernel_rfl) (Loads.blk (vs := [.int .i64 1,.string (ByteArray.mk #[97]),.slice (some ⟨h4.size,0,none⟩) 1 1,.int .i64 0,.slice none 0 0]) (by kernel_rfl) m13 rfl)) ?_
 have lb33 := hM.kb
 refine tG 2 (do_is _ mb mp M0 hM 1 0 sA [97] (some ⟨h4.size,0,none⟩) 1 none 0 0 (rowU m7).1 (by decide) kt (by decide) M1 an0 (put0 0)) ?_
 rintro _ h34 ⟨qa27,qc28,ia29,ic30,pa31,pc32,rfl,_,_,_,_,m2,gm⟩
 replace m7 := gm.blk m7 (by omega) (by omega)
 replace m13 := gm.blk m13 (by omega) (by omega)
 replace m21 := gm.blk m21 (by omega) (by omega)
 replace e0 := Gr.toExt e0 gm (by rintro i (e | e) <;> omega)
 replace kt := kt.gr gm (by rintro (e | e) <;> omega)
 replace sep := sep.up gm.1
 replace sz1 := Nat.le_trans sz1 gm.1
 clear hM; have hM := m2; clear m2 gm
 refine tN 3 (pV h34.size) ((asc (0 : Int) (.slice none 0 0) rb0 (0 : Int) false false (.slice none 0 0) (0 : Int) rb0 (0 : Int) (.slice none 0 0)).toArray) 41 fun h35 g36 m37 => ?_
 have lt38 := blk_lt m37
 have zs39 := e0.size
 have zs40 := sz1
 have hlo := e0.size
 have sepo := sep
 replace e0 := e0.ext g36
 replace kt := kt.ext g36
 replace sz1 := Nat.le_trans sz1 g36.size
 replace hM := hM.ext g36
 replace m7 := Ext.blk g36 m7
 replace m13 := Ext.blk g36 m13
 replace m21 := Ext.blk g36 m21
 replace sep := sep.up g36.size
 replace sep := sepo.new hlo (blk_lt m37)
 clear sepo hlo
 refine tW 4 0 (asc (0 : Int) (.slice qa27 0 qc28) rb0 (0 : Int) false false (.slice ia29 0 ic30) (0 : Int) rb0 (0 : Int) (.slice pa31 0 pc32)) (asc (0 : Int) (.slice none 0 0) rb0 (0 : Int) false false (.slice none 0 0) (0 : Int) rb0 (0 : Int) (.slice none 0 0)) (asc (0 : Int) (.slice qa27 0 qc28) rb0 (0 : Int) false false (.slice ia29 0 ic30) (0 : Int) rb0 (0 : Int) (.slice pa31 0 pc32)) m37 (fun h41 g42 m37' => ?_)
 replace e0 := e0.grew g42 (sep.low 0 rfl)
 replace kt := kt.grew g42 (sep.zero 0 rfl h0s)
 replace sz1 := Nat.le_trans sz1 g42.1
 replace hM := hM.put1 g42 m37 (by decide) (by omega)
 replace m7 := Grew.blk g42 m7 ((sep.bp 3 0))
 replace m13 := Grew.blk g42 m13 ((sep.bp 2 0))
 replace m21 := Grew.blk g42 m21 ((sep.bp 1 0))
 replace sep := sep.up g42.size
 clear m37; have m37 := m37'; clear m37'
 refine sT [(4,pV h34.size)] fun a hF => ?_
 refine qS hF ?_
 refine tC 1 (.agg #[.int .i64 2,.string (ByteArray.mk #[97]),.slice none 0 0,.int .i64 0,.slice none 0 0]) (Calm.load (T := 26) (p := ⟨h17.size,0,none⟩) (by kernel_rfl) (Loads.blk (vs := [.int .i64 2,.string (ByteArray.mk #[97]),.slice none 0 0,.int .i64 0,.slice none 0 0]) (by kernel_rfl) m21 rfl)) ?_
 have lb49 := hM.kb
 refine tG 2 (do_is _ mb mp M1 hM 2 0 sA [] none 0 none 0 0 (Row.nil _ _) (by decide) kt (by rw [M1_E]; decide) M1 (anB [97]) (get1 0 [])) ?_
 rintro _ h50 ⟨qa43,qc44,ia45,ic46,pa47,pc48,rfl,rb,_,_,_,m2,gm⟩
 replace m7 := gm.blk m7 (by omega) (by omega)
 replace m13 := gm.blk m13 (by omega) (by omega)
 replace m21 := gm.blk m21 (by omega) (by omega)
 replace m37 := gm.blk m37 (by omega) (by omega)
 replace e0 := Gr.toExt e0 gm (by rintro i (e | e) <;> omega)
 replace kt := kt.gr gm (by rintro (e | e) <;> omega)
 replace sep := sep.up gm.1
 replace sz1 := Nat.le_trans sz1 gm.1
 clear hM; have hM := m2; clear m2 gm
 refine tN 3 (pV h50.size) ((asc (0 : Int) (.slice none 0 0) rb0 (0 : Int) false false (.slice none 0 0) (0 : Int) rb0 (0 : Int) (.slice none 0 0)).toArray) 41 fun h51 g52 m53 => ?_
 have lt54 := blk_lt m53
 have zs55 := e0.size
 have zs56 := sz1
 have hlo := e0.size
 have sepo := sep
 replace e0 := e0.ext g52
 replace kt := kt.ext g52
 replace sz1 := Nat.le_trans sz1 g52.size
 replace hM := hM.ext g52
 replace rb := rb.ext g52
 replace m7 := Ext.blk g52 m7
 replace m13 := Ext.blk g52 m13
 replace m21 := Ext.blk g52 m21
 replace m37 := Ext.blk g52 m37
 replace sep := sep.up g52.size
 replace sep := sepo.new hlo (blk_lt m53)
 clear sepo hlo
 refine tW 4 0 (asc (0 : Int) (.slice qa43 1 qc44) rb0 (0 : Int) false false (.slice ia45 0 ic46) (0 : Int) rb0 (0 : Int) (.slice pa47 0 pc48)) (asc (0 : Int) (.slice none 0 0) rb0 (0 : Int) false false (.slice none 0 0) (0 : Int) rb0 (0 : Int) (.slice none 0 0)) (asc (0 : Int) (.slice qa43 1 qc44) rb0 (0 : Int) false false (.slice ia45 0 ic46) (0 : Int) rb0 (0 : Int) (.slice pa47 0 pc48)) m53 (fun h57 g58 m53' => ?_)
 replace e0 := e0.grew g58 (sep.low 0 rfl)
 replace kt := kt.grew g58 (sep.zero 0 rfl h0s)
 replace sz1 := Nat.le_trans sz1 g58.1
 replace hM := hM.put1 g58 m53 (by decide) (by omega)
 replace rb := rb.put1 g58 m53 (by decide)
 replace m7 := Grew.blk g58 m7 ((sep.bp 4 0))
 replace m13 := Grew.blk g58 m13 ((sep.bp 3 0))
 replace m21 := Grew.blk g58 m21 ((sep.bp 2 0))
 replace m37 := Grew.blk g58 m37 ((sep.bp 1 0))
 replace sep := sep.up g58.size
 clear m53; have m53 := m53'; clear m53'
 refine sT [(5,pV h50.size)] fun a hF => ?_
 refine qS hF ?_
 refine tC 1 (.agg #[.int .i64 1,.string (ByteArray.mk #[97]),.slice (some ⟨h4.size,0,none⟩) 1 1,.int .i64 0,.slice none 0 0]) (Calm.load (T := 26) (p := ⟨h5.size,0,none⟩) (by kernel_rfl) (Loads.blk (vs := [.int .i64 1,.string (ByteArray.mk #[97]),.slice (some ⟨h4.size,0,none⟩) 1 1,.int .i64 0,.slice none 0 0]) (by kernel_rfl) m13 rfl)) ?_
 have lb65 := hM.kb
 refine tG 2 (do_is _ mb mp M1 hM 1 0 sA [97] (some ⟨h4.size,0,none⟩) 1 none 0 0 (rowU m7).1 (by decide) kt (by rw [M1_E]; decide) M1 (anC 212) (put1 0)) ?_
 rintro _ h66 ⟨qa59,qc60,ia61,ic62,pa63,pc64,rfl,_,_,_,_,m2,gm⟩
 replace m7 := gm.blk m7 (by omega) (by omega)
 replace m13 := gm.blk m13 (by omega) (by omega)
 replace m21 := gm.blk m21 (by omega) (by omega)
 replace m37 := gm.blk m37 (by omega) (by omega)
 replace m53 := gm.blk m53 (by omega) (by omega)
 replace rb := rb.mgM gm hM
 replace e0 := Gr.toExt e0 gm (by rintro i (e | e) <;> omega)
 replace kt := kt.gr gm (by rintro (e | e) <;> omega)
 replace sep := sep.up gm.1
 replace sz1 := Nat.le_trans sz1 gm.1
 clear hM; have hM := m2; clear m2 gm
 refine tN 3 (pV h66.size) ((asc (0 : Int) (.slice none 0 0) rb0 (0 : Int) false false (.slice none 0 0) (0 : Int) rb0 (0 : Int) (.slice none 0 0)).toArray) 41 fun h67 g68 m69 => ?_
 have lt70 := blk_lt m69
 have zs71 := e0.size
 have zs72 := sz1
 have hlo := e0.size
 have sepo := sep
 replace e0 := e0.ext g68
 replace kt := kt.ext g68
 replace sz1 := Nat.le_trans sz1 g68.size
 replace hM := hM.ext g68
 replace rb := rb.ext g68
 replace m7 := Ext.blk g68 m7
 replace m13 := Ext.blk g68 m13
 replace m21 := Ext.blk g68 m21
 replace m37 := Ext.blk g68 m37
 replace m53 := Ext.blk g68 m53
 replace sep := sep.up g68.size
 replace sep := sepo.new hlo (blk_lt m69)
 clear sepo hlo
 refine tW 4 0 (asc (212 : Int) (.slice qa59 0 qc60) rb0 (0 : Int) false false (.slice ia61 0 ic62) (0 : Int) rb0 (0 : Int) (.slice pa63 0 pc64)) (asc (0 : Int) (.slice none 0 0) rb0 (0 : Int) false false (.slice none 0 0) (0 : Int) rb0 (0 : Int) (.slice none 0 0)) (asc (212 : Int) (.slice qa59 0 qc60) rb0 (0 : Int) false false (.slice ia61 0 ic62) (0 : Int) rb0 (0 : Int) (.slice pa63 0 pc64)) m69 (fun h73 g74 m69' => ?_)
 replace e0 := e0.grew g74 (sep.low 0 rfl)
 replace kt := kt.grew g74 (sep.zero 0 rfl h0s)
 replace sz1 := Nat.le_trans sz1 g74.1
 replace hM := hM.put1 g74 m69 (by decide) (by omega)
 replace rb := rb.put1 g74 m69 (by decide)
 replace m7 := Grew.blk g74 m7 ((sep.bp 5 0))
 replace m13 := Grew.blk g74 m13 ((sep.bp 4 0))
 replace m21 := Grew.blk g74 m21 ((sep.bp 3 0))
 replace m37 := Grew.blk g74 m37 ((sep.bp 2 0))
 replace m53 := Grew.blk g74 m53 ((sep.bp 1 0))
 replace sep := sep.up g74.size
 clear m69; have m69 := m69'; clear m69'
 refine sT [(6,pV h66.size)] fun a hF => ?_
 refine qS hF ?_
 refine tC 0 (.agg #[.int .i64 1,.string (ByteArray.mk #[97]),.slice (some ⟨h4.size,0,none⟩) 1 1,.int .i64 0,.slice none 0 0]) (Calm.load (T := 26) (p := ⟨h5.size,0,none⟩) (by kernel_rfl) (Loads.blk (vs := [.int .i64 1,.string (ByteArray.mk #[97]),.slice (some ⟨h4.size,0,none⟩) 1 1,.int .i64 0,.slice none 0 0]) (by kernel_rfl) m13 rfl)) ?_
 refine tC 1 (.agg #[.int .i64 2,.string (ByteArray.mk #[97]),.slice none 0 0,.int .i64 0,.slice none 0 0]) (Calm.load (T := 26) (p := ⟨h17.size,0,none⟩) (by kernel_rfl) (Loads.blk (vs := [.int .i64 2,.string (ByteArray.mk #[97]),.slice none 0 0,.int .i64 0,.slice none 0 0]) (by kernel_rfl) m21 rfl)) ?_
 refine tN 2 (.slice (some ⟨h73.size,0,none⟩) 2 2) (#[.int .i64 1,.string (ByteArray.mk #[97]),.slice (some ⟨h4.size,0,none⟩) 1 1,.int .i64 0,.slice none 0 0,.int .i64 2,.string (ByteArray.mk #[97]),.slice none 0 0,.int .i64 0,.slice none 0 0]) 26 fun h75 g76 m77 => ?_
 have lt78 := blk_lt m77
 have zs79 := e0.size
 have zs80 := sz1
 have hlo := e0.size
 have sepo := sep
 replace e0 := e0.ext g76
 replace kt := kt.ext g76
 replace sz1 := Nat.le_trans sz1 g76.size
 replace hM := hM.ext g76
 replace rb := rb.ext g76
 replace m7 := Ext.blk g76 m7
 replace m13 := Ext.blk g76 m13
 replace m21 := Ext.blk g76 m21
 replace m37 := Ext.blk g76 m37
 replace m53 := Ext.blk g76 m53
 replace m69 := Ext.blk g76 m69
 replace sep := sep.up g76.size
 replace sep := sepo.new hlo (blk_lt m77)
 clear sepo hlo
 refine tN 4 (.slice (some ⟨h75.size,0,none⟩) 1 1) (#[.int .u8 98]) 5 fun h81 g82 m83 => ?_
 have lt84 := blk_lt m83
 have zs85 := e0.size
 have zs86 := sz1
 have hlo := e0.size
 have sepo := sep
 replace e0 := e0.ext g82
 replace kt := kt.ext g82
 replace sz1 := Nat.le_trans sz1 g82.size
 replace hM := hM.ext g82
 replace rb := rb.ext g82
 replace m7 := Ext.blk g82 m7
 replace m13 := Ext.blk g82 m13
 replace m21 := Ext.blk g82 m21
 replace m37 := Ext.blk g82 m37
 replace m53 := Ext.blk g82 m53
 replace m69 := Ext.blk g82 m69
 replace m77 := Ext.blk g82 m77
 replace sep := sep.up g82.size
 replace sep := sepo.new hlo (blk_lt m83)
 clear sepo hlo
 refine tN 6 (.slice (some ⟨h81.size,0,none⟩) 2 2) ((arow [ar0,aByte 98 h75.size]).toArray) 41 fun h87 g88 m89 => ?_
 have lt90 := blk_lt m89
 have zs91 := e0.size
 have zs92 := sz1
 have hlo := e0.size
 have sepo := sep
 replace e0 := e0.ext g88
 replace kt := kt.ext g88
 replace sz1 := Nat.le_trans sz1 g88.size
 replace hM := hM.ext g88
 replace rb := rb.ext g88
 replace m7 := Ext.blk g88 m7
 replace m13 := Ext.blk g88 m13
 replace m21 := Ext.blk g88 m21
 replace m37 := Ext.blk g88 m37
 replace m53 := Ext.blk g88 m53
 replace m69 := Ext.blk g88 m69
 replace m77 := Ext.blk g88 m77
 replace m83 := Ext.blk g88 m83
 replace sep := sep.up g88.size
 replace sep := sepo.new hlo (blk_lt m89)
 clear sepo hlo
 refine tG 7 (judge_is _ [oPut h4.size,oGet] [ar0,aByte 98 h75.size] 2 _ _ _ _ JD rD (Row.blk (n := 2) (sz := 5) (l := oprow [oPut h4.size,oGet]) m77 rfl) rfl (Row.blk (n := 2) (sz := 75) (l := arow [ar0,aByte 98 h75.size]) m89 rfl) rfl kt (by decide) rfl (seeD m7 m83) [(1,2)] ftsD) ?_
 rintro _ h95 ⟨ad93,cap94,rfl,rd0,g⟩
 replace e0 := e0.ext g
 replace kt := kt.ext g
 replace sz1 := Nat.le_trans sz1 g.size
 replace hM := hM.ext g
 replace rb := rb.ext g
 replace m7 := Ext.blk g m7
 replace m13 := Ext.blk g m13
 replace m21 := Ext.blk g m21
 replace m37 := Ext.blk g m37
 replace m53 := Ext.blk g m53
 replace m69 := Ext.blk g m69
 replace m77 := Ext.blk g m77
 replace m83 := Ext.blk g m83
 replace m89 := Ext.blk g m89
 replace sep := sep.up g.size
 clear g
 clear m77 lt78 zs79 zs80
 clear m83 lt84 zs85 zs86
 clear m89 lt90 zs91 zs92
 clear hM
 refine sT [(7,.slice ad93 1 cap94)] fun a hF => ?_
 refine qS hF ?_
 refine tC 0 (.agg #[.int .i64 2,.string (ByteArray.mk #[97]),.slice none 0 0,.int .i64 0,.slice none 0 0]) (Calm.load (T := 26) (p := ⟨h17.size,0,none⟩) (by kernel_rfl) (Loads.blk (vs := [.int .i64 2,.string (ByteArray.mk #[97]),.slice none 0 0,.int .i64 0,.slice none 0 0]) (by kernel_rfl) m21 rfl)) ?_
 refine tN 1 (.slice (some ⟨h95.size,0,none⟩) 1 1) (#[.int .i64 2,.string (ByteArray.mk #[97]),.slice none 0 0,.int .i64 0,.slice none 0 0]) 26 fun h96 g97 m98 => ?_
 have lt99 := blk_lt m98
 have zs100 := e0.size
 have zs101 := sz1
 have hlo := e0.size
 have sepo := sep
 replace e0 := e0.ext g97
 replace kt := kt.ext g97
 replace sz1 := Nat.le_trans sz1 g97.size
 replace rb := rb.ext g97
 replace rd0 := rd0.ext g97
 replace m7 := Ext.blk g97 m7
 replace m13 := Ext.blk g97 m13
 replace m21 := Ext.blk g97 m21
 replace m37 := Ext.blk g97 m37
 replace m53 := Ext.blk g97 m53
 replace m69 := Ext.blk g97 m69
 replace sep := sep.up g97.size
 replace sep := sepo.new hlo (blk_lt m98)
 clear sepo hlo
 refine tN 3 (.slice (some ⟨h96.size,0,none⟩) 1 1) ((arow [aCode 2]).toArray) 41 fun h102 g103 m104 => ?_
 have lt105 := blk_lt m104
 have zs106 := e0.size
 have zs107 := sz1
 have hlo := e0.size
 have sepo := sep
 replace e0 := e0.ext g103
 replace kt := kt.ext g103
 replace sz1 := Nat.le_trans sz1 g103.size
 replace rb := rb.ext g103
 replace rd0 := rd0.ext g103
 replace m7 := Ext.blk g103 m7
 replace m13 := Ext.blk g103 m13
 replace m21 := Ext.blk g103 m21
 replace m37 := Ext.blk g103 m37
 replace m53 := Ext.blk g103 m53
 replace m69 := Ext.blk g103 m69
 replace m98 := Ext.blk g103 m98
 replace sep := sep.up g103.size
 replace sep := sepo.new hlo (blk_lt m104)
 clear sepo hlo
 refine tG 4 (judge_is _ [oGet] [aCode 2] 1 _ _ _ _ JE rE (Row.blk (n := 1) (sz := 5) (l := oprow [oGet]) m98 rfl) rfl (Row.blk (n := 1) (sz := 75) (l := arow [aCode 2]) m104 rfl) rfl kt (by decide) rfl (seeE _) [(0,1)] ftsE) ?_
 rintro _ h110 ⟨ad108,cap109,rfl,rd1,g⟩
 replace e0 := e0.ext g
 replace kt := kt.ext g
 replace sz1 := Nat.le_trans sz1 g.size
 replace rb := rb.ext g
 replace rd0 := rd0.ext g
 replace m7 := Ext.blk g m7
 replace m13 := Ext.blk g m13
 replace m21 := Ext.blk g m21
 replace m37 := Ext.blk g m37
 replace m53 := Ext.blk g m53
 replace m69 := Ext.blk g m69
 replace m98 := Ext.blk g m98
 replace m104 := Ext.blk g m104
 replace sep := sep.up g.size
 clear g
 clear m98 lt99 zs100 zs101
 clear m104 lt105 zs106 zs107
 refine sT [(8,.slice ad108 1 cap109)] fun a hF => ?_
 refine qS hF ?_
 refine tC 1 (.agg #[.int .i64 1,.string (ByteArray.mk #[97]),.slice (some ⟨h4.size,0,none⟩) 1 1,.int .i64 0,.slice none 0 0]) (Calm.load (T := 26) (p := ⟨h5.size,0,none⟩) (by kernel_rfl) (Loads.blk (vs := [.int .i64 1,.string (ByteArray.mk #[97]),.slice (some ⟨h4.size,0,none⟩) 1 1,.int .i64 0,.slice none 0 0]) (by kernel_rfl) m13 rfl)) ?_
 refine tC 3 (.agg #[.int .i64 2,.string (ByteArray.mk #[97]),.slice none 0 0,.int .i64 0,.slice none 0 0]) (Calm.load (T := 26) (p := ⟨h17.size,0,none⟩) (by kernel_rfl) (Loads.blk (vs := [.int .i64 2,.string (ByteArray.mk #[97]),.slice none 0 0,.int .i64 0,.slice none 0 0]) (by kernel_rfl) m21 rfl)) ?_
 refine tC 4 (.agg #[.int .i64 2,.string (ByteArray.mk #[97]),.slice none 0 0,.int .i64 0,.slice none 0 0]) (Calm.load (T := 26) (p := ⟨h17.size,0,none⟩) (by kernel_rfl) (Loads.blk (vs := [.int .i64 2,.string (ByteArray.mk #[97]),.slice none 0 0,.int .i64 0,.slice none 0 0]) (by kernel_rfl) m21 rfl)) ?_
 refine tN 5 (.slice (some ⟨h110.size,0,none⟩) 5 5) (#[.int .i64 12,.string ByteArray.empty,.slice none 0 0,.int .i64 0,.slice none 0 0,.int .i64 1,.string (ByteArray.mk #[97]),.slice (some ⟨h4.size,0,none⟩) 1 1,.int .i64 0,.slice none 0 0,.int .i64 13,.string ByteArray.empty,.slice none 0 0,.int .i64 0,.slice none 0 0,.int .i64 2,.string (ByteArray.mk #[97]),.slice none 0 0,.int .i64 0,.slice none 0 0,.int .i64 2,.string (ByteArray.mk #[97]),.slice none 0 0,.int .i64 0,.slice none 0 0]) 26 fun h111 g112 m113 => ?_
 have lt114 := blk_lt m113
 have zs115 := e0.size
 have zs116 := sz1
 have hlo := e0.size
 have sepo := sep
 replace e0 := e0.ext g112
 replace kt := kt.ext g112
 replace sz1 := Nat.le_trans sz1 g112.size
 replace rb := rb.ext g112
 replace rd0 := rd0.ext g112
 replace rd1 := rd1.ext g112
 replace m7 := Ext.blk g112 m7
 replace m13 := Ext.blk g112 m13
 replace m21 := Ext.blk g112 m21
 replace m37 := Ext.blk g112 m37
 replace m53 := Ext.blk g112 m53
 replace m69 := Ext.blk g112 m69
 replace sep := sep.up g112.size
 replace sep := sepo.new hlo (blk_lt m113)
 clear sepo hlo
 refine tN 9 (.slice (some ⟨h111.size,0,none⟩) 1 1) (#[.int .u8 97]) 5 fun h117 g118 m119 => ?_
 have lt120 := blk_lt m119
 have zs121 := e0.size
 have zs122 := sz1
 have hlo := e0.size
 have sepo := sep
 replace e0 := e0.ext g118
 replace kt := kt.ext g118
 replace sz1 := Nat.le_trans sz1 g118.size
 replace rb := rb.ext g118
 replace rd0 := rd0.ext g118
 replace rd1 := rd1.ext g118
 replace m7 := Ext.blk g118 m7
 replace m13 := Ext.blk g118 m13
 replace m21 := Ext.blk g118 m21
 replace m37 := Ext.blk g118 m37
 replace m53 := Ext.blk g118 m53
 replace m69 := Ext.blk g118 m69
 replace m113 := Ext.blk g118 m113
 replace sep := sep.up g118.size
 replace sep := sepo.new hlo (blk_lt m119)
 clear sepo hlo
 refine tN 12 (.slice (some ⟨h117.size,0,none⟩) 5 5) ((arow [ar0,aCode 2,ar0,aByte 97 h111.size,aCode 211]).toArray) 41 fun h123 g124 m125 => ?_
 have lt126 := blk_lt m125
 have zs127 := e0.size
 have zs128 := sz1
 have hlo := e0.size
 have sepo := sep
 replace e0 := e0.ext g124
 replace kt := kt.ext g124
 replace sz1 := Nat.le_trans sz1 g124.size
 replace rb := rb.ext g124
 replace rd0 := rd0.ext g124
 replace rd1 := rd1.ext g124
 replace m7 := Ext.blk g124 m7
 replace m13 := Ext.blk g124 m13
 replace m21 := Ext.blk g124 m21
 replace m37 := Ext.blk g124 m37
 replace m53 := Ext.blk g124 m53
 replace m69 := Ext.blk g124 m69
 replace m113 := Ext.blk g124 m113
 replace m119 := Ext.blk g124 m119
 replace sep := sep.up g124.size
 replace sep := sepo.new hlo (blk_lt m125)
 clear sepo hlo
 refine tG 13 (judge_is _ [oKind 12,oPut h4.size,oKind 13,oGet,oGet] [ar0,aCode 2,ar0,aByte 97 h111.size,aCode 211] 5 _ _ _ _ JF4 rF (Row.blk (n := 5) (sz := 5) (l := oprow [oKind 12,oPut h4.size,oKind 13,oGet,oGet]) m113 rfl) rfl (Row.blk (n := 5) (sz := 75) (l := arow [ar0,aCode 2,ar0,aByte 97 h111.size,aCode 211]) m125 rfl) rfl kt (by decide) rfl (seeF m7 m119) [(4,1)] ftsF) ?_
 rintro _ h131 ⟨ad129,cap130,rfl,rd2,g⟩
 replace e0 := e0.ext g
 replace kt := kt.ext g
 replace sz1 := Nat.le_trans sz1 g.size
 replace rb := rb.ext g
 replace rd0 := rd0.ext g
 replace rd1 := rd1.ext g
 replace m7 := Ext.blk g m7
 replace m13 := Ext.blk g m13
 replace m21 := Ext.blk g m21
 replace m37 := Ext.blk g m37
 replace m53 := Ext.blk g m53
 replace m69 := Ext.blk g m69
 replace m113 := Ext.blk g m113
 replace m119 := Ext.blk g m119
 replace m125 := Ext.blk g m125
 replace sep := sep.up g.size
 clear g
 clear m113 lt114 zs115 zs116
 clear m119 lt120 zs121 zs122
 clear m125 lt126 zs127 zs128
 refine sT [(9,.slice ad129 1 cap130)] fun a hF => ?_
 refine qS hF ?_
 refine tC 1 (.agg #[.int .i64 1,.string (ByteArray.mk #[97]),.slice (some ⟨h4.size,0,none⟩) 1 1,.int .i64 0,.slice none 0 0]) (Calm.load (T := 26) (p := ⟨h5.size,0,none⟩) (by kernel_rfl) (Loads.blk (vs := [.int .i64 1,.string (ByteArray.mk #[97]),.slice (some ⟨h4.size,0,none⟩) 1 1,.int .i64 0,.slice none 0 0]) (by kernel_rfl) m13 rfl)) ?_
 refine tC 3 (.agg #[.int .i64 2,.string (ByteArray.mk #[97]),.slice none 0 0,.int .i64 0,.slice none 0 0]) (Calm.load (T := 26) (p := ⟨h17.size,0,none⟩) (by kernel_rfl) (Loads.blk (vs := [.int .i64 2,.string (ByteArray.mk #[97]),.slice none 0 0,.int .i64 0,.slice none 0 0]) (by kernel_rfl) m21 rfl)) ?_
 refine tN 4 (.slice (some ⟨h131.size,0,none⟩) 4 4) (#[.int .i64 12,.string ByteArray.empty,.slice none 0 0,.int .i64 0,.slice none 0 0,.int .i64 1,.string (ByteArray.mk #[97]),.slice (some ⟨h4.size,0,none⟩) 1 1,.int .i64 0,.slice none 0 0,.int .i64 13,.string ByteArray.empty,.slice none 0 0,.int .i64 0,.slice none 0 0,.int .i64 2,.string (ByteArray.mk #[97]),.slice none 0 0,.int .i64 0,.slice none 0 0]) 26 fun h132 g133 m134 => ?_
 have lt135 := blk_lt m134
 have zs136 := e0.size
 have zs137 := sz1
 have hlo := e0.size
 have sepo := sep
 replace e0 := e0.ext g133
 replace kt := kt.ext g133
 replace sz1 := Nat.le_trans sz1 g133.size
 replace rb := rb.ext g133
 replace rd0 := rd0.ext g133
 replace rd1 := rd1.ext g133
 replace rd2 := rd2.ext g133
 replace m7 := Ext.blk g133 m7
 replace m13 := Ext.blk g133 m13
 replace m21 := Ext.blk g133 m21
 replace m37 := Ext.blk g133 m37
 replace m53 := Ext.blk g133 m53
 replace m69 := Ext.blk g133 m69
 replace sep := sep.up g133.size
 replace sep := sepo.new hlo (blk_lt m134)
 clear sepo hlo
 refine tN 9 (.slice (some ⟨h132.size,0,none⟩) 4 4) ((arow [ar0,aCode 2,ar0,aCode 211]).toArray) 41 fun h138 g139 m140 => ?_
 have lt141 := blk_lt m140
 have zs142 := e0.size
 have zs143 := sz1
 have hlo := e0.size
 have sepo := sep
 replace e0 := e0.ext g139
 replace kt := kt.ext g139
 replace sz1 := Nat.le_trans sz1 g139.size
 replace rb := rb.ext g139
 replace rd0 := rd0.ext g139
 replace rd1 := rd1.ext g139
 replace rd2 := rd2.ext g139
 replace m7 := Ext.blk g139 m7
 replace m13 := Ext.blk g139 m13
 replace m21 := Ext.blk g139 m21
 replace m37 := Ext.blk g139 m37
 replace m53 := Ext.blk g139 m53
 replace m69 := Ext.blk g139 m69
 replace m134 := Ext.blk g139 m134
 replace sep := sep.up g139.size
 replace sep := sepo.new hlo (blk_lt m140)
 clear sepo hlo
 refine tG 10 (judge_is _ [oKind 12,oPut h4.size,oKind 13,oGet] [ar0,aCode 2,ar0,aCode 211] 4 _ _ _ _ JG rG (Row.blk (n := 4) (sz := 5) (l := oprow [oKind 12,oPut h4.size,oKind 13,oGet]) m134 rfl) rfl (Row.blk (n := 4) (sz := 75) (l := arow [ar0,aCode 2,ar0,aCode 211]) m140 rfl) rfl kt (by decide) rfl (seeG m7) [] ftsG) ?_
 rintro _ h146 ⟨ad144,cap145,rfl,rd3,g⟩
 replace e0 := e0.ext g
 replace kt := kt.ext g
 replace sz1 := Nat.le_trans sz1 g.size
 replace rb := rb.ext g
 replace rd0 := rd0.ext g
 replace rd1 := rd1.ext g
 replace rd2 := rd2.ext g
 replace m7 := Ext.blk g m7
 replace m13 := Ext.blk g m13
 replace m21 := Ext.blk g m21
 replace m37 := Ext.blk g m37
 replace m53 := Ext.blk g m53
 replace m69 := Ext.blk g m69
 replace m134 := Ext.blk g m134
 replace m140 := Ext.blk g m140
 replace sep := sep.up g.size
 clear g
 clear m134 lt135 zs136 zs137
 clear m140 lt141 zs142 zs143
 refine sT [(10,.slice ad144 0 cap145)] fun a hF => ?_
 refine qS hF ?_
 refine tC 1 (.int .i64 0) (Calm.load (T := 31) (p := ⟨h34.size,0,none⟩) (by kernel_rfl) (Loads.one (k := 1) (by kernel_rfl) ((hcell_blk m37).trans (rfl)))) ?_
 refine tC 5 (.slice qa43 1 qc44) (Calm.load (T := 23) (p := ⟨h50.size,1,none⟩) (by kernel_rfl) (Loads.one (k := 1) (by kernel_rfl) ((hcell_blk m53).trans (rfl)))) ?_
 refine tC 6 (.string (ByteArray.mk #[97])) (Calm.str (l := [97]) (by kernel_rfl) rb.1) ?_
 refine t1 7 (.bool true) (.bool ((ByteArray.mk #[97]).toList == (ByteArray.mk #[97]).toList)) (congrArg Value.bool (by simp)) ?_
 refine tC 11 (.int .i64 212) (Calm.load (T := 31) (p := ⟨h66.size,0,none⟩) (by kernel_rfl) (Loads.one (k := 1) (by kernel_rfl) ((hcell_blk m69).trans (rfl)))) ?_
 refine sT [(11,.bool true)] fun a hF => ?_
 refine qS hF ?_
 refine tN 4 (.slice (some ⟨h146.size,0,none⟩) 1 1) (#[.int .i64 1,.int .i64 2]) 53 fun h147 g148 m149 => ?_
 have lt150 := blk_lt m149
 have zs151 := e0.size
 have zs152 := sz1
 have hlo := e0.size
 have sepo := sep
 replace e0 := e0.ext g148
 replace kt := kt.ext g148
 replace sz1 := Nat.le_trans sz1 g148.size
 replace rb := rb.ext g148
 replace rd0 := rd0.ext g148
 replace rd1 := rd1.ext g148
 replace rd2 := rd2.ext g148
 replace m7 := Ext.blk g148 m7
 replace m13 := Ext.blk g148 m13
 replace m21 := Ext.blk g148 m21
 replace m37 := Ext.blk g148 m37
 replace m53 := Ext.blk g148 m53
 replace m69 := Ext.blk g148 m69
 replace sep := sep.up g148.size
 replace sep := sepo.new hlo (blk_lt m149)
 clear sepo hlo
 refine tC 5 (.bool true) (Does.call (f := 14) (args := #[.slice ad93 1 cap94,.slice (some ⟨h146.size,0,none⟩) 1 1]) (by kernel_rfl) (samef_one _ (1,2) _ _ _ _ rd0 (Row.blk (n := 1) (sz := 2) (l := ftrow [(1,2)]) m149 rfl))) ?_
 refine tN 10 (.slice (some ⟨h147.size,0,none⟩) 1 1) (#[.int .i64 0,.int .i64 1]) 53 fun h153 g154 m155 => ?_
 have lt156 := blk_lt m155
 have zs157 := e0.size
 have zs158 := sz1
 have hlo := e0.size
 have sepo := sep
 replace e0 := e0.ext g154
 replace kt := kt.ext g154
 replace sz1 := Nat.le_trans sz1 g154.size
 replace rb := rb.ext g154
 replace rd0 := rd0.ext g154
 replace rd1 := rd1.ext g154
 replace rd2 := rd2.ext g154
 replace m7 := Ext.blk g154 m7
 replace m13 := Ext.blk g154 m13
 replace m21 := Ext.blk g154 m21
 replace m37 := Ext.blk g154 m37
 replace m53 := Ext.blk g154 m53
 replace m69 := Ext.blk g154 m69
 replace m149 := Ext.blk g154 m149
 replace sep := sep.up g154.size
 replace sep := sepo.new hlo (blk_lt m155)
 clear sepo hlo
 refine tC 11 (.bool true) (Does.call (f := 14) (args := #[.slice ad108 1 cap109,.slice (some ⟨h147.size,0,none⟩) 1 1]) (by kernel_rfl) (samef_one _ (0,1) _ _ _ _ rd1 (Row.blk (n := 1) (sz := 2) (l := ftrow [(0,1)]) m155 rfl))) ?_
 refine tN 16 (.slice (some ⟨h153.size,0,none⟩) 1 1) (#[.int .i64 4,.int .i64 1]) 53 fun h159 g160 m161 => ?_
 have lt162 := blk_lt m161
 have zs163 := e0.size
 have zs164 := sz1
 have hlo := e0.size
 have sepo := sep
 replace e0 := e0.ext g160
 replace kt := kt.ext g160
 replace sz1 := Nat.le_trans sz1 g160.size
 replace rb := rb.ext g160
 replace rd0 := rd0.ext g160
 replace rd1 := rd1.ext g160
 replace rd2 := rd2.ext g160
 replace m7 := Ext.blk g160 m7
 replace m13 := Ext.blk g160 m13
 replace m21 := Ext.blk g160 m21
 replace m37 := Ext.blk g160 m37
 replace m53 := Ext.blk g160 m53
 replace m69 := Ext.blk g160 m69
 replace m149 := Ext.blk g160 m149
 replace m155 := Ext.blk g160 m155
 replace sep := sep.up g160.size
 replace sep := sepo.new hlo (blk_lt m161)
 clear sepo hlo
 refine tC 17 (.bool true) (Does.call (f := 14) (args := #[.slice ad129 1 cap130,.slice (some ⟨h153.size,0,none⟩) 1 1]) (by kernel_rfl) (samef_one _ (4,1) _ _ _ _ rd2 (Row.blk (n := 1) (sz := 2) (l := ftrow [(4,1)]) m161 rfl))) ?_
 refine sT [(0,.bool true)] fun a hF => ?_
 refine cR ?_
 refine rT 0 (.bool true) hF ?_
 exact ⟨rfl,e0⟩
end Go.Proofs.YtegkejcglfgpmaaDoor
end
section
namespace Go.Proofs.YtegkejcglfgpmaaDoor
open Go Go.Lane Go.Sha
noncomputable def b4 : Code := Tryd.f4.body.getD .skip
set_option maxHeartbeats 1000000 in
set_option maxRecDepth 10000 in
theorem asks_sat (h : Heap) (L : List OpR) (la : Option Addr) (lc : Nat) (hl : Row h (.slice la L.length lc) L.length 5 (oprow L)) (ho : ∀ o ∈ L,OpAt h o) (hlb : L.length ≤ 1048576) (Q : List OpR) (qa : Option Addr) (qc : Nat) (hq : Row h (.slice qa Q.length qc) Q.length 5 (oprow Q)) (hp : ∀ o ∈ Q,OpAt h o) (hqb : Q.length ≤ 1048576) (kt : Ktab h) : Sat Tryd.prog 4 #[.slice la L.length lc,.slice qa Q.length qc] h fun v h' => v = .bool true ∧ Ext h h' := by
 have e0 := Ext.refl h
 have h0s := kt.lt
 have sep : Sep h.size h.size [] := Sep.nil _ _
 refine sat_in Tryd.func4 92 fun a hF => ?_
 refine qP [] hF fun a hF => ?_
 refine qS hF ?_
 refine tG 0 (shown_sat _ kt) ?_
 rintro _ h1 ⟨rfl,g⟩
 replace e0 := e0.ext g
 replace kt := kt.ext g
 replace sep := sep.up g.size
 clear g
 refine sT [(5,.bool true)] fun a hF => ?_
 refine cS ?_
 refine qP [(15,.bool false)] hF fun a hF => ?_
 refine cF 15 hF ?_
 refine cN ?_
 refine tK ?_
 refine qS hF ?_
 refine tG 0 (new_m _ (by have := e0.size; omega)) ?_
 rintro _ h5 ⟨mb,mp,rfl,hM,hb2,hp3,g⟩
 have hse := e0.size
 replace e0 := e0.ext g
 replace kt := kt.ext g
 replace sep := sep.up g.size
 clear g
 have hk4 := hM.kb
 have sz1 : h5.size ≤ h5.size := Nat.le_refl _
 refine sT [(6,pV mb)] fun a hF => ?_
 refine cS ?_
 refine qP [(7,.int .i64 0)] hF fun a hF => ?_
 refine cB 0 ?_
 have hM : Mod h5 mb mp (run (L.take 0) M0) := hM
 refine cL (fun m a h' => ∃ k : Nat,m = L.length - k ∧ (Ext h h') ∧ (Ktab h') ∧ (k ≤ L.length) ∧ (Mod h' mb mp (run (L.take k) M0)) ∧ (h5.size ≤ h'.size) ∧ (Sep h.size h'.size []) ∧ (Fr a 92 [(0,.slice la L.length lc),(1,.slice qa Q.length qc),(5,.bool true),(6,.pointer (some ⟨mb,0,none⟩)),(7,.int .i64 ((k : Nat) : Int))])) (L.length - 0) ⟨0,rfl,e0,kt,(by omega),hM,sz1,sep,hF.to⟩ ?_
 clear hF a
 clear e0
 clear kt
 clear hM
 clear sz1
 clear sep
 rintro m a h6 ⟨k,rfl,e0,kt,hk,hM,sz1,sep,hF⟩
 refine cS ?_
 refine qP [(20,.bool (decide (((k : Nat) : Int) < ((L.length : Nat) : Int))))] hF fun a hF => ?_
 refine cJ 20 hF (fun hc7 => ?_) fun hc7 => ?_
 ·skip
  have hkn : k < L.length := by omega
  have hFn := hF
  obtain ⟨al,rfl,hcap_al⟩ := hl.someA (by omega)
  have hF := hFn; clear hFn
  obtain ⟨x,hx⟩ : ∃ x,L.getD k op0 = x := ⟨_,rfl⟩
  have hox : OpAt h x := hx ▸ opAt_of ho hkn
  have hrl := run_len L k
  refine cN ?_
  refine tK ?_
  refine cS ?_
  refine cB 1 ?_
  refine rS hF ?_
  refine tI 3 al L.length 5 k (k * 5) ?_
  refine tC 4 (.agg ((opc x).toArray)) (Calm.load (T := 26) (p := (Addr.add al (k * 5))) (by kernel_rfl) (hx ▸ Row.fm (d := op0) opc_len (hl.ext e0) (by kernel_rfl) (by omega) rfl)) ?_
  have lb14 := hM.kb
  refine tG 5 (do_is _ mb mp (run (L.take k) M0) hM x.kd x.n x.s x.l x.oa x.oc x.ka x.kn x.kc (hox.ext e0).1 hox.2 kt (by omega) (run (L.take (k + 1)) M0) ((step (run (L.take k) M0) x.kd x.n x.s x.l).2) (run_step hx hkn)) ?_
  rintro _ h15 ⟨qa8,qc9,ia10,ic11,pa12,pc13,rfl,_,_,_,_,m2,gm⟩
  replace e0 := Gr.toExt e0 gm (by rintro i (e | e) <;> omega)
  replace kt := kt.gr gm (by rintro (e | e) <;> omega)
  replace sep := sep.up gm.1
  replace sz1 := Nat.le_trans sz1 gm.1
  clear hM; have hM := m2; clear m2 gm
  refine sE [] fun a hF => ?_
  refine bK ?_
  refine tK ?_
  refine rS hF ?_
  refine tA 1 k 1 ?_
  refine sE [(7,nV (k + 1))] fun a hF => ?_
  replace sep := sep.sub (l' := []) (.slnil)
  show ∃ m',m' < _ ∧ _
  refine ⟨_,?_,(k + 1),rfl,e0,kt,(by omega),hM,sz1,sep,hF.to⟩
  omega
 ·skip
  refine cX 0 (xT (xT (xB ?_)))
  refine tK ?_
  refine qS hF ?_
  have hrl := run_len L k
  obtain ⟨R,hR⟩ : ∃ R,run (L.take k) M0 = R := ⟨_,rfl⟩
  rw [hR] at hM hrl
  have lb16 := hM.kb
  refine tG 1 (clone_M _ mb mp R hM (by omega)) ?_
  rintro _ h20 ⟨nb,np,rfl,hN,hb17,hp18,g⟩
  have hse := e0.size
  replace e0 := e0.ext g
  replace kt := kt.ext g
  replace hM := hM.ext g
  replace sz1 := Nat.le_trans sz1 g.size
  replace sep := sep.up g.size
  clear g
  have hk19 := hN.kb
  have sz2 : h20.size ≤ h20.size := Nat.le_refl _
  refine sT [(8,pV nb)] fun a hF => ?_
  refine cS ?_
  refine qP [(32,.bool false)] hF fun a hF => ?_
  refine cF 32 hF ?_
  refine cN ?_
  refine tK ?_
  refine cS ?_
  refine qP [(9,.int .i64 0)] hF fun a hF => ?_
  refine cB 2 ?_
  clear hR
  refine cL (fun m a h' => ∃ j : Nat,m = Q.length - j ∧ (Ext h h') ∧ (Ktab h') ∧ (j ≤ Q.length) ∧ (Mod h' mb mp R) ∧ (Mod h' nb np R) ∧ (h5.size ≤ h'.size) ∧ (h20.size ≤ h'.size) ∧ (Sep h.size h'.size []) ∧ (Fr a 92 [(1,.slice qa Q.length qc),(5,.bool true),(6,.pointer (some ⟨mb,0,none⟩)),(8,.pointer (some ⟨nb,0,none⟩)),(9,.int .i64 ((j : Nat) : Int))])) (Q.length - 0) ⟨0,rfl,e0,kt,(by omega),hM,hN,sz1,sz2,sep,hF.to⟩ ?_
  clear hF a
  clear e0
  clear kt
  clear hM
  clear hN
  clear sz1
  clear sz2
  clear sep
  rintro m a h21 ⟨j,rfl,e0,kt,hj,hM,hN,sz1,sz2,sep,hF⟩
  refine cS ?_
  refine qP [(36,.bool (decide (((j : Nat) : Int) < ((Q.length : Nat) : Int))))] hF fun a hF => ?_
  refine cJ 36 hF (fun hc22 => ?_) fun hc22 => ?_
  ·skip
   have hjn : j < Q.length := by omega
   have hFn := hF
   obtain ⟨aq,rfl,hcap_aq⟩ := hq.someA (by omega)
   have hF := hFn; clear hFn
   obtain ⟨x,hx⟩ : ∃ x,Q.getD j op0 = x := ⟨_,rfl⟩
   have hox : OpAt h x := hx ▸ opAt_of hp hjn
   refine cN ?_
   refine tK ?_
   refine cS ?_
   refine cB 3 ?_
   refine cS ?_
   refine qS hF ?_
   refine tI 2 aq Q.length 5 j (j * 5) ?_
   refine t1 3 (.pointer (some (Addr.add aq (j * 5)))) (.pointer (some ((Addr.add aq (j * 5)).add 0))) (by rw [add_add,Nat.add_zero]) ?_
   refine tC 4 (.int .i64 x.kd) (Calm.load (T := 3) (p := (Addr.add aq (j * 5))) (by kernel_rfl) (Loads.one (k := 1) (by kernel_rfl) (hx ▸ op_kd (hq.ext e0) hjn))) ?_
   refine sT [(43,.int .i64 x.kd)] fun a hF => ?_
   refine cB 4 ?_
   refine cS ?_
   refine qP [(44,.bool (decide (x.kd = (1 : Int))))] hF fun a hF => ?_
   refine cJ 44 hF (fun hc23 => ?_) fun hc23 => ?_
   ·skip
    refine cN ?_
    refine tK ?_
    refine cJ 44 hF (fun hx24 => ?_) fun hx24 => absurd hc23 hx24
    refine cX 3 (xN (xT (xB ?_)))
    refine tK ?_
    refine rS hF ?_
    refine tA 1 j 1 ?_
    refine sE [(9,nV (j + 1))] fun a hF => ?_
    replace sep := sep.sub (l' := []) (.slnil)
    show ∃ m',m' < _ ∧ _
    refine ⟨_,?_,(j + 1),rfl,e0,kt,(by omega),hM,hN,sz1,sz2,sep,hF.to⟩
    omega
   ·skip
    refine qP [(44,.bool (decide (x.kd = (4 : Int))))] hF fun a hF => ?_
    refine cJ 44 hF (fun hc25 => ?_) fun hc25 => ?_
    ·skip
     refine cN ?_
     refine tK ?_
     refine cJ 44 hF (fun hx26 => ?_) fun hx26 => absurd hc25 hx26
     refine cX 3 (xN (xT (xB ?_)))
     refine tK ?_
     refine rS hF ?_
     refine tA 1 j 1 ?_
     refine sE [(9,nV (j + 1))] fun a hF => ?_
     replace sep := sep.sub (l' := []) (.slnil)
     show ∃ m',m' < _ ∧ _
     refine ⟨_,?_,(j + 1),rfl,e0,kt,(by omega),hM,hN,sz1,sz2,sep,hF.to⟩
     omega
    ·skip
     refine qP [(44,.bool (decide (x.kd = (5 : Int))))] hF fun a hF => ?_
     refine cJ 44 hF (fun hc27 => ?_) fun hc27 => ?_
     ·skip
      refine cN ?_
      refine tK ?_
      refine cJ 44 hF (fun hx28 => ?_) fun hx28 => absurd hc27 hx28
      refine cX 3 (xN (xT (xB ?_)))
      refine tK ?_
      refine rS hF ?_
      refine tA 1 j 1 ?_
      refine sE [(9,nV (j + 1))] fun a hF => ?_
      replace sep := sep.sub (l' := []) (.slnil)
      show ∃ m',m' < _ ∧ _
      refine ⟨_,?_,(j + 1),rfl,e0,kt,(by omega),hM,hN,sz1,sz2,sep,hF.to⟩
      omega
     ·skip
      refine qP [(44,.bool (decide (x.kd = (6 : Int))))] hF fun a hF => ?_
      refine cJ 44 hF (fun hc29 => ?_) fun hc29 => ?_
      ·skip
       refine cN ?_
       refine tK ?_
       refine cJ 44 hF (fun hx30 => ?_) fun hx30 => absurd hc29 hx30
       refine cX 3 (xN (xT (xB ?_)))
       refine tK ?_
       refine rS hF ?_
       refine tA 1 j 1 ?_
       refine sE [(9,nV (j + 1))] fun a hF => ?_
       replace sep := sep.sub (l' := []) (.slnil)
       show ∃ m',m' < _ ∧ _
       refine ⟨_,?_,(j + 1),rfl,e0,kt,(by omega),hM,hN,sz1,sz2,sep,hF.to⟩
       omega
      ·skip
       refine rP [(44,.bool (decide (x.kd = (10 : Int))))] hF fun a hF => ?_
       refine tK ?_
       refine cJ 44 hF (fun hc31 => ?_) fun hc31 => ?_
       ·skip
        refine cX 3 (xN (xT (xB ?_)))
        refine tK ?_
        refine rS hF ?_
        refine tA 1 j 1 ?_
        refine sE [(9,nV (j + 1))] fun a hF => ?_
        replace sep := sep.sub (l' := []) (.slnil)
        show ∃ m',m' < _ ∧ _
        refine ⟨_,?_,(j + 1),rfl,e0,kt,(by omega),hM,hN,sz1,sz2,sep,hF.to⟩
        omega
       ·skip
        refine cN ?_
        refine bK ?_
        refine tK ?_
        refine qS hF ?_
        refine tI 3 aq Q.length 5 j (j * 5) ?_
        refine tC 4 (.agg ((opc x).toArray)) (Calm.load (T := 26) (p := (Addr.add aq (j * 5))) (by kernel_rfl) (hx ▸ Row.fm (d := op0) opc_len (hq.ext e0) (by kernel_rfl) hjn rfl)) ?_
        obtain ⟨W,hW⟩ : ∃ W,(step R x.kd x.n x.s x.l).2 = W := ⟨_,rfl⟩
        have hwb := step_bnd hM x.kd x.n x.s x.l; rw [hW] at hwb
        have hs := ask_step ⟨by omega,by omega,by omega,by omega,by omega⟩ hW
        have lb38 := hM.kb
        have lb39 := hN.kb
        refine tG 5 (do_is _ mb mp R hM x.kd x.n x.s x.l x.oa x.oc x.ka x.kn x.kc (hox.ext e0).1 hox.2 kt (by omega) R W hs) ?_
        rintro _ h40 ⟨qa32,qc33,ia34,ic35,pa36,pc37,rfl,q1,i1,p1,x1,m2,gm⟩
        replace hN := hN.other hM gm (by omega) (by omega)
        replace e0 := Gr.toExt e0 gm (by rintro i (e | e) <;> omega)
        replace kt := kt.gr gm (by rintro (e | e) <;> omega)
        replace sep := sep.up gm.1
        replace sz1 := Nat.le_trans sz1 gm.1
        replace sz2 := Nat.le_trans sz2 gm.1
        clear hM; have hM := m2; clear m2 gm
        refine tN 6 (pV h40.size) ((asc (0 : Int) (.slice none 0 0) rb0 (0 : Int) false false (.slice none 0 0) (0 : Int) rb0 (0 : Int) (.slice none 0 0)).toArray) 41 fun h41 g42 m43 => ?_
        have lt44 := blk_lt m43
        have zs45 := e0.size
        have zs46 := sz1
        have zs47 := sz2
        have hlo := e0.size
        have sepo := sep
        replace e0 := e0.ext g42
        replace kt := kt.ext g42
        replace hM := hM.ext g42
        replace hN := hN.ext g42
        replace sz1 := Nat.le_trans sz1 g42.size
        replace sz2 := Nat.le_trans sz2 g42.size
        replace q1 := q1.ext g42
        replace i1 := i1.ext g42
        replace p1 := p1.ext g42
        replace sep := sep.up g42.size
        replace sep := sepo.new hlo (blk_lt m43)
        clear sepo hlo
        refine tW 7 0 (asc W.c (.slice qa32 W.b.length qc33) W.sx W.se W.sh W.sg (.slice ia34 W.i.length ic35) W.n W.y W.k (.slice pa36 W.p.length pc37)) (asc (0 : Int) (.slice none 0 0) rb0 (0 : Int) false false (.slice none 0 0) (0 : Int) rb0 (0 : Int) (.slice none 0 0)) (asc W.c (.slice qa32 W.b.length qc33) W.sx W.se W.sh W.sg (.slice ia34 W.i.length ic35) W.n W.y W.k (.slice pa36 W.p.length pc37)) m43 (fun h48 g49 m43' => ?_)
        replace e0 := e0.grew g49 (sep.low 0 rfl)
        replace kt := kt.grew g49 (sep.zero 0 rfl h0s)
        replace hM := hM.put1 g49 m43 (by decide) (by omega)
        replace hN := hN.put1 g49 m43 (by decide) (by omega)
        replace sz1 := Nat.le_trans sz1 g49.1
        replace sz2 := Nat.le_trans sz2 g49.1
        replace q1 := q1.put1 g49 m43 (by decide)
        replace i1 := i1.put1 g49 m43 (by decide)
        replace p1 := p1.put1 g49 m43 (by decide)
        replace sep := sep.up g49.size
        clear m43; have m43 := m43'; clear m43'
        refine sT [(10,pV h40.size)] fun a hF => ?_
        refine qS hF ?_
        refine tI 3 aq Q.length 5 j (j * 5) ?_
        refine tC 4 (.agg ((opc x).toArray)) (Calm.load (T := 26) (p := (Addr.add aq (j * 5))) (by kernel_rfl) (hx ▸ Row.fm (d := op0) opc_len (hq.ext e0) (by kernel_rfl) hjn rfl)) ?_
        have lb56 := hM.kb
        have lb57 := hN.kb
        refine tG 5 (do_is _ mb mp R hM x.kd x.n x.s x.l x.oa x.oc x.ka x.kn x.kc (hox.ext e0).1 hox.2 kt (by omega) R W hs) ?_
        rintro _ h58 ⟨qa50,qc51,ia52,ic53,pa54,pc55,rfl,q2,i2,p2,x2,m2,gm⟩
        replace m43 := gm.blk m43 (by omega) (by omega)
        replace hN := hN.other hM gm (by omega) (by omega)
        replace q1 := q1.mgM gm hM
        replace i1 := i1.mgM gm hM
        replace p1 := p1.mgM gm hM
        replace e0 := Gr.toExt e0 gm (by rintro i (e | e) <;> omega)
        replace kt := kt.gr gm (by rintro (e | e) <;> omega)
        replace sep := sep.up gm.1
        replace sz1 := Nat.le_trans sz1 gm.1
        replace sz2 := Nat.le_trans sz2 gm.1
        clear hM; have hM := m2; clear m2 gm
        refine tN 6 (pV h58.size) ((asc (0 : Int) (.slice none 0 0) rb0 (0 : Int) false false (.slice none 0 0) (0 : Int) rb0 (0 : Int) (.slice none 0 0)).toArray) 41 fun h59 g60 m61 => ?_
        have lt62 := blk_lt m61
        have zs63 := e0.size
        have zs64 := sz1
        have zs65 := sz2
        have hlo := e0.size
        have sepo := sep
        replace e0 := e0.ext g60
        replace kt := kt.ext g60
        replace hM := hM.ext g60
        replace hN := hN.ext g60
        replace sz1 := Nat.le_trans sz1 g60.size
        replace sz2 := Nat.le_trans sz2 g60.size
        replace q1 := q1.ext g60
        replace i1 := i1.ext g60
        replace p1 := p1.ext g60
        replace q2 := q2.ext g60
        replace i2 := i2.ext g60
        replace p2 := p2.ext g60
        replace m43 := Ext.blk g60 m43
        replace sep := sep.up g60.size
        replace sep := sepo.new hlo (blk_lt m61)
        clear sepo hlo
        refine tW 7 0 (asc W.c (.slice qa50 W.b.length qc51) W.sx W.se W.sh W.sg (.slice ia52 W.i.length ic53) W.n W.y W.k (.slice pa54 W.p.length pc55)) (asc (0 : Int) (.slice none 0 0) rb0 (0 : Int) false false (.slice none 0 0) (0 : Int) rb0 (0 : Int) (.slice none 0 0)) (asc W.c (.slice qa50 W.b.length qc51) W.sx W.se W.sh W.sg (.slice ia52 W.i.length ic53) W.n W.y W.k (.slice pa54 W.p.length pc55)) m61 (fun h66 g67 m61' => ?_)
        replace e0 := e0.grew g67 (sep.low 0 rfl)
        replace kt := kt.grew g67 (sep.zero 0 rfl h0s)
        replace hM := hM.put1 g67 m61 (by decide) (by omega)
        replace hN := hN.put1 g67 m61 (by decide) (by omega)
        replace sz1 := Nat.le_trans sz1 g67.1
        replace sz2 := Nat.le_trans sz2 g67.1
        replace q1 := q1.put1 g67 m61 (by decide)
        replace i1 := i1.put1 g67 m61 (by decide)
        replace p1 := p1.put1 g67 m61 (by decide)
        replace q2 := q2.put1 g67 m61 (by decide)
        replace i2 := i2.put1 g67 m61 (by decide)
        replace p2 := p2.put1 g67 m61 (by decide)
        replace m43 := Grew.blk g67 m43 ((sep.bp 1 0))
        replace sep := sep.up g67.size
        clear m61; have m61 := m61'; clear m61'
        refine sT [(11,pV h58.size)] fun a hF => ?_
        refine qS hF ?_
        refine tI 3 aq Q.length 5 j (j * 5) ?_
        refine tC 4 (.agg ((opc x).toArray)) (Calm.load (T := 26) (p := (Addr.add aq (j * 5))) (by kernel_rfl) (hx ▸ Row.fm (d := op0) opc_len (hq.ext e0) (by kernel_rfl) hjn rfl)) ?_
        have lb74 := hM.kb
        have lb75 := hN.kb
        refine tG 5 (do_is _ nb np R hN x.kd x.n x.s x.l x.oa x.oc x.ka x.kn x.kc (hox.ext e0).1 hox.2 kt (by omega) R W hs) ?_
        rintro _ h76 ⟨qa68,qc69,ia70,ic71,pa72,pc73,rfl,q3,i3,p3,x3,m2,gm⟩
        replace m43 := gm.blk m43 (by omega) (by omega)
        replace m61 := gm.blk m61 (by omega) (by omega)
        replace hM := hM.other hN gm (by omega) (by omega)
        replace q1 := q1.mgM gm hN
        replace i1 := i1.mgM gm hN
        replace p1 := p1.mgM gm hN
        replace q2 := q2.mgM gm hN
        replace i2 := i2.mgM gm hN
        replace p2 := p2.mgM gm hN
        replace e0 := Gr.toExt e0 gm (by rintro i (e | e) <;> omega)
        replace kt := kt.gr gm (by rintro (e | e) <;> omega)
        replace sep := sep.up gm.1
        replace sz1 := Nat.le_trans sz1 gm.1
        replace sz2 := Nat.le_trans sz2 gm.1
        clear hN; have hN := m2; clear m2 gm
        refine tN 6 (pV h76.size) ((asc (0 : Int) (.slice none 0 0) rb0 (0 : Int) false false (.slice none 0 0) (0 : Int) rb0 (0 : Int) (.slice none 0 0)).toArray) 41 fun h77 g78 m79 => ?_
        have lt80 := blk_lt m79
        have zs81 := e0.size
        have zs82 := sz1
        have zs83 := sz2
        have hlo := e0.size
        have sepo := sep
        replace e0 := e0.ext g78
        replace kt := kt.ext g78
        replace hM := hM.ext g78
        replace hN := hN.ext g78
        replace sz1 := Nat.le_trans sz1 g78.size
        replace sz2 := Nat.le_trans sz2 g78.size
        replace q1 := q1.ext g78
        replace i1 := i1.ext g78
        replace p1 := p1.ext g78
        replace q2 := q2.ext g78
        replace i2 := i2.ext g78
        replace p2 := p2.ext g78
        replace q3 := q3.ext g78
        replace i3 := i3.ext g78
        replace p3 := p3.ext g78
        replace m43 := Ext.blk g78 m43
        replace m61 := Ext.blk g78 m61
        replace sep := sep.up g78.size
        replace sep := sepo.new hlo (blk_lt m79)
        clear sepo hlo
        refine tW 7 0 (asc W.c (.slice qa68 W.b.length qc69) W.sx W.se W.sh W.sg (.slice ia70 W.i.length ic71) W.n W.y W.k (.slice pa72 W.p.length pc73)) (asc (0 : Int) (.slice none 0 0) rb0 (0 : Int) false false (.slice none 0 0) (0 : Int) rb0 (0 : Int) (.slice none 0 0)) (asc W.c (.slice qa68 W.b.length qc69) W.sx W.se W.sh W.sg (.slice ia70 W.i.length ic71) W.n W.y W.k (.slice pa72 W.p.length pc73)) m79 (fun h84 g85 m79' => ?_)
        replace e0 := e0.grew g85 (sep.low 0 rfl)
        replace kt := kt.grew g85 (sep.zero 0 rfl h0s)
        replace hM := hM.put1 g85 m79 (by decide) (by omega)
        replace hN := hN.put1 g85 m79 (by decide) (by omega)
        replace sz1 := Nat.le_trans sz1 g85.1
        replace sz2 := Nat.le_trans sz2 g85.1
        replace q1 := q1.put1 g85 m79 (by decide)
        replace i1 := i1.put1 g85 m79 (by decide)
        replace p1 := p1.put1 g85 m79 (by decide)
        replace q2 := q2.put1 g85 m79 (by decide)
        replace i2 := i2.put1 g85 m79 (by decide)
        replace p2 := p2.put1 g85 m79 (by decide)
        replace q3 := q3.put1 g85 m79 (by decide)
        replace i3 := i3.put1 g85 m79 (by decide)
        replace p3 := p3.put1 g85 m79 (by decide)
        replace m43 := Grew.blk g85 m43 ((sep.bp 2 0))
        replace m61 := Grew.blk g85 m61 ((sep.bp 1 0))
        replace sep := sep.up g85.size
        clear m79; have m79 := m79'; clear m79'
        refine sT [(12,pV h76.size)] fun a hF => ?_
        refine qS hF ?_
        refine tC 0 (.agg (asc W.c (.slice qa32 W.b.length qc33) W.sx W.se W.sh W.sg (.slice ia34 W.i.length ic35) W.n W.y W.k (.slice pa36 W.p.length pc37)).toArray) (Calm.load (T := 41) (p := ⟨h40.size,0,none⟩) (by kernel_rfl) (Loads.blk (vs := asc W.c (.slice qa32 W.b.length qc33) W.sx W.se W.sh W.sg (.slice ia34 W.i.length ic35) W.n W.y W.k (.slice pa36 W.p.length pc37)) (by kernel_rfl) m43 rfl)) ?_
        refine tC 1 (.agg (asc W.c (.slice qa50 W.b.length qc51) W.sx W.se W.sh W.sg (.slice ia52 W.i.length ic53) W.n W.y W.k (.slice pa54 W.p.length pc55)).toArray) (Calm.load (T := 41) (p := ⟨h58.size,0,none⟩) (by kernel_rfl) (Loads.blk (vs := asc W.c (.slice qa50 W.b.length qc51) W.sx W.se W.sh W.sg (.slice ia52 W.i.length ic53) W.n W.y W.k (.slice pa54 W.p.length pc55)) (by kernel_rfl) m61 rfl)) ?_
        refine tG 2 (same_ans _ _ _ W ⟨_,_,_,_,_,_,rfl,q1,i1,p1,x1⟩ ⟨_,_,_,_,_,_,rfl,q2,i2,p2,x2⟩ (by omega) (by omega)) ?_
        rintro _ h86 ⟨rfl,g⟩
        replace e0 := e0.ext g
        replace kt := kt.ext g
        replace hM := hM.ext g
        replace hN := hN.ext g
        replace sz1 := Nat.le_trans sz1 g.size
        replace sz2 := Nat.le_trans sz2 g.size
        replace q1 := q1.ext g
        replace i1 := i1.ext g
        replace p1 := p1.ext g
        replace q2 := q2.ext g
        replace i2 := i2.ext g
        replace p2 := p2.ext g
        replace q3 := q3.ext g
        replace i3 := i3.ext g
        replace p3 := p3.ext g
        replace m43 := Ext.blk g m43
        replace m61 := Ext.blk g m61
        replace m79 := Ext.blk g m79
        replace sep := sep.up g.size
        clear g
        refine tC 5 (.agg (asc W.c (.slice qa32 W.b.length qc33) W.sx W.se W.sh W.sg (.slice ia34 W.i.length ic35) W.n W.y W.k (.slice pa36 W.p.length pc37)).toArray) (Calm.load (T := 41) (p := ⟨h40.size,0,none⟩) (by kernel_rfl) (Loads.blk (vs := asc W.c (.slice qa32 W.b.length qc33) W.sx W.se W.sh W.sg (.slice ia34 W.i.length ic35) W.n W.y W.k (.slice pa36 W.p.length pc37)) (by kernel_rfl) m43 rfl)) ?_
        refine tC 6 (.agg (asc W.c (.slice qa68 W.b.length qc69) W.sx W.se W.sh W.sg (.slice ia70 W.i.length ic71) W.n W.y W.k (.slice pa72 W.p.length pc73)).toArray) (Calm.load (T := 41) (p := ⟨h76.size,0,none⟩) (by kernel_rfl) (Loads.blk (vs := asc W.c (.slice qa68 W.b.length qc69) W.sx W.se W.sh W.sg (.slice ia70 W.i.length ic71) W.n W.y W.k (.slice pa72 W.p.length pc73)) (by kernel_rfl) m79 rfl)) ?_
        refine tG 7 (same_ans _ _ _ W ⟨_,_,_,_,_,_,rfl,q1,i1,p1,x1⟩ ⟨_,_,_,_,_,_,rfl,q3,i3,p3,x3⟩ (by omega) (by omega)) ?_
        rintro _ h87 ⟨rfl,g⟩
        replace e0 := e0.ext g
        replace kt := kt.ext g
        replace hM := hM.ext g
        replace hN := hN.ext g
        replace sz1 := Nat.le_trans sz1 g.size
        replace sz2 := Nat.le_trans sz2 g.size
        replace q1 := q1.ext g
        replace i1 := i1.ext g
        replace p1 := p1.ext g
        replace q2 := q2.ext g
        replace i2 := i2.ext g
        replace p2 := p2.ext g
        replace q3 := q3.ext g
        replace i3 := i3.ext g
        replace p3 := p3.ext g
        replace m43 := Ext.blk g m43
        replace m61 := Ext.blk g m61
        replace m79 := Ext.blk g m79
        replace sep := sep.up g.size
        clear g
        refine tG 13 (same_M _ mb mp R hM nb np hN (by omega)) ?_
        rintro _ h88 ⟨rfl,g⟩
        replace e0 := e0.ext g
        replace kt := kt.ext g
        replace hM := hM.ext g
        replace hN := hN.ext g
        replace sz1 := Nat.le_trans sz1 g.size
        replace sz2 := Nat.le_trans sz2 g.size
        replace q1 := q1.ext g
        replace i1 := i1.ext g
        replace p1 := p1.ext g
        replace q2 := q2.ext g
        replace i2 := i2.ext g
        replace p2 := p2.ext g
        replace q3 := q3.ext g
        replace i3 := i3.ext g
        replace p3 := p3.ext g
        replace m43 := Ext.blk g m43
        replace m61 := Ext.blk g m61
        replace m79 := Ext.blk g m79
        replace sep := sep.up g.size
        clear g
        refine tC 18 (.int .i64 R.t) (Does.call (f := 12) (args := #[pV mb]) (by kernel_rfl) (now_M _ mb mp R hM)) ?_
        refine tC 20 (.int .i64 R.t) (Does.call (f := 12) (args := #[pV nb]) (by kernel_rfl) (now_M _ nb np R hN)) ?_
        refine t1 21 (.bool false) (.bool (!(R.t == R.t))) (congrArg (fun b => Value.bool (!b)) (beq_iff_eq.2 (by omega))) ?_
        refine sT [(90,.bool false)] fun a hF => ?_
        refine cF 90 hF ?_
        refine cN ?_
        refine bK ?_
        refine tK ?_
        refine rS hF ?_
        refine tA 1 j 1 ?_
        refine sE [(9,nV (j + 1))] fun a hF => ?_
        clear m43 lt44 zs45 zs46 zs47
        clear m61 lt62 zs63 zs64 zs65
        clear m79 lt80 zs81 zs82 zs83
        replace sep := sep.sub (l' := []) (.cons _ (.cons _ (.cons _ (.slnil))))
        show ∃ m',m' < _ ∧ _
        refine ⟨_,?_,(j + 1),rfl,e0,kt,(by omega),hM,hN,sz1,sz2,sep,hF.to⟩
        omega
  ·skip
   refine cX 2 (xT (xT (xB ?_)))
   refine tK ?_
   refine qP [(4,.bool true)] hF fun a hF => ?_
   refine cR ?_
   refine rT 4 (.bool true) hF ?_
   exact ⟨rfl,e0⟩
end Go.Proofs.YtegkejcglfgpmaaDoor
end
section
namespace Go.Proofs.YtegkejcglfgpmaaDoor.modelAsks
open Go.ChangeShapes Go.WideShapes Go.ChangeAt Go.RowKit
set_option maxRecDepth 100000 in
/-- WHAT THE WALK GIVES, for every argument and every world that holds the table. -/
theorem contract (H : Type) (enc : TypeId × Value → H) (W : World) (base : Nat) (args : Array Value) (ds gs : List (DataW H)) (before : List MemPlace)
    (hval : ∀ (j : Nat) t v, Tryd.f4.params[j]? = some t → args[j]? = some v → Value.okWide Tryd.prog W .any base t v)
    (hW : DataW.Whole enc Tryd.prog Tryd.f4.params.toList Rows.modelAsksSpec.vars false W args.toList ds gs before) (hk : Rows.uptoSmall H (ds ++ gs) = true) (hL : laidMetH Tryd.prog Rows.modelAsksUptoRow.laid W) :
    Calls Tryd.prog 4 args W fun e W' => ∃ v, e = .returned v ∧ Rows.modelAsksSpec.post enc Tryd.prog Tryd.f4 false true false false W args v W' := by
  have hW' := hW
  obtain ⟨p, q, hA0, hV, rfl, hfz, hnd⟩ := hW
  have hA : DataW.TrodAll enc Tryd.prog W 0 (fun _ => true) true Tryd.f4.params.toList args.toList ds p := hA0
  rw [show Tryd.f4.params.toList = [22, 22] from rfl] at hA
  obtain ⟨v0, vs0, d0, ds0, p0, q0, hargs, rfl, rfl, h0, r0⟩ := trodAll_cons hA
  obtain ⟨v1, vs1, d1, ds1, p1, q1, rfl, rfl, rfl, h1, r1⟩ := trodAll_cons r0
  obtain ⟨rfl, rfl, rfl⟩ := trodAll_nil r1
  obtain rfl : args = #[v0, v1] := by cases args; simp_all
  obtain ⟨rfl, rfl⟩ := trodVars_none hV
  have hbulk := bulks.bound hk
  simp only [List.append_nil, Rows.uptoBulkAll] at hbulk
  have kt : Sha.Ktab W.heap := ktab_of hL
  have hO : opOk Tryd.prog 26 3 9 23 5 24 := ⟨by kernel_rfl, by kernel_rfl, by kernel_rfl, by kernel_rfl, by kernel_rfl, by kernel_rfl, by kernel_rfl, by kernel_rfl, by kernel_rfl, by kernel_rfl, by kernel_rfl, by kernel_rfl⟩
  obtain ⟨la, lc, L, rfl, hl, ho, hlb⟩ := open_opl hO (by kernel_rfl) (hval 0 22 v0 rfl rfl) h0
  obtain ⟨qa, qc, Q, rfl, hq, hp, hqb⟩ := open_opl hO (by kernel_rfl) (hval 1 22 v1 rfl rfl) h1
  refine (asks_sat W.heap L la lc hl (fun o h => (ho o h).1) (by omega) Q qa qc hq (fun o h => (hp o h).1) (by omega) kt W rfl).mono fun e W' ⟨v, he, sm, hv, ex⟩ => ?_
  subst hv
  exact ⟨_, he, law_post laidOut rfl (by kernel_rfl) (fun t ht => by
    simp only [show Tryd.f4.params.toList = [22, 22] from rfl, List.mem_cons, List.not_mem_nil, or_false] at ht
    rcases ht with rfl | rfl
    · exact ⟨by kernel_rfl, of_decide_eq_true (by kernel_rfl)⟩
    · exact ⟨by kernel_rfl, of_decide_eq_true (by kernel_rfl)⟩) rfl rfl rfl rfl hW' (below_of sm ex)⟩
noncomputable def laidWorld (os : Os) : World :=
  { World.holding Tryd.prog os ⟨#[], #[], []⟩ with heap := (World.holding Tryd.prog os ⟨#[], #[], []⟩).heap.modify 1 fun
      | .cells _ t frozen => .cells (Sha.K64.map Sha.wv).toArray t frozen
      | o => o }
theorem laid_met (os : Os) : laidMet Tryd.prog Rows.modelAsksUptoRow.laid ((laidWorld os).forCall (fun _ _ => 0) ⟨#[], #[.slice none 0 0, .slice none 0 0], []⟩).memory :=
  laidMet_of_run' 8 (by kernel_rfl) (by kernel_rfl)
theorem reads (os : Os) {H : Type} (enc : TypeId × Value → H) : ∃ places, DataW.whole enc Tryd.prog ((laidWorld os).forCall (fun _ _ => 0) ⟨#[], #[.slice none 0 0, .slice none 0 0], []⟩).memory Tryd.f4.params.toList Rows.modelAsksSpec.vars false (#[.slice none 0 0, .slice none 0 0] : Array Value).toList 8 = some ([.nil, .nil], [], places) :=
  ⟨[], by kernel_rfl⟩
set_option maxRecDepth 100000 in
theorem liftedUpto (os : Os) (started : os.Started) (H : Type) (enc : TypeId × Value → H) (F : Stop.Interp) :
    ReturnsInHanded {} Tryd.checked os 4 .any ((Rows.OpenSpec.upto Rows.modelAsksSpec).preRow enc Tryd.prog Tryd.f4 Rows.modelAsksUptoRow.domain false Rows.modelAsksUptoRow.laid) (((Rows.OpenSpec.upto Rows.modelAsksSpec).at F).post enc Tryd.prog Tryd.f4 false true false false) := by
  obtain ⟨places, hx⟩ := reads os enc
  refine returnsInHanded_of_row (C := Tryd.checked) (s := Rows.OpenSpec.upto Rows.modelAsksSpec) own started (by kernel_rfl) Tryd.func4
    (witness_row_at (enc := enc) (C := Tryd.checked) false (laidWorld os) #[.slice none 0 0, .slice none 0 0] rfl (by kernel_rfl) (by kernel_rfl) (by kernel_rfl)
      (OpenSpec.preRow_of_cond 8 hx (by kernel_rfl) (fun k hk => by cases hk; kernel_rfl) (by kernel_rfl) (laid_met os))) ?_
  intro W base args ds gs before hval hW _ hc _ hL _ _
  exact contract H enc W base args ds gs before hval hW (hc _ rfl) hL
theorem saidUpto : Rows.ModelAsksUptoSaid :=
  OpenClaim.holds_of_cond 4 Tryd.f4 rfl rfl rfl rfl rfl rfl rfl ⟨rfl, rfl, rfl, rfl, rfl⟩ rfl rfl rfl rfl rfl (by kernel_rfl) Tryd.func4 (by kernel_rfl)
    (of_decide_eq_true (by kernel_rfl)) (by unfold Func.isWrapper; first | (rw [if_pos (by decide +kernel)]; kernel_rfl) | (rw [if_neg (by decide +kernel)]; exact ⟨rfl, rfl⟩))
    (fun os started H enc _ F => by rw [OpenClaim.pre_eq_preRow]; exact liftedUpto os started H enc F)
theorem plain (f : FuncId) (fn : Func) (hf : Tryd.pinned.checked.prog.funcNamed "muniment/munimentlaw23.ModelAsks" = some f) (hfn : Tryd.pinned.checked.prog.funcs[f]? = some fn) :
    false = Tryd.pinned.checked.prog.looks [] ∧ ∀ (j : Nat) t, fn.params[j]? = some t → Tryd.pinned.checked.prog.wantsStandIn t = false := by
  obtain rfl : f = 4 := Option.some.inj ((show Tryd.prog.funcNamed "muniment/munimentlaw23.ModelAsks" = some 4 by kernel_rfl).symm.trans hf) |>.symm
  obtain rfl : fn = Tryd.f4 := (Option.some.inj (Tryd.func4.symm.trans hfn)).symm
  refine ⟨by kernel_rfl, fun j t ht => ?_⟩
  rw [show Tryd.f4.params = #[22, 22] from rfl] at ht
  have hm := Array.mem_of_getElem? ht
  simp only [List.mem_toArray, List.mem_cons, List.not_mem_nil, or_false] at hm
  have hm' : t = 22 := by rcases hm with rfl | rfl <;> simp
  subst hm'
  exact (show Tryd.prog.wantsStandIn 22 = false by kernel_rfl)
theorem cardUpto : Rows.ModelAsksUptoCardSaid :=
  Claim7.holds_tied_plain_at .later [] _ _ _ _ saidUpto (fun _ h => by cases h) (by kernel_rfl) (fun _ h => by cases h) modelAsksUpto_row_tie rfl ⟨rfl, rfl⟩ (by kernel_rfl) rfl plain (by kernel_rfl)
end Go.Proofs.YtegkejcglfgpmaaDoor.modelAsks
end
