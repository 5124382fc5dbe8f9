/- The walks and the plain laws, part 3: RefC, TreeA, TreeB, TreeC, TreeD, TreeE, TreeG, TreeH, ChkA, ChkB, MdlAns, MdlEq, MdlJdg, MdlLaw, ReadM, RMath, RetA, RetB, RetC, MdlA, Ref11, RA, MdlB. Conditions: those that each theorem names. -/
import Derived.Test.YtegkejcglfgpmaaGreatDoorPp2
section
namespace Go.Proofs.YtegkejcglfgpmaaGreatDoor
open Go Go.Lane Go.Sha
noncomputable def b86:Code:=Tryz.f86.body.getD .skip
theorem h0cells:(#[.int .u32 1779033703,.int .u32 3144134277,.int .u32 1013904242,.int .u32 2773480762,.int .u32 1359893119,.int .u32 2600822924,.int .u32 528734635,.int .u32 1541459225]:Array Value)=(sv H0).toArray :=by kernel_rfl
set_option maxHeartbeats 2000000 in
theorem rsum_sat(h:Heap)(l:List UInt8)(va:Option Addr)(vc:Nat)(hr:Row h (.slice va l.length vc) l.length 1 (l.map bv))(hn:l.length ≤1099511627776):Sat Tryz.prog 86 #[.slice va l.length vc] h fun v h'=>v=hv (sha l)∧Ext h h':=by
 have e0:=Ext.refl h
 have sep:Sep h.size h.size []:=Sep.nil _ _
 refine sat_in Tryz.func86 72 fun a hF=> ?_
 refine qS hF ?_
 refine tN 0 (pV h.size) #[.int .u8 0,.int .u8 0,.int .u8 0,.int .u8 0,.int .u8 0,.int .u8 0,.int .u8 0,.int .u8 0,.int .u8 0,.int .u8 0,.int .u8 0,.int .u8 0,.int .u8 0,.int .u8 0,.int .u8 0,.int .u8 0,.int .u8 0,.int .u8 0,.int .u8 0,.int .u8 0,.int .u8 0,.int .u8 0,.int .u8 0,.int .u8 0,.int .u8 0,.int .u8 0,.int .u8 0,.int .u8 0,.int .u8 0,.int .u8 0,.int .u8 0,.int .u8 0] 39 fun h1 g2 m3=> ?_
 replace sep:=sep.nw e0.size m3
 refine sT [(2,pV h.size)] fun a hF=> ?_
 refine qS hF ?_
 refine tN 0 (.slice (some ⟨h1.size,0,none⟩) 0 0) #[] 5 fun h4 g5 m6=> ?_
 replace e0:=e0.ext g2
 replace sep:=sep.nw e0.size m6
 have own_t:Own h4 (.slice (some ⟨h1.size,0,none⟩) 0 0) 5 ([]:List UInt8).length 1 (([]:List UInt8).map bv):=Own.empty 1 m6
 replace sep:Sep h.size h4.size [(some ⟨h1.size,0,none⟩:Option Addr).map (·.block),some (h.size)]:=sep
 replace e0:=e0.ext g5
 replace m3:=m3.x g5
 clear m6
 refine tP 2 l.length 1 (l.map bv) own_t (hr.ext e0) (ones_map _) (fun ad7 cap8 h9 own_t g10 hb11=> ?_)
 have s12:=sep
 replace sep:=sep.sa g10 0 hb11 own_t e0.size;clear hb11
 refine sT [(3,.slice ad7 l.length cap8)] fun a hF=> ?_
 refine qS hF ?_
 refine tN 1 (.slice (some ⟨h9.size,0,none⟩) 1 1) #[.int .u8 128] 5 fun h13 g14 m15=> ?_
 replace e0:=e0.grew g10 (s12.l 0)
 replace sep:=sep.nw e0.size m15
 replace own_t:=own_t.ext g14
 refine tP 2 ((l++[(128:UInt8)]).length) 1 ((l++[(128:UInt8)]).map bv) own_t (Row.blk (l:=[bv (128:UInt8)]) m15 rfl) (List.all_eq_true.1 (by rfl)) (fun ad16 cap17 h18 own_t g19 hb20=> ?_) (hl:=(by unfold maxLen;first|omega| (simp only[List.length_append,List.length_cons,List.length_nil,List.length_replicate,zlen];omega))) (hb:=(by first|omega| (simp only[List.length_append,List.length_cons,List.length_nil,List.length_replicate,zlen];omega)))
 replace e0:=e0.ext g14
 have s21:=sep
 replace sep:=sep.sa g19 1 hb20 own_t e0.size;clear hb20
 replace m3:=((m3.y g10 (s12.bp 1 0)).x g14).y g19 (s21.bp 2 1)
 replace e0:=e0.grew g19 (s21.l 1)
 replace m15:=m15.y g19 (s21.bp 0 1)
 clear m15
 replace sep:=sep.sub (l':=[ad16.map (·.block),some (h.size)]) (.cons _ (.cons_cons _ (.cons_cons _ (.slnil))))
 refine sT [(3,.slice ad16 ((l++[(128:UInt8)]).length) cap17)] fun a hF=> ?_
 refine cS ?_
 refine cB 0 ?_
 have hz:(l++[(128:UInt8)]).length =l.length +1:=by simp
 have hz0:zlen (l.length +1)=(120 - (l.length +1)%64)%64:=rfl
 have hl0:(l++[(128:UInt8)]).length =(l++[128]++List.replicate 0 (0:UInt8)).length :=by simp
 rw[hl0] at hF
 have own_f:Own h18 (.slice ad16 (l++[128]++List.replicate 0 (0:UInt8)).length cap17) 5 (l++[128]++List.replicate 0 (0:UInt8)).length 1 ((l++[128]++List.replicate 0 (0:UInt8)).map bv):=by simpa using own_t
 refine cL (fun m a h'=>∃j:Nat,∃ad':Option Addr,∃cap':Nat,m=zlen (l.length +1) - j∧(Ext h h')∧(h'[h.size]? =some (.cells #[.int .u8 0,.int .u8 0,.int .u8 0,.int .u8 0,.int .u8 0,.int .u8 0,.int .u8 0,.int .u8 0,.int .u8 0,.int .u8 0,.int .u8 0,.int .u8 0,.int .u8 0,.int .u8 0,.int .u8 0,.int .u8 0,.int .u8 0,.int .u8 0,.int .u8 0,.int .u8 0,.int .u8 0,.int .u8 0,.int .u8 0,.int .u8 0,.int .u8 0,.int .u8 0,.int .u8 0,.int .u8 0,.int .u8 0,.int .u8 0,.int .u8 0,.int .u8 0] 39))∧(j≤zlen (l.length +1))∧(Own h' (.slice ad' (l++[128]++List.replicate j 0).length cap') 5 (l++[128]++List.replicate j 0).length 1 ((l++[128]++List.replicate j 0).map bv))∧(Sep h.size h'.size [ad'.map (·.block),some (h.size)])∧(Fr a 72 [(0,.slice va l.length vc),(2,.pointer (some ⟨h.size,0,none⟩)),(3,.slice ad' ((l++[128]++List.replicate j 0).length) cap')])) (zlen (l.length +1) - 0) ⟨0,ad16,cap17,rfl,e0,m3,(by omega),own_f,sep,hF.to⟩ ?_
 clear hF a
 clear e0
 clear m3
 clear own_f
 clear sep
 rintro m a h22 ⟨j,ad',cap',rfl,e0,m3,hj,own_t,sep,hF⟩
 have hlj:(l++[128]++List.replicate j 0).length =l.length +1+j:=by simp;omega
 refine cS ?_
 refine qS hF ?_
 refine t1 2 (.int .i64 ((((l++[128]++List.replicate j 0).length)%64:Nat):Int)) (.int .i64 (Int.tmod (((l++[128]++List.replicate j 0).length :Nat):Int) 64)) (congrArg (Value.int .i64) (tmodN ((l++[128]++List.replicate j 0).length) 64)) ?_
 refine sT [(19,.bool (!decide (((((l++[128]++List.replicate j 0).length)%64:Nat):Int)=(56:Int))))] fun a hF=> ?_
 refine cI 19 hF (fun hc23=> ?_) fun hc23=> ?_
 ·skip
  refine cN ?_
  refine tK ?_
  refine cB 1 ?_
  refine rS hF ?_
  refine tN 1 (.slice (some ⟨h22.size,0,none⟩) 1 1) #[.int .u8 0] 5 fun h24 g25 m26=> ?_
  replace sep:=sep.nw e0.size m26
  replace own_t:=own_t.ext g25
  refine tP 2 ((l++[128]++List.replicate j 0++[(0:UInt8)]).length) 1 ((l++[128]++List.replicate j 0++[(0:UInt8)]).map bv) own_t (Row.blk (l:=[bv (0:UInt8)]) m26 rfl) (List.all_eq_true.1 (by rfl)) (fun ad27 cap28 h29 own_t g30 hb31=> ?_) (hl:=(by unfold maxLen;first|omega| (simp only[List.length_append,List.length_cons,List.length_nil,List.length_replicate,zlen];omega))) (hb:=(by first|omega| (simp only[List.length_append,List.length_cons,List.length_nil,List.length_replicate,zlen];omega)))
  replace e0:=e0.ext g25
  have s32:=sep
  replace sep:=sep.sa g30 1 hb31 own_t e0.size;clear hb31
  replace m3:=(m3.x g25).y g30 (s32.bp 2 1)
  replace e0:=e0.grew g30 (s32.l 1)
  replace m26:=m26.y g30 (s32.bp 0 1)
  clear m26
  replace sep:=sep.sub (l':=[ad27.map (·.block),some (h.size)]) (.cons _ (.cons_cons _ (.cons_cons _ (.slnil))))
  refine sE [(3,.slice ad27 ((l++[128]++List.replicate j 0++[(0:UInt8)]).length) cap28)] fun a hF=> ?_
  refine bK ?_
  have hcan:(l++[128]++List.replicate j 0++[(0:UInt8)]).length =(l++[128]++List.replicate (j+1) (0:UInt8)).length :=by simp[List.replicate_succ']
  rw[hcan] at hF;clear hcan
  show ∃m',m'<_∧_
  refine⟨_,?_,(j+1),ad27,cap28,rfl,e0,m3,(by omega),(by simpa[List.replicate_succ'] using own_t),sep,hF.to⟩
  omega
 ·skip
  refine cX 0 (xT (xT (xB ?_)))
  refine tK ?_
  refine qS hF ?_
  refine t1 2 (.int .u64 ((l.length :Nat):Int)) (.int .u64 (IntKind.u64.wrap ((l.length :Nat):Int))) (congrArg (Value.int .u64) (u64n (by omega))) ?_
  refine t1 3 (.int .u64 ((8*l.length :Nat):Int)) (.int .u64 (IntKind.u64.wrap (8*((l.length :Nat):Int)))) (congrArg (Value.int .u64) (u64e (by omega) (by omega))) ?_
  refine sT [(4,.int .u64 ((8*l.length :Nat):Int))] fun a hF=> ?_
  refine cS ?_
  refine qP [(5,.int .i64 7)] hF fun a hF=> ?_
  refine cB 2 ?_
  have ej:j=zlen (l.length +1):=by omega
  subst ej
  obtain⟨T0,hT0⟩:∃T:List UInt8,l++[128]++List.replicate (zlen (l.length +1)) 0=T:=⟨_,rfl⟩
  rw[hT0] at own_t hF hlj
  refine cU 9 ?_
  refine Cround.step ?_
  refine cS ?_
  refine qP [(28,.bool true)] hF fun a hF=> ?_
  refine cT 28 hF ?_
  refine cN ?_
  refine tK ?_
  refine cS ?_
  refine cB 3 ?_
  refine rS hF ?_
  refine t1 4 (.int .u64 (((8*l.length)/2^56:Nat):Int)) (.int .u64 (Int.fdiv ((8*l.length :Nat):Int) (2^56))) (congrArg (Value.int .u64) (fdivN (8*l.length) 56)) ?_
  refine t1 5 (bv (UInt8.ofNat ((8*l.length)/2^56))) (.int .u8 (IntKind.u8.wrap (((8*l.length)/2^56:Nat):Int))) (conv64 _) ?_
  refine tN 6 (.slice (some ⟨h22.size,0,none⟩) 1 1) #[bv (UInt8.ofNat ((8*l.length)/2^56))] 5 fun h33 g34 m35=> ?_
  replace sep:=sep.nw e0.size m35
  replace own_t:=own_t.ext g34
  refine tP 7 ((T0++[UInt8.ofNat ((8*l.length)/2^56)]).length) 1 ((T0++[UInt8.ofNat ((8*l.length)/2^56)]).map bv) own_t (Row.blk (l:=[bv (UInt8.ofNat ((8*l.length)/2^56))]) m35 rfl) (List.all_eq_true.1 (by rfl)) (fun ad36 cap37 h38 own_t g39 hb40=> ?_) (hl:=(by unfold maxLen;first|omega| (simp only[List.length_append,List.length_cons,List.length_nil,List.length_replicate,zlen];omega))) (hb:=(by first|omega| (simp only[List.length_append,List.length_cons,List.length_nil,List.length_replicate,zlen];omega)))
  replace e0:=e0.ext g34
  have s41:=sep
  replace sep:=sep.sa g39 1 hb40 own_t e0.size;clear hb40
  replace m3:=(m3.x g34).y g39 (s41.bp 2 1)
  replace e0:=e0.grew g39 (s41.l 1)
  replace m35:=m35.y g39 (s41.bp 0 1)
  clear m35
  replace sep:=sep.sub (l':=[ad36.map (·.block),some (h.size)]) (.cons _ (.cons_cons _ (.cons_cons _ (.slnil))))
  obtain⟨T1,hT1⟩:∃T:List UInt8,T0++[UInt8.ofNat ((8*l.length)/2^56)]=T:=⟨_,rfl⟩
  rw[hT1] at own_t
  have hlT1:T1.length =T0.length +1:=by rw[←hT1];simp
  refine sE [(3,.slice ad36 ((T0++[UInt8.ofNat ((8*l.length)/2^56)]).length) cap37)] fun a hF=> ?_
  have hcan:((T0++[UInt8.ofNat ((8*l.length)/2^56)]).length :Nat)=T1.length :=by first| (rw[←hT1];simp;done)| (simp;done)| (simp;omega)
  rw[hcan] at hF;clear hcan
  refine bK ?_
  refine tK ?_
  refine rP [(5,.int .i64 6)] hF fun a hF=> ?_
  refine tK (Cround.step ?_)
  refine cS ?_
  refine qP [(28,.bool true)] hF fun a hF=> ?_
  refine cT 28 hF ?_
  refine cN ?_
  refine tK ?_
  refine cS ?_
  refine cB 3 ?_
  refine rS hF ?_
  refine t1 4 (.int .u64 (((8*l.length)/2^48:Nat):Int)) (.int .u64 (Int.fdiv ((8*l.length :Nat):Int) (2^48))) (congrArg (Value.int .u64) (fdivN (8*l.length) 48)) ?_
  refine t1 5 (bv (UInt8.ofNat ((8*l.length)/2^48))) (.int .u8 (IntKind.u8.wrap (((8*l.length)/2^48:Nat):Int))) (conv64 _) ?_
  refine tN 6 (.slice (some ⟨h38.size,0,none⟩) 1 1) #[bv (UInt8.ofNat ((8*l.length)/2^48))] 5 fun h42 g43 m44=> ?_
  replace sep:=sep.nw e0.size m44
  replace own_t:=own_t.ext g43
  refine tP 7 ((T1++[UInt8.ofNat ((8*l.length)/2^48)]).length) 1 ((T1++[UInt8.ofNat ((8*l.length)/2^48)]).map bv) own_t (Row.blk (l:=[bv (UInt8.ofNat ((8*l.length)/2^48))]) m44 rfl) (List.all_eq_true.1 (by rfl)) (fun ad45 cap46 h47 own_t g48 hb49=> ?_) (hl:=(by unfold maxLen;first|omega| (simp only[List.length_append,List.length_cons,List.length_nil,List.length_replicate,zlen];omega))) (hb:=(by first|omega| (simp only[List.length_append,List.length_cons,List.length_nil,List.length_replicate,zlen];omega)))
  replace e0:=e0.ext g43
  have s50:=sep
  replace sep:=sep.sa g48 1 hb49 own_t e0.size;clear hb49
  replace m3:=(m3.x g43).y g48 (s50.bp 2 1)
  replace e0:=e0.grew g48 (s50.l 1)
  replace m44:=m44.y g48 (s50.bp 0 1)
  clear m44
  replace sep:=sep.sub (l':=[ad45.map (·.block),some (h.size)]) (.cons _ (.cons_cons _ (.cons_cons _ (.slnil))))
  obtain⟨T2,hT2⟩:∃T:List UInt8,T1++[UInt8.ofNat ((8*l.length)/2^48)]=T:=⟨_,rfl⟩
  rw[hT2] at own_t
  have hlT2:T2.length =T1.length +1:=by rw[←hT2];simp
  refine sE [(3,.slice ad45 ((T1++[UInt8.ofNat ((8*l.length)/2^48)]).length) cap46)] fun a hF=> ?_
  have hcan:((T1++[UInt8.ofNat ((8*l.length)/2^48)]).length :Nat)=T2.length :=by first| (rw[←hT2];simp;done)| (simp;done)| (simp;omega)
  rw[hcan] at hF;clear hcan
  refine bK ?_
  refine tK ?_
  refine rP [(5,.int .i64 5)] hF fun a hF=> ?_
  refine tK (Cround.step ?_)
  refine cS ?_
  refine qP [(28,.bool true)] hF fun a hF=> ?_
  refine cT 28 hF ?_
  refine cN ?_
  refine tK ?_
  refine cS ?_
  refine cB 3 ?_
  refine rS hF ?_
  refine t1 4 (.int .u64 (((8*l.length)/2^40:Nat):Int)) (.int .u64 (Int.fdiv ((8*l.length :Nat):Int) (2^40))) (congrArg (Value.int .u64) (fdivN (8*l.length) 40)) ?_
  refine t1 5 (bv (UInt8.ofNat ((8*l.length)/2^40))) (.int .u8 (IntKind.u8.wrap (((8*l.length)/2^40:Nat):Int))) (conv64 _) ?_
  refine tN 6 (.slice (some ⟨h47.size,0,none⟩) 1 1) #[bv (UInt8.ofNat ((8*l.length)/2^40))] 5 fun h51 g52 m53=> ?_
  replace sep:=sep.nw e0.size m53
  replace own_t:=own_t.ext g52
  refine tP 7 ((T2++[UInt8.ofNat ((8*l.length)/2^40)]).length) 1 ((T2++[UInt8.ofNat ((8*l.length)/2^40)]).map bv) own_t (Row.blk (l:=[bv (UInt8.ofNat ((8*l.length)/2^40))]) m53 rfl) (List.all_eq_true.1 (by rfl)) (fun ad54 cap55 h56 own_t g57 hb58=> ?_) (hl:=(by unfold maxLen;first|omega| (simp only[List.length_append,List.length_cons,List.length_nil,List.length_replicate,zlen];omega))) (hb:=(by first|omega| (simp only[List.length_append,List.length_cons,List.length_nil,List.length_replicate,zlen];omega)))
  replace e0:=e0.ext g52
  have s59:=sep
  replace sep:=sep.sa g57 1 hb58 own_t e0.size;clear hb58
  replace m3:=(m3.x g52).y g57 (s59.bp 2 1)
  replace e0:=e0.grew g57 (s59.l 1)
  replace m53:=m53.y g57 (s59.bp 0 1)
  clear m53
  replace sep:=sep.sub (l':=[ad54.map (·.block),some (h.size)]) (.cons _ (.cons_cons _ (.cons_cons _ (.slnil))))
  obtain⟨T3,hT3⟩:∃T:List UInt8,T2++[UInt8.ofNat ((8*l.length)/2^40)]=T:=⟨_,rfl⟩
  rw[hT3] at own_t
  have hlT3:T3.length =T2.length +1:=by rw[←hT3];simp
  refine sE [(3,.slice ad54 ((T2++[UInt8.ofNat ((8*l.length)/2^40)]).length) cap55)] fun a hF=> ?_
  have hcan:((T2++[UInt8.ofNat ((8*l.length)/2^40)]).length :Nat)=T3.length :=by first| (rw[←hT3];simp;done)| (simp;done)| (simp;omega)
  rw[hcan] at hF;clear hcan
  refine bK ?_
  refine tK ?_
  refine rP [(5,.int .i64 4)] hF fun a hF=> ?_
  refine tK (Cround.step ?_)
  refine cS ?_
  refine qP [(28,.bool true)] hF fun a hF=> ?_
  refine cT 28 hF ?_
  refine cN ?_
  refine tK ?_
  refine cS ?_
  refine cB 3 ?_
  refine rS hF ?_
  refine t1 4 (.int .u64 (((8*l.length)/2^32:Nat):Int)) (.int .u64 (Int.fdiv ((8*l.length :Nat):Int) (2^32))) (congrArg (Value.int .u64) (fdivN (8*l.length) 32)) ?_
  refine t1 5 (bv (UInt8.ofNat ((8*l.length)/2^32))) (.int .u8 (IntKind.u8.wrap (((8*l.length)/2^32:Nat):Int))) (conv64 _) ?_
  refine tN 6 (.slice (some ⟨h56.size,0,none⟩) 1 1) #[bv (UInt8.ofNat ((8*l.length)/2^32))] 5 fun h60 g61 m62=> ?_
  replace sep:=sep.nw e0.size m62
  replace own_t:=own_t.ext g61
  refine tP 7 ((T3++[UInt8.ofNat ((8*l.length)/2^32)]).length) 1 ((T3++[UInt8.ofNat ((8*l.length)/2^32)]).map bv) own_t (Row.blk (l:=[bv (UInt8.ofNat ((8*l.length)/2^32))]) m62 rfl) (List.all_eq_true.1 (by rfl)) (fun ad63 cap64 h65 own_t g66 hb67=> ?_) (hl:=(by unfold maxLen;first|omega| (simp only[List.length_append,List.length_cons,List.length_nil,List.length_replicate,zlen];omega))) (hb:=(by first|omega| (simp only[List.length_append,List.length_cons,List.length_nil,List.length_replicate,zlen];omega)))
  replace e0:=e0.ext g61
  have s68:=sep
  replace sep:=sep.sa g66 1 hb67 own_t e0.size;clear hb67
  replace m3:=(m3.x g61).y g66 (s68.bp 2 1)
  replace e0:=e0.grew g66 (s68.l 1)
  replace m62:=m62.y g66 (s68.bp 0 1)
  clear m62
  replace sep:=sep.sub (l':=[ad63.map (·.block),some (h.size)]) (.cons _ (.cons_cons _ (.cons_cons _ (.slnil))))
  obtain⟨T4,hT4⟩:∃T:List UInt8,T3++[UInt8.ofNat ((8*l.length)/2^32)]=T:=⟨_,rfl⟩
  rw[hT4] at own_t
  have hlT4:T4.length =T3.length +1:=by rw[←hT4];simp
  refine sE [(3,.slice ad63 ((T3++[UInt8.ofNat ((8*l.length)/2^32)]).length) cap64)] fun a hF=> ?_
  have hcan:((T3++[UInt8.ofNat ((8*l.length)/2^32)]).length :Nat)=T4.length :=by first| (rw[←hT4];simp;done)| (simp;done)| (simp;omega)
  rw[hcan] at hF;clear hcan
  refine bK ?_
  refine tK ?_
  refine rP [(5,.int .i64 3)] hF fun a hF=> ?_
  refine tK (Cround.step ?_)
  refine cS ?_
  refine qP [(28,.bool true)] hF fun a hF=> ?_
  refine cT 28 hF ?_
  refine cN ?_
  refine tK ?_
  refine cS ?_
  refine cB 3 ?_
  refine rS hF ?_
  refine t1 4 (.int .u64 (((8*l.length)/2^24:Nat):Int)) (.int .u64 (Int.fdiv ((8*l.length :Nat):Int) (2^24))) (congrArg (Value.int .u64) (fdivN (8*l.length) 24)) ?_
  refine t1 5 (bv (UInt8.ofNat ((8*l.length)/2^24))) (.int .u8 (IntKind.u8.wrap (((8*l.length)/2^24:Nat):Int))) (conv64 _) ?_
  refine tN 6 (.slice (some ⟨h65.size,0,none⟩) 1 1) #[bv (UInt8.ofNat ((8*l.length)/2^24))] 5 fun h69 g70 m71=> ?_
  replace sep:=sep.nw e0.size m71
  replace own_t:=own_t.ext g70
  refine tP 7 ((T4++[UInt8.ofNat ((8*l.length)/2^24)]).length) 1 ((T4++[UInt8.ofNat ((8*l.length)/2^24)]).map bv) own_t (Row.blk (l:=[bv (UInt8.ofNat ((8*l.length)/2^24))]) m71 rfl) (List.all_eq_true.1 (by rfl)) (fun ad72 cap73 h74 own_t g75 hb76=> ?_) (hl:=(by unfold maxLen;first|omega| (simp only[List.length_append,List.length_cons,List.length_nil,List.length_replicate,zlen];omega))) (hb:=(by first|omega| (simp only[List.length_append,List.length_cons,List.length_nil,List.length_replicate,zlen];omega)))
  replace e0:=e0.ext g70
  have s77:=sep
  replace sep:=sep.sa g75 1 hb76 own_t e0.size;clear hb76
  replace m3:=(m3.x g70).y g75 (s77.bp 2 1)
  replace e0:=e0.grew g75 (s77.l 1)
  replace m71:=m71.y g75 (s77.bp 0 1)
  clear m71
  replace sep:=sep.sub (l':=[ad72.map (·.block),some (h.size)]) (.cons _ (.cons_cons _ (.cons_cons _ (.slnil))))
  obtain⟨T5,hT5⟩:∃T:List UInt8,T4++[UInt8.ofNat ((8*l.length)/2^24)]=T:=⟨_,rfl⟩
  rw[hT5] at own_t
  have hlT5:T5.length =T4.length +1:=by rw[←hT5];simp
  refine sE [(3,.slice ad72 ((T4++[UInt8.ofNat ((8*l.length)/2^24)]).length) cap73)] fun a hF=> ?_
  have hcan:((T4++[UInt8.ofNat ((8*l.length)/2^24)]).length :Nat)=T5.length :=by first| (rw[←hT5];simp;done)| (simp;done)| (simp;omega)
  rw[hcan] at hF;clear hcan
  refine bK ?_
  refine tK ?_
  refine rP [(5,.int .i64 2)] hF fun a hF=> ?_
  refine tK (Cround.step ?_)
  refine cS ?_
  refine qP [(28,.bool true)] hF fun a hF=> ?_
  refine cT 28 hF ?_
  refine cN ?_
  refine tK ?_
  refine cS ?_
  refine cB 3 ?_
  refine rS hF ?_
  refine t1 4 (.int .u64 (((8*l.length)/2^16:Nat):Int)) (.int .u64 (Int.fdiv ((8*l.length :Nat):Int) (2^16))) (congrArg (Value.int .u64) (fdivN (8*l.length) 16)) ?_
  refine t1 5 (bv (UInt8.ofNat ((8*l.length)/2^16))) (.int .u8 (IntKind.u8.wrap (((8*l.length)/2^16:Nat):Int))) (conv64 _) ?_
  refine tN 6 (.slice (some ⟨h74.size,0,none⟩) 1 1) #[bv (UInt8.ofNat ((8*l.length)/2^16))] 5 fun h78 g79 m80=> ?_
  replace sep:=sep.nw e0.size m80
  replace own_t:=own_t.ext g79
  refine tP 7 ((T5++[UInt8.ofNat ((8*l.length)/2^16)]).length) 1 ((T5++[UInt8.ofNat ((8*l.length)/2^16)]).map bv) own_t (Row.blk (l:=[bv (UInt8.ofNat ((8*l.length)/2^16))]) m80 rfl) (List.all_eq_true.1 (by rfl)) (fun ad81 cap82 h83 own_t g84 hb85=> ?_) (hl:=(by unfold maxLen;first|omega| (simp only[List.length_append,List.length_cons,List.length_nil,List.length_replicate,zlen];omega))) (hb:=(by first|omega| (simp only[List.length_append,List.length_cons,List.length_nil,List.length_replicate,zlen];omega)))
  replace e0:=e0.ext g79
  have s86:=sep
  replace sep:=sep.sa g84 1 hb85 own_t e0.size;clear hb85
  replace m3:=(m3.x g79).y g84 (s86.bp 2 1)
  replace e0:=e0.grew g84 (s86.l 1)
  replace m80:=m80.y g84 (s86.bp 0 1)
  clear m80
  replace sep:=sep.sub (l':=[ad81.map (·.block),some (h.size)]) (.cons _ (.cons_cons _ (.cons_cons _ (.slnil))))
  obtain⟨T6,hT6⟩:∃T:List UInt8,T5++[UInt8.ofNat ((8*l.length)/2^16)]=T:=⟨_,rfl⟩
  rw[hT6] at own_t
  have hlT6:T6.length =T5.length +1:=by rw[←hT6];simp
  refine sE [(3,.slice ad81 ((T5++[UInt8.ofNat ((8*l.length)/2^16)]).length) cap82)] fun a hF=> ?_
  have hcan:((T5++[UInt8.ofNat ((8*l.length)/2^16)]).length :Nat)=T6.length :=by first| (rw[←hT6];simp;done)| (simp;done)| (simp;omega)
  rw[hcan] at hF;clear hcan
  refine bK ?_
  refine tK ?_
  refine rP [(5,.int .i64 1)] hF fun a hF=> ?_
  refine tK (Cround.step ?_)
  refine cS ?_
  refine qP [(28,.bool true)] hF fun a hF=> ?_
  refine cT 28 hF ?_
  refine cN ?_
  refine tK ?_
  refine cS ?_
  refine cB 3 ?_
  refine rS hF ?_
  refine t1 4 (.int .u64 (((8*l.length)/2^8:Nat):Int)) (.int .u64 (Int.fdiv ((8*l.length :Nat):Int) (2^8))) (congrArg (Value.int .u64) (fdivN (8*l.length) 8)) ?_
  refine t1 5 (bv (UInt8.ofNat ((8*l.length)/2^8))) (.int .u8 (IntKind.u8.wrap (((8*l.length)/2^8:Nat):Int))) (conv64 _) ?_
  refine tN 6 (.slice (some ⟨h83.size,0,none⟩) 1 1) #[bv (UInt8.ofNat ((8*l.length)/2^8))] 5 fun h87 g88 m89=> ?_
  replace sep:=sep.nw e0.size m89
  replace own_t:=own_t.ext g88
  refine tP 7 ((T6++[UInt8.ofNat ((8*l.length)/2^8)]).length) 1 ((T6++[UInt8.ofNat ((8*l.length)/2^8)]).map bv) own_t (Row.blk (l:=[bv (UInt8.ofNat ((8*l.length)/2^8))]) m89 rfl) (List.all_eq_true.1 (by rfl)) (fun ad90 cap91 h92 own_t g93 hb94=> ?_) (hl:=(by unfold maxLen;first|omega| (simp only[List.length_append,List.length_cons,List.length_nil,List.length_replicate,zlen];omega))) (hb:=(by first|omega| (simp only[List.length_append,List.length_cons,List.length_nil,List.length_replicate,zlen];omega)))
  replace e0:=e0.ext g88
  have s95:=sep
  replace sep:=sep.sa g93 1 hb94 own_t e0.size;clear hb94
  replace m3:=(m3.x g88).y g93 (s95.bp 2 1)
  replace e0:=e0.grew g93 (s95.l 1)
  replace m89:=m89.y g93 (s95.bp 0 1)
  clear m89
  replace sep:=sep.sub (l':=[ad90.map (·.block),some (h.size)]) (.cons _ (.cons_cons _ (.cons_cons _ (.slnil))))
  obtain⟨T7,hT7⟩:∃T:List UInt8,T6++[UInt8.ofNat ((8*l.length)/2^8)]=T:=⟨_,rfl⟩
  rw[hT7] at own_t
  have hlT7:T7.length =T6.length +1:=by rw[←hT7];simp
  refine sE [(3,.slice ad90 ((T6++[UInt8.ofNat ((8*l.length)/2^8)]).length) cap91)] fun a hF=> ?_
  have hcan:((T6++[UInt8.ofNat ((8*l.length)/2^8)]).length :Nat)=T7.length :=by first| (rw[←hT7];simp;done)| (simp;done)| (simp;omega)
  rw[hcan] at hF;clear hcan
  refine bK ?_
  refine tK ?_
  refine rP [(5,.int .i64 0)] hF fun a hF=> ?_
  refine tK (Cround.step ?_)
  refine cS ?_
  refine qP [(28,.bool true)] hF fun a hF=> ?_
  refine cT 28 hF ?_
  refine cN ?_
  refine tK ?_
  refine cS ?_
  refine cB 3 ?_
  refine rS hF ?_
  refine t1 4 (.int .u64 (((8*l.length)/2^0:Nat):Int)) (.int .u64 (Int.fdiv ((8*l.length :Nat):Int) (2^0))) (congrArg (Value.int .u64) (fdivN (8*l.length) 0)) ?_
  refine t1 5 (bv (UInt8.ofNat ((8*l.length)/2^0))) (.int .u8 (IntKind.u8.wrap (((8*l.length)/2^0:Nat):Int))) (conv64 _) ?_
  refine tN 6 (.slice (some ⟨h92.size,0,none⟩) 1 1) #[bv (UInt8.ofNat ((8*l.length)/2^0))] 5 fun h96 g97 m98=> ?_
  replace sep:=sep.nw e0.size m98
  replace own_t:=own_t.ext g97
  refine tP 7 ((T7++[UInt8.ofNat ((8*l.length)/2^0)]).length) 1 ((T7++[UInt8.ofNat ((8*l.length)/2^0)]).map bv) own_t (Row.blk (l:=[bv (UInt8.ofNat ((8*l.length)/2^0))]) m98 rfl) (List.all_eq_true.1 (by rfl)) (fun ad99 cap100 h101 own_t g102 hb103=> ?_) (hl:=(by unfold maxLen;first|omega| (simp only[List.length_append,List.length_cons,List.length_nil,List.length_replicate,zlen];omega))) (hb:=(by first|omega| (simp only[List.length_append,List.length_cons,List.length_nil,List.length_replicate,zlen];omega)))
  replace e0:=e0.ext g97
  have s104:=sep
  replace sep:=sep.sa g102 1 hb103 own_t e0.size;clear hb103
  replace m3:=(m3.x g97).y g102 (s104.bp 2 1)
  replace e0:=e0.grew g102 (s104.l 1)
  replace m98:=m98.y g102 (s104.bp 0 1)
  clear m98
  replace sep:=sep.sub (l':=[ad99.map (·.block),some (h.size)]) (.cons _ (.cons_cons _ (.cons_cons _ (.slnil))))
  obtain⟨T8,hT8⟩:∃T:List UInt8,T7++[UInt8.ofNat ((8*l.length)/2^0)]=T:=⟨_,rfl⟩
  rw[hT8] at own_t
  have hlT8:T8.length =T7.length +1:=by rw[←hT8];simp
  refine sE [(3,.slice ad99 ((T7++[UInt8.ofNat ((8*l.length)/2^0)]).length) cap100)] fun a hF=> ?_
  have hcan:((T7++[UInt8.ofNat ((8*l.length)/2^0)]).length :Nat)=T8.length :=by first| (rw[←hT8];simp;done)| (simp;done)| (simp;omega)
  rw[hcan] at hF;clear hcan
  refine bK ?_
  refine tK ?_
  refine rP [(5,.int .i64 (-1))] hF fun a hF=> ?_
  refine tK (Cround.step ?_)
  refine cS ?_
  refine qP [(28,.bool false)] hF fun a hF=> ?_
  refine cF 28 hF ?_
  refine cX 2 (xT (xT (xB ?_)))
  refine tK ?_
  refine qS hF ?_
  refine tN 0 (.slice (some ⟨h101.size,0,none⟩) 8 8) #[.int .u32 1779033703,.int .u32 3144134277,.int .u32 1013904242,.int .u32 2773480762,.int .u32 1359893119,.int .u32 2600822924,.int .u32 528734635,.int .u32 1541459225] 143 fun h105 g106 m107=> ?_
  replace sep:=sep.nw e0.size m107
  rw[h0cells] at m107
  refine sT [(6,.slice (some ⟨h101.size,0,none⟩) 8 8)] fun a hF=> ?_
  refine cS ?_
  refine qP [(7,.int .i64 0)] hF fun a hF=> ?_
  refine cB 4 ?_
  replace e0:=e0.ext g106
  replace own_t:=own_t.ext g106
  replace m3:=m3.x g106
  subst hT8 hT7 hT6 hT5 hT4 hT3 hT2 hT1 hT0
  have hpad:l++[128]++List.replicate (zlen (l.length +1)) 0++[UInt8.ofNat ((8*l.length)/2^56)]++[UInt8.ofNat ((8*l.length)/2^48)]++[UInt8.ofNat ((8*l.length)/2^40)]++[UInt8.ofNat ((8*l.length)/2^32)]++[UInt8.ofNat ((8*l.length)/2^24)]++[UInt8.ofNat ((8*l.length)/2^16)]++[UInt8.ofNat ((8*l.length)/2^8)]++[UInt8.ofNat ((8*l.length)/2^0)]=padded l l.length :=by simp[padded,lenB]
  rw[hpad] at hF own_t;clear hpad
  have hp0:=padded_len l l.length
  have hpb:(padded l l.length).length ≤l.length +80:=by simp[padded,lenB,zlen];omega
  have own_h:Own h105 (.slice (some ⟨h101.size,0,none⟩) 8 8) 143 8 1 (sv H0):=Own.blk m107 rfl (by unfold maxLen;decide)
  clear m107
  refine cL (fun m a h'=>∃i:Nat,∃st':S8,∃ah:Addr,∃ch:Nat,∃ad':Option Addr,∃cap':Nat,m=(padded l l.length).length - i∧(Ext h h')∧(h'[h.size]? =some (.cells #[.int .u8 0,.int .u8 0,.int .u8 0,.int .u8 0,.int .u8 0,.int .u8 0,.int .u8 0,.int .u8 0,.int .u8 0,.int .u8 0,.int .u8 0,.int .u8 0,.int .u8 0,.int .u8 0,.int .u8 0,.int .u8 0,.int .u8 0,.int .u8 0,.int .u8 0,.int .u8 0,.int .u8 0,.int .u8 0,.int .u8 0,.int .u8 0,.int .u8 0,.int .u8 0,.int .u8 0,.int .u8 0,.int .u8 0,.int .u8 0,.int .u8 0,.int .u8 0] 39))∧(run st' ((padded l l.length).drop i)=run H0 (padded l l.length))∧(i%64=0∧i≤(padded l l.length).length)∧(Own h' (.slice ad' (padded l l.length).length cap') 5 (padded l l.length).length 1 ((padded l l.length).map bv))∧(Own h' (.slice (some ah) 8 ch) 143 8 1 (sv st'))∧(Sep h.size h'.size [(some ah).map (·.block),ad'.map (·.block),some (h.size)])∧(Fr a 72 [(2,.pointer (some ⟨h.size,0,none⟩)),(3,.slice ad' ((padded l l.length).length) cap'),(6,.slice (some ah) 8 ch),(7,.int .i64 ((i:Nat):Int))])) ((padded l l.length).length - 0) ⟨0,H0,⟨h101.size,0,none⟩,8,ad99,cap100,rfl,e0,m3,rfl,(by omega),own_t,own_h,sep,hF.to⟩ ?_
  clear hF a
  clear e0
  clear m3
  clear own_t
  clear own_h
  clear sep
  rintro m a h108 ⟨i,st',ah,ch,ad',cap',rfl,e0,m3,hi,hmod,own_t,own_h,sep,hF⟩
  refine cS ?_
  refine qP [(43,.bool (decide (((i:Nat):Int)<(((padded l l.length).length :Nat):Int))))] hF fun a hF=> ?_
  refine cJ 43 hF (fun hc109=> ?_) fun hc109=> ?_
  ·skip
   have hl:i+64≤(padded l l.length).length :=by omega
   have hdl:((padded l l.length).drop i).length =(padded l l.length).length - i:=List.length_drop
   refine cN ?_
   refine tK ?_
   refine cS ?_
   refine cB 5 ?_
   refine rS hF ?_
   refine tA 4 i 64 ?_
   obtain⟨ad2,had2⟩:∃x,x=if cap'=i then ad' else ad'.map (·.add (i*1)):=⟨_,rfl⟩
   have own2:=own_t.drop i (by omega)
   rw[←had2] at own2
   rw[Nat.mul_one,←List.map_drop,show(padded l l.length).length - i=((padded l l.length).drop i).length by simp] at own2
   obtain⟨ax,rfl,_⟩:=own2.someA (by rw[List.length_drop];omega)
   refine tC 5 (.slice (some ax) 64 (cap' - i)) ((fun h=>Calm.sliceO (a:=ad') (len:=((padded l l.length).length)) (cap:=cap') (sz:=1) (x:=(some ax)) i (i+64) cap' 64 (cap' - i) (by kernel_rfl) (.inl ⟨rfl,rfl⟩) (.inr rfl) (.inr rfl) (by omega) (by omega) had2 (by first|rfl|omega) (by first|rfl|omega) h) _) ?_
   refine tG 6 (rpiece_sat _ st' ah ch own_h.row ax (cap' - i) (((padded l l.length).drop i).take 64) (pre64 own2 (by rw[List.length_drop];omega))) ?_
   rintro _ h110 ⟨ah2,ch2,rfl,ownx,g,hge⟩
   have hlo:=e0.size
   have sepo:=sep
   clear own_h own2
   replace e0:=e0.ext g
   replace own_t:=own_t.ext g
   replace m3:=m3.x g
   replace sep:=sep.up g.size
   replace sep:Sep h.size h110.size [(some ah2).map (·.block),ad'.map (·.block),some (h.size)]:=sepo.set g.size hlo 0 (y:=(some ah2).map (fun(x:Addr)=>x.block)) rfl (.inr (.inr ⟨_,rfl,hge⟩)) (fun k e=>ownx.lt (by rw[blkOf_slice];exact e))
   have own_h:=ownx;clear ownx sepo hlo hge g
   refine sE [(6,.slice (some ah2) 8 ch2)] fun a hF=> ?_
   refine bK ?_
   refine tK ?_
   refine rS hF ?_
   refine tA 1 i 64 ?_
   refine sE [(7,nV (i+64))] fun a hF=> ?_
   show ∃m',m'<_∧_
   refine⟨_,?_,(i+64),(piece st' (((padded l l.length).drop i).take 64)),ah2,ch2,ad',cap',rfl,e0,m3,((run_at hl).symm.trans hi),(by omega),own_t,own_h,sep,hF.to⟩
   omega
  ·skip
   have est:st'=run H0 (padded l l.length):=by rw[←hi,List.drop_of_length_le (by omega)];rfl
   clear own_t
   replace sep:=sep.sub (l':=[(some ah).map (·.block),some (h.size)]) (.cons_cons _ (.cons _ (.cons_cons _ (.slnil))))
   refine cX 4 (xT (xT (xB ?_)))
   refine tK ?_
   refine qS hF ?_
   refine tN 1 (pV h108.size) #[.int .u8 0,.int .u8 0,.int .u8 0,.int .u8 0,.int .u8 0,.int .u8 0,.int .u8 0,.int .u8 0,.int .u8 0,.int .u8 0,.int .u8 0,.int .u8 0,.int .u8 0,.int .u8 0,.int .u8 0,.int .u8 0,.int .u8 0,.int .u8 0,.int .u8 0,.int .u8 0,.int .u8 0,.int .u8 0,.int .u8 0,.int .u8 0,.int .u8 0,.int .u8 0,.int .u8 0,.int .u8 0,.int .u8 0,.int .u8 0,.int .u8 0,.int .u8 0] 39 fun h111 g112 m113=> ?_
   replace sep:=sep.nw e0.size m113
   refine tV0 2 [.int .u8 0,.int .u8 0,.int .u8 0,.int .u8 0,.int .u8 0,.int .u8 0,.int .u8 0,.int .u8 0,.int .u8 0,.int .u8 0,.int .u8 0,.int .u8 0,.int .u8 0,.int .u8 0,.int .u8 0,.int .u8 0,.int .u8 0,.int .u8 0,.int .u8 0,.int .u8 0,.int .u8 0,.int .u8 0,.int .u8 0,.int .u8 0,.int .u8 0,.int .u8 0,.int .u8 0,.int .u8 0,.int .u8 0,.int .u8 0,.int .u8 0,.int .u8 0] m113 fun h114 g115 zq=> ?_
   replace m113:=zq
   refine sT [(8,pV h108.size)] fun a hF=> ?_
   refine cS ?_
   refine qP [(9,.int .i64 0)] hF fun a hF=> ?_
   refine cB 6 ?_
   replace e0:=(e0.ext g112).grew g115 (sep.l 0)
   replace own_h:=(own_h.ext g112).k g115 (sep.ap 1 0)
   replace m3:=(m3.x g112).y g115 (sep.bp 2 0)
   replace sep:=sep.up g115.size
   refine cL (fun m a h'=>∃i:Nat,m=32 - i∧(Ext h h')∧(h'[h.size]? =some (.cells #[.int .u8 0,.int .u8 0,.int .u8 0,.int .u8 0,.int .u8 0,.int .u8 0,.int .u8 0,.int .u8 0,.int .u8 0,.int .u8 0,.int .u8 0,.int .u8 0,.int .u8 0,.int .u8 0,.int .u8 0,.int .u8 0,.int .u8 0,.int .u8 0,.int .u8 0,.int .u8 0,.int .u8 0,.int .u8 0,.int .u8 0,.int .u8 0,.int .u8 0,.int .u8 0,.int .u8 0,.int .u8 0,.int .u8 0,.int .u8 0,.int .u8 0,.int .u8 0] 39))∧(i≤32)∧(Own h' (.slice (some ah) 8 ch) 143 8 1 (sv st'))∧(Sep h.size h'.size [some (h108.size),(some ah).map (·.block),some (h.size)])∧(h'[h108.size]? =some (.cells (ol (outW (s8l st') i)).toArray 39))∧(Fr a 72 [(2,.pointer (some ⟨h.size,0,none⟩)),(6,.slice (some ah) 8 ch),(8,.pointer (some ⟨h108.size,0,none⟩)),(9,.int .i64 ((i:Nat):Int))])) (32 - 0) ⟨0,rfl,e0,m3,(by omega),own_h,sep,m113,hF.to⟩ ?_
   clear hF a
   clear e0
   clear m3
   clear own_h
   clear sep
   clear m113
   rintro m a h116 ⟨i,rfl,e0,m3,hi32,own_h,sep,m113,hF⟩
   refine cS ?_
   refine qP [(55,.bool (decide (((i:Nat):Int)<(32:Int))))] hF fun a hF=> ?_
   refine cJ 55 hF (fun hc117=> ?_) fun hc117=> ?_
   ·skip
    refine cN ?_
    refine tK ?_
    refine cS ?_
    refine cB 7 ?_
    refine rS hF ?_
    refine t1 3 (.int .i64 ((i/4:Nat):Int)) (.int .i64 (IntKind.i64.wrap (Int.tdiv ((i:Nat):Int) 4))) (congrArg (Value.int .i64) ((congrArg IntKind.i64.wrap (tdivN (i) 4)).trans (w64 (by omega) (by omega)))) ?_
    refine tI 4 ah 8 1 (i/4) (i/4) ?_
    refine tC 5 (wv ((s8l st').getD (i/4) 0)) (Calm.load (T:=143) (p:=(Addr.add ah (i/4))) (by kernel_rfl) (Loads.one (k:=1) (by kernel_rfl) (own_h.cell (wget (l:=s8l st') (n:=8) rfl (by omega))))) ?_
    refine t1 7 (.int .i64 ((i%4:Nat):Int)) (.int .i64 (Int.tmod ((i:Nat):Int) 4)) (congrArg (Value.int .i64) (tmodN (i) 4)) ?_
    refine t1 8 (.int .i64 ((8*(i%4):Nat):Int)) (.int .i64 (IntKind.i64.wrap (8*((i%4:Nat):Int)))) (congrArg (Value.int .i64) (w64' (by omega) (by omega) (by omega))) ?_
    refine tU 9 24 (8*(i%4)) ?_
    refine tC 10 (wv (((s8l st').getD (i/4) 0)>>>(24 - (8*(i%4))))) ((Calm.shr32 (e:=((s8l st').getD (i/4) 0)) (24 - (8*(i%4))) (by kernel_rfl) (by omega)) _) ?_
    refine xD 11 (((s8l st').getD (i/4) 0)>>>(24 - (8*(i%4)))) ?_
    refine tJ 12 h108.size 0 32 1 i i ?_
    refine tV 13 i [bv (b32 (((s8l st').getD (i/4) 0)>>>(24 - (8*(i%4)))))] (ol (outW (s8l st') i++[(b32 (((s8l st').getD (i/4) 0)>>>(24 - (8*(i%4)))))])) m113 (fun h118 g119 zq=> ?_) (hfit:=(ol_fit (outW_length _ _) (by omega))) (h1:=(ones_map [(b32 (((s8l st').getD (i/4) 0)>>>(24 - (8*(i%4)))))])) (e:=(ol_put (outW_length _ _) (by omega)))
    replace m113:=zq
    refine sE [] fun a hF=> ?_
    refine bK ?_
    refine tK ?_
    refine rS hF ?_
    refine tA 1 i 1 ?_
    refine sE [(9,nV (i+1))] fun a hF=> ?_
    show ∃m',m'<_∧_
    replace e0:=e0.grew g119 (sep.l 0)
    replace own_h:=own_h.k g119 (sep.ap 1 0)
    replace m3:=m3.y g119 (sep.bp 2 0)
    replace sep:=sep.up g119.size
    refine⟨_,?_,(i+1),rfl,e0,m3,(by omega),own_h,sep,m113,hF.to⟩
    omega
   ·skip
    obtain rfl:i=32:=by omega
    rw[ol_full (outW_length _ _),outW_told] at m113
    refine cX 6 (xT (xT (xB ?_)))
    refine tK ?_
    refine qS hF ?_
    refine tC 0 (.agg ((told st').map bv).toArray) (Calm.load (T:=39) (p:=⟨h108.size,0,none⟩) (by kernel_rfl) (Loads.all (vs:=(told st').map bv) (by kernel_rfl) m113)) ?_
    refine tV 1 0 ((told st').map bv) ((told st').map bv) m3 (fun h120 g121 zq=> ?_) (h1:=(ones_map _))
    replace m3:=zq
    refine sT [] fun a hF=> ?_
    refine cR ?_
    refine ret_ok [.cell 2 39] [.agg (((told st').map bv).toArray)] (.agg (((told st').map bv).toArray)) rfl hF ⟨⟨_,rfl,Loads.all (vs:=(told st').map bv) (by kernel_rfl) m3⟩,trivial⟩ rfl ?_
    subst est
    replace e0:=e0.grew g121 (sep.l 2)
    exact⟨rfl,e0⟩
end Go.Proofs.YtegkejcglfgpmaaGreatDoor
end
section
namespace Go.Proofs.YtegkejcglfgpmaaGreatDoor
open Go Go.Lane Go.Sha
noncomputable def b30:Code:=Tryz.f30.body.getD .skip
theorem leaf_sat(h:Heap)(l:List UInt8)(va:Option Addr)(vc:Nat)(hr:Row h (.slice va l.length vc) l.length 1 (l.map bv))(hlt:l=[]∨∀k,blkOf (.slice va l.length vc)=some k→k<h.size)(kt:Ktab h)(hn:l.length ≤1099511627000):Sat Tryz.prog 30 #[.slice va l.length vc] h fun v h'=>v=hv (leafH l)∧Ext h h':=by
 have e0:=Ext.refl h
 have h0s:=kt.lt
 have sep:Sep h.size h.size []:=Sep.nil _ _
 refine sat_in Tryz.func30 13 fun a hF=> ?_
 refine qS hF ?_
 refine tN 0 (pV h.size) ((z32.map bv).toArray) 39 fun h1 g2 m3=> ?_
 replace sep:=sep.nw e0.size m3
 refine sT [(2,pV h.size)] fun a hF=> ?_
 refine qS hF ?_
 refine tG 0 (new_l _) ?_
 rintro _ h4 ⟨b_s,rfl,hs_s,hge,g⟩
 replace e0:=e0.ext g2
 have hlo:=e0.size
 have sepo:=sep
 replace kt:=kt.ext g2
 replace e0:=e0.ext g
 replace kt:=kt.ext g
 replace m3:=m3.x g
 replace sep:=sep.up g.size
 have hlt:=hs_s.lt.1
 replace sep:=(sepo.cons (x:=some b_s) g.size (by omega) (fun k e=>by cases e;exact⟨hge,hlt⟩)).none (by omega)
 clear hge hlo hlt g sepo
 refine sT [(3,pV b_s)] fun a hF=> ?_
 refine qS hF ?_
 refine tN 1 (.slice (some ⟨h4.size,0,none⟩) 1 1) #[.int .u8 0] 5 fun h5 g6 m7=> ?_
 replace sep:=sep.nw e0.size m7
 replace kt:=kt.ext g6
 replace hs_s:=hs_s.ext g6
 refine tG 2 (write_l _ b_s none ([]) ([0]) _ _ hs_s (Row.blk (l:=([0]:List UInt8).map bv) m7 rfl) (.inr (sep.bp 0 2)) (by have:=sep.low 2 rfl _ rfl;omega) (fun e=>sep.zero 1 rfl h0s e.symm) kt (by decide)) ?_
 rintro _ h9 ⟨o8,hs',ho',g⟩
 replace e0:=e0.ext g6
 have hlo:=e0.size
 replace e0:=Gr.toExt e0 g (sep.lowF 2 1 rfl rfl)
 replace kt:=kt.gr g (sep.zeroF 2 1 rfl rfl h0s)
 replace hs_s:StL h9 b_s o8 ([0]):=(by first|exact hs'|simpa using hs')
 replace m3:=m3.x g6
 replace m3:=g.blk m3 ((sep.gF 3 2 1 rfl rfl rfl (by decide) (by decide)) _ rfl)
 replace m7:=g.blk m7 ((sep.gF 0 2 1 rfl rfl rfl (by decide) (by decide)) _ rfl)
 replace sep:=sep.set g.1 hlo 1 (y:=o8) rfl (ho'.imp id .inr) (fun k e=>hs'.lt.2 k e)
 replace sep:Sep h.size h9.size [some (h4.size),o8,b_s,some (h.size)]:=sep
 clear hs' ho' g hlo
 refine sT [] fun a hF=> ?_
 refine qS hF ?_
 refine tG 2 (write_l _ b_s o8 ([0]) l _ _ hs_s (hr.ext e0) (hlt.imp id fun hl e=>by have:=hl _ e;have:=sep.low 2 rfl _ rfl;omega) (by have:=sep.low 2 rfl _ rfl;omega) (fun e=>sep.zero 1 rfl h0s e.symm) kt (by simp;omega)) ?_
 rintro _ h11 ⟨o10,hs',ho',g⟩
 have hlo:=e0.size
 replace e0:=Gr.toExt e0 g (sep.lowF 2 1 rfl rfl)
 replace kt:=kt.gr g (sep.zeroF 2 1 rfl rfl h0s)
 replace hs_s:StL h11 b_s o10 ([0]++l):=(by first|exact hs'|simpa using hs')
 replace m3:=g.blk m3 ((sep.gF 3 2 1 rfl rfl rfl (by decide) (by decide)) _ rfl)
 replace m7:=g.blk m7 ((sep.gF 0 2 1 rfl rfl rfl (by decide) (by decide)) _ rfl)
 replace sep:=sep.set g.1 hlo 1 (y:=o10) rfl (ho'.imp id .inr) (fun k e=>hs'.lt.2 k e)
 replace sep:Sep h.size h11.size [some (h4.size),o10,b_s,some (h.size)]:=sep
 clear hs' ho' g hlo
 refine sT [] fun a hF=> ?_
 refine qS hF ?_
 refine tG 1 (sum_l _ b_s o10 ([0]++l) hs_s kt (by simp<;>omega)) ?_
 rintro _ h13 ⟨rfl,g12⟩
 replace m3:=m3.x g12
 refine tF 2 (Does.store (b:=h.size) (off:=0) (vs:=(sha ([0]++l)).map bv) (l:=z32.map bv) (storeOp_of (by kernel_rfl) (hlm rfl)) m3 (hfit rfl rfl) (ones_map _)) ?_
 rintro _ h14 ⟨rfl,hh⟩
 have g15:Grew (some (h.size)) h13 h14:=hput_gr hh
 replace m3:h14[h.size]? =some (.cells ((sha ([0]++l)).map bv).toArray 39):=hput_at (off:=0) (vs:=(sha ([0]++l)).map bv) (l:=(z32.map bv)) hh (hsplice rfl rfl) m3
 clear hh
 refine sT [] fun a hF=> ?_
 refine cR ?_
 refine ret_ok [.cell 2 39] [.agg ((sha ([0]++l)).map bv).toArray] (.agg ((sha ([0]++l)).map bv).toArray) rfl hF ⟨⟨_,rfl,Loads.hash (by kernel_rfl) rfl m3⟩,trivial⟩ rfl ?_
 replace e0:=(e0.ext g12).grew g15 (sep.l 3)
 exact⟨rfl,e0⟩
noncomputable def b51:Code:=Tryz.f51.body.getD .skip
theorem node_sat(h:Heap)(x y:Hs)(hx:x.length =32)(hy:y.length =32)(kt:Ktab h):Sat Tryz.prog 51 #[.agg (x.map bv).toArray,.agg (y.map bv).toArray] h fun v h'=>v=hv (nodeH x y)∧Ext h h':=by
 have e0:=Ext.refl h
 have h0s:=kt.lt
 have sep:Sep h.size h.size []:=Sep.nil _ _
 refine sat_in Tryz.func51 18 fun a hF=> ?_
 refine qS hF ?_
 refine tN 0 (pV h.size) ((x.map bv).toArray) 39 fun h1 g2 m3=> ?_
 replace sep:=sep.nw e0.size m3
 refine tN 1 (pV h1.size) ((y.map bv).toArray) 39 fun h4 g5 m6=> ?_
 replace e0:=e0.ext g2
 replace sep:=sep.nw e0.size m6
 refine tN 2 (pV h4.size) ((z32.map bv).toArray) 39 fun h7 g8 m9=> ?_
 replace e0:=e0.ext g5
 replace sep:=sep.nw e0.size m9
 refine sT [(2,pV h.size),(3,pV h1.size),(4,pV h4.size)] fun a hF=> ?_
 refine qS hF ?_
 refine tG 0 (new_l _) ?_
 rintro _ h10 ⟨b_s,rfl,hs_s,hge,g⟩
 replace e0:=e0.ext g8
 have hlo:=e0.size
 have sepo:=sep
 replace kt:=((kt.ext g2).ext g5).ext g8
 replace m3:=(m3.x g5).x g8
 replace m6:=m6.x g8
 replace e0:=e0.ext g
 replace kt:=kt.ext g
 replace m3:=m3.x g
 replace m6:=m6.x g
 replace m9:=m9.x g
 replace sep:=sep.up g.size
 have hlt:=hs_s.lt.1
 replace sep:=(sepo.cons (x:=some b_s) g.size (by omega) (fun k e=>by cases e;exact⟨hge,hlt⟩)).none (by omega)
 clear hge hlo hlt g sepo
 refine sT [(5,pV b_s)] fun a hF=> ?_
 refine qS hF ?_
 refine tN 1 (.slice (some ⟨h10.size,0,none⟩) 1 1) #[.int .u8 1] 5 fun h11 g12 m13=> ?_
 replace sep:=sep.nw e0.size m13
 replace kt:=kt.ext g12
 replace hs_s:=hs_s.ext g12
 refine tG 2 (write_l _ b_s none ([]) ([1]) _ _ hs_s (Row.blk (l:=([1]:List UInt8).map bv) m13 rfl) (.inr (sep.bp 0 2)) (by have:=sep.low 2 rfl _ rfl;omega) (fun e=>sep.zero 1 rfl h0s e.symm) kt (by decide)) ?_
 rintro _ h15 ⟨o14,hs',ho',g⟩
 replace e0:=e0.ext g12
 have hlo:=e0.size
 replace e0:=Gr.toExt e0 g (sep.lowF 2 1 rfl rfl)
 replace kt:=kt.gr g (sep.zeroF 2 1 rfl rfl h0s)
 replace hs_s:StL h15 b_s o14 ([1]):=(by first|exact hs'|simpa using hs')
 replace m3:=m3.x g12
 replace m3:=g.blk m3 ((sep.gF 5 2 1 rfl rfl rfl (by decide) (by decide)) _ rfl)
 replace m6:=m6.x g12
 replace m6:=g.blk m6 ((sep.gF 4 2 1 rfl rfl rfl (by decide) (by decide)) _ rfl)
 replace m9:=m9.x g12
 replace m9:=g.blk m9 ((sep.gF 3 2 1 rfl rfl rfl (by decide) (by decide)) _ rfl)
 replace m13:=g.blk m13 ((sep.gF 0 2 1 rfl rfl rfl (by decide) (by decide)) _ rfl)
 replace sep:=sep.set g.1 hlo 1 (y:=o14) rfl (ho'.imp id .inr) (fun k e=>hs'.lt.2 k e)
 replace sep:Sep h.size h15.size [some (h10.size),o14,b_s,some (h4.size),some (h1.size),some (h.size)]:=sep
 clear hs' ho' g hlo
 refine sT [] fun a hF=> ?_
 refine qS hF ?_
 refine tG 2 (write_n _ b_s o14 ([1]) x _ _ _ hs_s (hrow hx m3) hx (.inr (sep.bp 5 2)) (by have:=sep.low 2 rfl _ rfl;omega) (fun e=>sep.zero 1 rfl h0s e.symm) kt (by simp<;>omega)) ?_
 rintro _ h17 ⟨o16,hs',ho',g⟩
 have hlo:=e0.size
 replace e0:=Gr.toExt e0 g (sep.lowF 2 1 rfl rfl)
 replace kt:=kt.gr g (sep.zeroF 2 1 rfl rfl h0s)
 replace hs_s:StL h17 b_s o16 ([1]++x):=(by first|exact hs'|simpa using hs')
 replace m3:=g.blk m3 ((sep.gF 5 2 1 rfl rfl rfl (by decide) (by decide)) _ rfl)
 replace m6:=g.blk m6 ((sep.gF 4 2 1 rfl rfl rfl (by decide) (by decide)) _ rfl)
 replace m9:=g.blk m9 ((sep.gF 3 2 1 rfl rfl rfl (by decide) (by decide)) _ rfl)
 replace m13:=g.blk m13 ((sep.gF 0 2 1 rfl rfl rfl (by decide) (by decide)) _ rfl)
 replace sep:=sep.set g.1 hlo 1 (y:=o16) rfl (ho'.imp id .inr) (fun k e=>hs'.lt.2 k e)
 replace sep:Sep h.size h17.size [some (h10.size),o16,b_s,some (h4.size),some (h1.size),some (h.size)]:=sep
 clear hs' ho' g hlo
 refine sT [] fun a hF=> ?_
 refine qS hF ?_
 refine tG 2 (write_n _ b_s o16 ([1]++x) y _ _ _ hs_s (hrow hy m6) hy (.inr (sep.bp 4 2)) (by have:=sep.low 2 rfl _ rfl;omega) (fun e=>sep.zero 1 rfl h0s e.symm) kt (by simp<;>omega)) ?_
 rintro _ h19 ⟨o18,hs',ho',g⟩
 have hlo:=e0.size
 replace e0:=Gr.toExt e0 g (sep.lowF 2 1 rfl rfl)
 replace kt:=kt.gr g (sep.zeroF 2 1 rfl rfl h0s)
 replace hs_s:StL h19 b_s o18 ([1]++x++y):=(by first|exact hs'|simpa using hs')
 replace m3:=g.blk m3 ((sep.gF 5 2 1 rfl rfl rfl (by decide) (by decide)) _ rfl)
 replace m6:=g.blk m6 ((sep.gF 4 2 1 rfl rfl rfl (by decide) (by decide)) _ rfl)
 replace m9:=g.blk m9 ((sep.gF 3 2 1 rfl rfl rfl (by decide) (by decide)) _ rfl)
 replace m13:=g.blk m13 ((sep.gF 0 2 1 rfl rfl rfl (by decide) (by decide)) _ rfl)
 replace sep:=sep.set g.1 hlo 1 (y:=o18) rfl (ho'.imp id .inr) (fun k e=>hs'.lt.2 k e)
 replace sep:Sep h.size h19.size [some (h10.size),o18,b_s,some (h4.size),some (h1.size),some (h.size)]:=sep
 clear hs' ho' g hlo
 refine sT [] fun a hF=> ?_
 refine qS hF ?_
 refine tG 1 (sum_l _ b_s o18 ([1]++x++y) hs_s kt (by simp<;>omega)) ?_
 rintro _ h21 ⟨rfl,g20⟩
 replace m9:=m9.x g20
 refine tF 2 (Does.store (b:=h4.size) (off:=0) (vs:=(sha ([1]++x++y)).map bv) (l:=z32.map bv) (storeOp_of (by kernel_rfl) (hlm rfl)) m9 (hfit rfl rfl) (ones_map _)) ?_
 rintro _ h22 ⟨rfl,hh⟩
 have g23:Grew (some (h4.size)) h21 h22:=hput_gr hh
 replace m9:h22[h4.size]? =some (.cells ((sha ([1]++x++y)).map bv).toArray 39):=hput_at (off:=0) (vs:=(sha ([1]++x++y)).map bv) (l:=(z32.map bv)) hh (hsplice rfl rfl) m9
 clear hh
 refine sT [] fun a hF=> ?_
 refine cR ?_
 refine ret_ok [.cell 4 39] [.agg ((sha ([1]++x++y)).map bv).toArray] (.agg ((sha ([1]++x++y)).map bv).toArray) rfl hF ⟨⟨_,rfl,Loads.hash (by kernel_rfl) rfl m9⟩,trivial⟩ rfl ?_
 replace e0:=(e0.ext g20).grew g23 (sep.l 3)
 exact⟨rfl,e0⟩
theorem rsum_n(h:Heap)(l:List UInt8)(n:Nat)(va:Option Addr)(vc:Nat)(hr:Row h (.slice va n vc) n 1 (l.map bv))(hl:l.length =n)(hn:l.length ≤1099511627776):Sat Tryz.prog 86 #[.slice va n vc] h fun v h'=>v=hv (sha l)∧Ext h h':=by
 subst hl;exact rsum_sat h l va vc hr hn
noncomputable def b89:Code:=Tryz.f89.body.getD .skip
theorem rleaf_sat(h:Heap)(l:List UInt8)(va:Option Addr)(vc:Nat)(hr:Row h (.slice va l.length vc) l.length 1 (l.map bv))(hn:l.length ≤1099511627000):Sat Tryz.prog 89 #[.slice va l.length vc] h fun v h'=>v=hv (leafH l)∧Ext h h':=by
 have e0:=Ext.refl h
 have sep:Sep h.size h.size []:=Sep.nil _ _
 refine sat_in Tryz.func89 7 fun a hF=> ?_
 refine qS hF ?_
 refine tN 0 (pV h.size) ((z32.map bv).toArray) 39 fun h1 g2 m3=> ?_
 replace sep:=sep.nw e0.size m3
 refine sT [(2,pV h.size)] fun a hF=> ?_
 refine qS hF ?_
 refine tN 0 (.slice (some ⟨h1.size,0,none⟩) 1 1) #[.int .u8 0] 5 fun h4 g5 m6=> ?_
 replace e0:=e0.ext g2
 replace sep:=sep.nw e0.size m6
 have own_t:Own h4 (.slice (some ⟨h1.size,0,none⟩) 1 1) 5 1 1 (([0]).map bv):=Own.blk m6 rfl (by unfold maxLen;decide)
 replace sep:Sep h.size h4.size [(some ⟨h1.size,0,none⟩:Option Addr).map (·.block),some (h.size)]:=sep
 replace e0:=e0.ext g5
 replace m3:=m3.x g5
 clear m6
 refine tP 2 (1+l.length) 1 (([0]++l).map bv) own_t (hr.ext e0) (ones_map _) (fun ad7 cap8 h9 own_t g10 hb11=> ?_)
 have s12:=sep
 replace sep:=sep.sa g10 0 hb11 own_t e0.size;clear hb11
 refine tG 3 (rsum_n _ ([0]++l) _ _ _ own_t.row (by simp<;>omega) (by simp<;>omega)) ?_
 rintro _ h14 ⟨rfl,g13⟩
 replace m3:=(m3.y g10 (s12.bp 1 0)).x g13
 refine tF 4 (Does.store (b:=h.size) (off:=0) (vs:=(sha ([0]++l)).map bv) (l:=z32.map bv) (storeOp_of (by kernel_rfl) (hlm rfl)) m3 (hfit rfl rfl) (ones_map _)) ?_
 rintro _ h15 ⟨rfl,hh⟩
 have g16:Grew (some (h.size)) h14 h15:=hput_gr hh
 replace m3:h15[h.size]? =some (.cells ((sha ([0]++l)).map bv).toArray 39):=hput_at (off:=0) (vs:=(sha ([0]++l)).map bv) (l:=(z32.map bv)) hh (hsplice rfl rfl) m3
 clear hh
 refine sT [] fun a hF=> ?_
 refine cR ?_
 refine ret_ok [.cell 2 39] [.agg ((sha ([0]++l)).map bv).toArray] (.agg ((sha ([0]++l)).map bv).toArray) rfl hF ⟨⟨_,rfl,Loads.hash (by kernel_rfl) rfl m3⟩,trivial⟩ rfl ?_
 replace e0:=((e0.grew g10 (s12.l 0)).ext g13).grew g16 (sep.l 1)
 exact⟨rfl,e0⟩
noncomputable def b88:Code:=Tryz.f88.body.getD .skip
theorem rnode_sat(h:Heap)(x y:Hs)(hx:x.length =32)(hy:y.length =32):Sat Tryz.prog 88 #[.agg (x.map bv).toArray,.agg (y.map bv).toArray] h fun v h'=>v=hv (nodeH x y)∧Ext h h':=by
 have e0:=Ext.refl h
 have sep:Sep h.size h.size []:=Sep.nil _ _
 refine sat_in Tryz.func88 13 fun a hF=> ?_
 refine qS hF ?_
 refine tN 0 (pV h.size) ((x.map bv).toArray) 39 fun h1 g2 m3=> ?_
 replace sep:=sep.nw e0.size m3
 refine tN 1 (pV h1.size) ((y.map bv).toArray) 39 fun h4 g5 m6=> ?_
 replace e0:=e0.ext g2
 replace sep:=sep.nw e0.size m6
 refine tN 2 (pV h4.size) ((z32.map bv).toArray) 39 fun h7 g8 m9=> ?_
 replace e0:=e0.ext g5
 replace sep:=sep.nw e0.size m9
 refine sT [(2,pV h.size),(3,pV h1.size),(4,pV h4.size)] fun a hF=> ?_
 refine qS hF ?_
 refine tN 0 (.slice (some ⟨h7.size,0,none⟩) 1 1) #[.int .u8 1] 5 fun h10 g11 m12=> ?_
 replace e0:=e0.ext g8
 replace sep:=sep.nw e0.size m12
 have own_t:Own h10 (.slice (some ⟨h7.size,0,none⟩) 1 1) 5 1 1 (([1]).map bv):=Own.blk m12 rfl (by unfold maxLen;decide)
 replace sep:Sep h.size h10.size [(some ⟨h7.size,0,none⟩:Option Addr).map (·.block),some (h4.size),some (h1.size),some (h.size)]:=sep
 replace m3:=((m3.x g5).x g8).x g11
 replace m6:=(m6.x g8).x g11
 replace e0:=e0.ext g11
 replace m9:=m9.x g11
 clear m12
 refine tP 2 33 1 (([1]++x).map bv) own_t (hrow hx m3) (ones_map _) (fun ad13 cap14 h15 own_t g16 hb17=> ?_)
 have s18:=sep
 replace sep:=sep.sa g16 0 hb17 own_t e0.size;clear hb17
 refine sT [(5,.slice ad13 33 cap14)] fun a hF=> ?_
 refine qS hF ?_
 replace m6:=m6.y g16 (s18.bp 2 0)
 refine tP 2 65 1 (([1]++x++y).map bv) own_t (hrow hy m6) (ones_map _) (fun ad19 cap20 h21 own_t g22 hb23=> ?_)
 replace e0:=e0.grew g16 (s18.l 0)
 have s24:=sep
 replace sep:=sep.sa g22 0 hb23 own_t e0.size;clear hb23
 refine tG 3 (rsum_n _ ([1]++x++y) _ _ _ own_t.row (by simp<;>omega) (by simp<;>omega)) ?_
 rintro _ h26 ⟨rfl,g25⟩
 replace m9:=((m9.y g16 (s18.bp 1 0)).y g22 (s24.bp 1 0)).x g25
 refine tF 4 (Does.store (b:=h4.size) (off:=0) (vs:=(sha ([1]++x++y)).map bv) (l:=z32.map bv) (storeOp_of (by kernel_rfl) (hlm rfl)) m9 (hfit rfl rfl) (ones_map _)) ?_
 rintro _ h27 ⟨rfl,hh⟩
 have g28:Grew (some (h4.size)) h26 h27:=hput_gr hh
 replace m9:h27[h4.size]? =some (.cells ((sha ([1]++x++y)).map bv).toArray 39):=hput_at (off:=0) (vs:=(sha ([1]++x++y)).map bv) (l:=(z32.map bv)) hh (hsplice rfl rfl) m9
 clear hh
 refine sT [] fun a hF=> ?_
 refine cR ?_
 refine ret_ok [.cell 4 39] [.agg ((sha ([1]++x++y)).map bv).toArray] (.agg ((sha ([1]++x++y)).map bv).toArray) rfl hF ⟨⟨_,rfl,Loads.hash (by kernel_rfl) rfl m9⟩,trivial⟩ rfl ?_
 replace e0:=((e0.grew g22 (s24.l 0)).ext g25).grew g28 (sep.l 1)
 exact⟨rfl,e0⟩
end Go.Proofs.YtegkejcglfgpmaaGreatDoor
end
section
namespace Go.Proofs.YtegkejcglfgpmaaGreatDoor
open Go Go.Lane Go.Sha
noncomputable def b75:Code:=Tryz.f75.body.getD .skip
theorem newgrow_sat(h:Heap):Sat Tryz.prog 75 #[] h fun v h'=>∃b,v= .pointer (some ⟨b,0,none⟩)∧GrowA h' b none 0 []∧h.size ≤b∧Ext h h':=by
 have e0:=Ext.refl h
 have sep:Sep h.size h.size []:=Sep.nil _ _
 refine sat_in Tryz.func75 3 fun a hF=> ?_
 refine qP [] hF fun a hF=> ?_
 refine qS hF ?_
 refine tN 1 (pV h.size) #[.int .i64 0,.slice none 0 0] 166 fun h1 g2 m3=> ?_
 replace sep:=sep.nw e0.size m3
 refine sT [(0,pV h.size)] fun a hF=> ?_
 refine cR ?_
 refine rT 0 (pV h.size) hF ?_
 replace e0:=e0.ext g2
 exact⟨_,rfl,⟨none,0,rfl,by simp,m3,Own.nil _ _ _,All32.nil⟩,by omega,e0⟩
noncomputable def b77:Code:=Tryz.f77.body.getD .skip
theorem growroot_sat(h:Heap)(b:Nat)(o:Option Nat)(n:Nat)(ps:List Hs)(g:GrowA h b o n ps)(hz0:n=0→ps=[])(hz1:0<n→0<ps.length)(kt:Ktab h)(hn:n≤1099511627776)(hpl0:ps.length ≤1099511627776):Sat Tryz.prog 77 #[.pointer (some ⟨b,0,none⟩)] h fun v h'=>v=hv (growR ps)∧Ext h h':=by
 obtain⟨ad,cap,ho,hob,hm,own_p,h32⟩:=g
 have hb:b<h.size :=blk_lt hm
 have hpo:∀k,ad.map (·.block)=some k→k<h.size :=fun k e=>own_p.lt (by rw[blkOf_slice];exact e)
 have hpl:ps.length ≤1099511627776:=hpl0
 have e0:=Ext.refl h
 have h0s:=kt.lt
 have sep:Sep h.size h.size []:=Sep.nil _ _
 refine sat_in Tryz.func77 43 fun a hF=> ?_
 refine qS hF ?_
 refine tN 0 (pV h.size) ((z32.map bv).toArray) 39 fun h1 g2 m3=> ?_
 have lt4:=blk_lt m3
 have zs5:=e0.size
 replace sep:=sep.nw e0.size m3
 refine sT [(2,pV h.size)] fun a hF=> ?_
 refine cS ?_
 refine qS hF ?_
 replace hm:=hm.x g2
 refine tO 3 0 hm ?_
 refine sT [(9,.bool (decide (((n:Nat):Int)=(0:Int))))] fun a hF=> ?_
 refine cJ 9 hF (fun hc6=> ?_) fun hc6=> ?_
 ·skip
  have hps:=hz0 (by omega)
  refine qS hF ?_
  replace kt:=kt.ext g2
  refine tG 0 (sha_sat _ [] none 0 (Row.bnil _) (.inl rfl) kt (by decide)) ?_
  rintro _ h8 ⟨rfl,g7⟩
  replace m3:=m3.x g7
  refine tF 1 (Does.store (b:=h.size) (off:=0) (vs:=(sha []).map bv) (l:=z32.map bv) (storeOp_of (by kernel_rfl) (hlm rfl)) m3 (hfit rfl rfl) (ones_map _)) ?_
  rintro _ h9 ⟨rfl,hh⟩
  have g10:Grew (some (h.size)) h8 h9:=hput_gr hh
  replace m3:h9[h.size]? =some (.cells ((sha []).map bv).toArray 39):=hput_at (off:=0) (vs:=(sha []).map bv) (l:=(z32.map bv)) hh (hsplice rfl rfl) m3
  clear hh
  replace hm:=hm.x g7
  replace hm:=hm.y g10
  refine sT [] fun a hF=> ?_
  refine cR (yT ?_)
  refine ret_ok [.cell 2 39] [.agg ((sha []).map bv).toArray] (.agg ((sha []).map bv).toArray) rfl hF ⟨⟨_,rfl,Loads.hash (by kernel_rfl) rfl m3⟩,trivial⟩ rfl ?_
  replace e0:=((e0.ext g2).ext g7).grew g10 (sep.l 0)
  exact⟨(by subst hps;rfl),e0⟩
 ·skip
  have hps:=hz1 (by omega)
  replace own_p:=own_p.ext g2
  obtain⟨aa,rfl,hcap⟩:=own_p.someA hps
  have hp:=HR.of own_p h32
  refine cN ?_
  refine tK ?_
  refine cS ?_
  refine cD [0,1,3,7,0,16,48,112,240,496,1023,2047,0,8191] 3 mixed hF ?_
  refine mP 7 [0,1,2] [pV b,pV b,.pointer (some ⟨b,1,none⟩)] ?_
  refine mO 15 8 3 1 (.slice (some aa) ps.length cap) hm ?_
  refine mP 127 [4,5,6] [pV b,pV b,.pointer (some ⟨b,1,none⟩)] ?_
  refine mO 255 136 7 1 (.slice (some aa) ps.length cap) hm ?_
  refine mP 511 [8] [nV ps.length] ?_
  refine mU 1023 9 ps.length 1 ?_
  refine mI 2047 10 aa ps.length 32 (ps.length - 1) ((ps.length - 1)*32) ?_
  refine mH 4095 2184 11 (ps.length - 1) (HR.of own_p h32) ?_
  refine mFp 8191 4096 12 [3,7,11] (Does.new (v:= .pointer (some ⟨h1.size,0,none⟩)) (o:= .cells (z32.map bv).toArray 39) (by kernel_rfl)) ?_
  rintro _ h11 ⟨rfl,hh⟩
  have g12:Ext h1 h11:=push_ext hh
  have m13:h11[h1.size]? =some (.cells (z32.map bv).toArray 39):=push_at hh
  clear hh
  have lt14:=blk_lt m13
  replace e0:=e0.ext g2
  have zs15:=e0.size
  replace sep:=sep.nw e0.size m13
  replace own_p:=own_p.ext g12
  replace hm:=hm.x g12
  refine⟨?_,?_⟩
  ·intro j hj
   simp only[List.mem_cons,List.not_mem_nil,or_false] at hj
   rcases hj with rfl|rfl|rfl
   ·exact goodOf (Calm.load (T:=45) (p:=⟨b,1,none⟩) (by kernel_rfl) (Loads.one (k:=1) (by kernel_rfl) ((hcell_blk hm).trans rfl)))
   ·exact goodOf (Calm.load (T:=45) (p:=⟨b,1,none⟩) (by kernel_rfl) (Loads.one (k:=1) (by kernel_rfl) ((hcell_blk hm).trans rfl)))
   ·exact goodOf (Calm.load (T:=39) (p:=(Addr.add aa ((ps.length - 1)*32))) (by kernel_rfl) (HR.loads (k:=(ps.length - 1)) (q:=(ps.length - 1)*32) (HR.of own_p h32) (by kernel_rfl) (by omega) (by omega)))
  refine mF0 16383 16383 13 (Does.store (b:=h1.size) (off:=0) (vs:=(ps.getD (ps.length - 1) []).map bv) (l:=z32.map bv) (storeOp_of (by kernel_rfl) (hlm (hp.2.1.get (k:=(ps.length - 1)) (by rw[hp.2.2];omega)))) m13 (hfit rfl (hp.2.1.get (k:=(ps.length - 1)) (by rw[hp.2.2];omega))) (ones_map _)) ?_
  rintro _ h16 ⟨rfl,hh⟩
  have g17:Grew (some (h1.size)) h11 h16:=hput_gr hh
  replace m13:h16[h1.size]? =some (.cells ((ps.getD (ps.length - 1) []).map bv).toArray 39):=hput_at (off:=0) (vs:=(ps.getD (ps.length - 1) []).map bv) (l:=(z32.map bv)) hh (hsplice rfl (hp.2.1.get (k:=(ps.length - 1)) (by rw[hp.2.2];omega))) m13
  clear hh
  replace hm:=hm.y g17
  refine mE [(3,pV h1.size)] fun a hF=> ?_
  refine tK ?_
  refine cS ?_
  refine qS hF ?_
  refine tO 3 1 hm ?_
  refine t1 5 (.int .i64 (((ps.length :Nat):Int) - 2)) (.int .i64 (IntKind.i64.wrap (((ps.length :Nat):Int) - 2))) (congrArg (Value.int .i64) (w64 (by omega) (by omega))) ?_
  refine sT [(4,.int .i64 (((ps.length :Nat):Int) - 2))] fun a hF=> ?_
  refine cB 0 ?_
  have hstart:((ps.length :Nat):Int) - 2=((ps.length - 1:Nat):Int) - 1:=by omega
  rw[hstart] at hF
  have hbeg:ps.getD (ps.length - 1) []=foldP (ps.dropLast.drop (ps.length - 1)) (ps.getD (ps.length - 1) []):=by rw[List.drop_of_length_le (by rw[List.length_dropLast];omega)];rfl
  rw[hbeg] at m13
  replace kt:=((kt.ext g2).ext g12).grew g17 (sep.zero 0 rfl h0s)
  replace e0:=(e0.ext g12).grew g17 (sep.l 0)
  replace m3:=(m3.x g12).y g17 (sep.bp 1 0)
  replace own_p:=own_p.kept g17 (by rw[blkOf_slice];right;intro e;have:=hpo _ e;omega)
  replace sep:=sep.up g17.size
  refine cL (fun m a h'=>∃j:Nat,m=j+1∧(Ext h h')∧(Ktab h')∧(h'[b]? =some (.cells #[.int .i64 ((n:Nat):Int),.slice (some aa) ps.length cap] 166))∧(h'[h.size]? =some (.cells (z32.map bv).toArray 39))∧(j≤ps.length - 1)∧(Own h' (.slice (some aa) ps.length cap) 39 ps.length 32 (hcs ps))∧(Sep h.size h'.size [some (h1.size),some (h.size)])∧(h'[h1.size]? =some (.cells ((foldP (ps.dropLast.drop j) (ps.getD (ps.length - 1) [])).map bv).toArray 39))∧(Fr a 43 [(0,.pointer (some ⟨b,0,none⟩)),(2,.pointer (some ⟨h.size,0,none⟩)),(3,.pointer (some ⟨h1.size,0,none⟩)),(4,.int .i64 (((j:Nat):Int) - 1))])) (ps.length - 1+1) ⟨(ps.length - 1),rfl,e0,kt,hm,m3,(Nat.le_refl _),own_p,sep,m13,hF.to⟩ ?_
  clear hF a
  clear e0
  clear kt
  clear hm
  clear m3
  clear own_p
  clear sep
  clear m13
  rintro m a h18 ⟨j,rfl,e0,kt,hm,m3,hj,own_p,sep,m13,hF⟩
  refine cS ?_
  refine qP [(30,.bool (decide ((0:Int)≤(((j:Nat):Int) - 1))))] hF fun a hF=> ?_
  refine cJ 30 hF (fun hc19=> ?_) fun hc19=> ?_
  ·skip
   obtain⟨j',rfl⟩:∃x,j=x+1:=⟨j - 1,by omega⟩
   have hj2:(((j'+1:Nat):Int) - 1)=((j':Nat):Int):=by omega
   rw[hj2] at hF
   refine cN ?_
   refine tK ?_
   refine cS ?_
   refine cB 1 ?_
   refine cD [0,1,3,7,0,31,63,0,255,511] 7 mixed hF ?_
   refine mP 7 [0,1,2] [pV b,pV b,.pointer (some ⟨b,1,none⟩)] ?_
   refine mO 15 8 3 1 (.slice (some aa) ps.length cap) hm ?_
   refine mP 31 [4] [nV (j')] ?_
   refine mI 63 5 aa ps.length 32 j' (j'*32) ?_
   refine mH 127 72 6 j' (HR.of own_p h32) ?_
   refine mL 255 200 7 (.agg ((foldP (ps.dropLast.drop (j'+1)) (ps.getD (ps.length - 1) [])).map bv).toArray) (Calm.load (T:=39) (p:=⟨h1.size,0,none⟩) (by kernel_rfl) (Loads.hash (by kernel_rfl) (foldP_len (h32.get (by omega))) m13)) ?_
   refine mG0 511 511 8 (node_sat _ (ps.getD j' []) (foldP (ps.dropLast.drop (j'+1)) (ps.getD (ps.length - 1) [])) (hp.2.1.get (k:=j') (by rw[hp.2.2];omega)) (foldP_len (h32.get (by omega))) kt) ?_
   rintro _ h21 ⟨rfl,g20⟩
   replace m13:=m13.x g20
   refine mF0 1023 1023 9 (Does.store (b:=h1.size) (off:=0) (vs:=(nodeH (ps.getD j' []) (foldP (ps.dropLast.drop (j'+1)) (ps.getD (ps.length - 1) []))).map bv) (l:=(foldP (ps.dropLast.drop (j'+1)) (ps.getD (ps.length - 1) [])).map bv) (storeOp_of (by kernel_rfl) (hlm (node_len _ _))) m13 (hfit (foldP_len (h32.get (by omega))) (node_len _ _)) (ones_map _)) ?_
   rintro _ h22 ⟨rfl,hh⟩
   have g23:Grew (some (h1.size)) h21 h22:=hput_gr hh
   replace m13:h22[h1.size]? =some (.cells ((nodeH (ps.getD j' []) (foldP (ps.dropLast.drop (j'+1)) (ps.getD (ps.length - 1) []))).map bv).toArray 39):=hput_at (off:=0) (vs:=(nodeH (ps.getD j' []) (foldP (ps.dropLast.drop (j'+1)) (ps.getD (ps.length - 1) []))).map bv) (l:=((foldP (ps.dropLast.drop (j'+1)) (ps.getD (ps.length - 1) [])).map bv)) hh (hsplice (foldP_len (h32.get (by omega))) (node_len _ _)) m13
   clear hh
   replace hm:=hm.x g20
   replace hm:=hm.y g23
   refine mE [] fun a hF=> ?_
   refine bK ?_
   refine tK ?_
   refine rS hF ?_
   refine t1 1 (.int .i64 (((j':Nat):Int) - 1)) (.int .i64 (IntKind.i64.wrap (((j':Nat):Int) - 1))) (congrArg (Value.int .i64) (w64 (by omega) (by omega))) ?_
   refine sE [(4,.int .i64 (((j':Nat):Int) - 1))] fun a hF=> ?_
   rw[foldP_step (by omega)] at m13
   show ∃m',m'<_∧_
   replace e0:=(e0.ext g20).grew g23 (sep.l 0)
   replace kt:=(kt.ext g20).grew g23 (sep.zero 0 rfl h0s)
   replace own_p:=(own_p.ext g20).kept g23 (by rw[blkOf_slice];right;intro e;have:=hpo _ e;omega)
   replace m3:=(m3.x g20).y g23 (sep.bp 1 0)
   replace sep:=(sep.up g20.size).up g23.size
   refine⟨_,?_,j',rfl,e0,kt,hm,m3,(by omega),own_p,sep,m13,hF.to⟩
   omega
  ·skip
   obtain rfl:j=0:=by omega
   rw[growR_eq hps] at m13
   have hgl:(growR ps).length =32:=by rw[←growR_eq hps];exact foldP_len (h32.get (by omega))
   refine cX 0 (xT (xT (xB ?_)))
   refine tK ?_
   refine qS hF ?_
   refine tC 0 (.agg ((growR ps).map bv).toArray) (Calm.load (T:=39) (p:=⟨h1.size,0,none⟩) (by kernel_rfl) (Loads.hash (by kernel_rfl) hgl m13)) ?_
   refine tF 1 (Does.store (b:=h.size) (off:=0) (vs:=(growR ps).map bv) (l:=z32.map bv) (storeOp_of (by kernel_rfl) (hlm hgl)) m3 (hfit rfl hgl) (ones_map _)) ?_
   rintro _ h24 ⟨rfl,hh⟩
   have g25:Grew (some (h.size)) h18 h24:=hput_gr hh
   replace m3:h24[h.size]? =some (.cells ((growR ps).map bv).toArray 39):=hput_at (off:=0) (vs:=(growR ps).map bv) (l:=(z32.map bv)) hh (hsplice rfl hgl) m3
   clear hh
   replace hm:=hm.y g25
   refine sT [] fun a hF=> ?_
   refine cR ?_
   refine ret_ok [.cell 2 39] [.agg ((growR ps).map bv).toArray] (.agg ((growR ps).map bv).toArray) rfl hF ⟨⟨_,rfl,Loads.hash (by kernel_rfl) hgl m3⟩,trivial⟩ rfl ?_
   replace e0:=e0.grew g25 (sep.l 1)
   exact⟨rfl,e0⟩
end Go.Proofs.YtegkejcglfgpmaaGreatDoor
end
section
namespace Go.Proofs.YtegkejcglfgpmaaGreatDoor
open Go Go.Lane Go.Sha
noncomputable def b76:Code:=Tryz.f76.body.getD .skip
set_option maxHeartbeats 1000000 in
theorem growadd_sat(h:Heap)(b:Nat)(o:Option Nat)(n:Nat)(ps:List Hs)(g:GrowA h b o n ps)(x:Hs)(hx:x.length =32)(hfor0:∃s l,Forest n s ps l)(kt:Ktab h)(hb0:0<b)(ho0:∀k,o=some k→0<k)(hn:n≤1099511627776)(hpl0:ps.length ≤1099511627776):Sat Tryz.prog 76 #[.pointer (some ⟨b,0,none⟩),.agg (x.map bv).toArray] h fun _ h'=>∃o',GrowA h' b o' (n+1) (addP n ps x)∧(o'=o∨∃g,o'=some g∧h.size ≤g)∧Gr (fun k=>k=b∨some k=o) h h':=by
 have h0s:0<1:=by decide
 obtain⟨ad,cap,ho,hob,hm,own_p,h32⟩:=g
 have hb:b<h.size :=blk_lt hm
 have hop_p:ad.map (fun(x:Addr)=>x.block)=o∨∃g,ad.map (fun(x:Addr)=>x.block)=some g∧h.size ≤g:= .inl ho.symm
 have hpo:∀k,ad.map (·.block)=some k→1≤k∧k<h.size :=fun k e=>⟨ho0 k (by rw[ho,e]),own_p.lt (by rw[blkOf_slice];exact e)⟩
 have sep:Sep 1 h.size [ad.map (·.block),some b]:=Sep.two (ho▸hob) hb0 hb hpo
 have g0:=Gr.refl (fun k=>k=b∨some k=o) h
 refine sat_in Tryz.func76 56 fun a hF=> ?_
 refine qS hF ?_
 refine tN 0 (pV h.size) ((x.map bv).toArray) 39 fun h1 g2 m3=> ?_
 replace sep:=sep.nw kt.lt m3
 refine sT [(3,pV h.size)] fun a hF=> ?_
 refine cS ?_
 refine qS hF ?_
 replace hm:=hm.x g2
 refine tO 3 0 hm ?_
 refine sT [(4,nV n)] fun a hF=> ?_
 refine cB 0 ?_
 replace g0:=g0.ext g2
 replace kt:=kt.ext g2
 replace own_p:=own_p.ext g2
 refine cL (fun m a h'=>∃nn:Nat,∃ps':List Hs,∃x':Hs,m=nn+1∧(Gr (fun k=>k=b∨some k=o) h h')∧(Ktab h')∧(addP nn ps' x'=addP n ps x)∧(∃s l,Forest nn s ps' l)∧(nn≤n)∧(x'.length =32)∧(All32 ps')∧(ps'.length ≤1099511627776)∧(h'[b]? =some (.cells #[.int .i64 ((n:Nat):Int),.slice ad ps'.length cap] 166))∧(Own h' (.slice ad ps'.length cap) 39 ps'.length 32 (hcs ps'))∧(Sep 1 h'.size [some (h.size),ad.map (·.block),some b])∧(h'[h.size]? =some (.cells (x'.map bv).toArray 39))∧(Fr a 56 [(0,.pointer (some ⟨b,0,none⟩)),(3,.pointer (some ⟨h.size,0,none⟩)),(4,.int .i64 ((nn:Nat):Int))])) (n+1) ⟨n,ps,x,rfl,g0,kt,rfl,hfor0,(Nat.le_refl _),hx,h32,hpl0,hm,own_p,sep,m3,hF.to⟩ ?_
 clear hF a
 clear g0
 clear kt
 clear hfor0
 clear hx
 clear h32
 clear hpl0
 clear hm
 clear own_p
 clear sep
 clear m3
 rintro m a h4 ⟨nn,ps',x',rfl,g0,kt,hadd,hfor,hnn,hx',h32',hpl,hm,own_p,sep,m3,hF⟩
 refine cS ?_
 refine qS hF ?_
 refine t1 1 (.int .i64 ((nn%2:Nat):Int)) (.int .i64 (IntKind.i64.wrap ((BitVec.ofInt 64 ((nn:Nat):Int)&&&BitVec.ofInt 64 1).toNat :Int))) (and1 (by omega)) ?_
 refine sT [(12,.bool (decide (((nn%2:Nat):Int)=(1:Int))))] fun a hF=> ?_
 refine cJ 12 hF (fun hc5=> ?_) fun hc5=> ?_
 ·skip
  have hodd:nn%2=1:=by omega
  obtain⟨s',l',f⟩:=hfor
  obtain⟨ps0,c0,l0,eps,_,_,f2⟩:=f.inv_odd hodd
  have hfor2:∃s l,Forest (nn/2^1) s ps'.dropLast l:=⟨_,_,by rw[show ps'.dropLast =ps0 by rw[eps];simp];exact f2⟩
  have hpp:0<ps'.length :=by rw[eps];simp
  clear f f2 eps
  obtain⟨aa,rfl,hcap⟩:=own_p.someA hpp
  have hp':=HR.of own_p h32'
  refine cN ?_
  refine tK ?_
  refine cS ?_
  refine cB 1 ?_
  refine qS hF ?_
  refine tO 3 1 hm ?_
  refine tU 5 ps'.length 1 ?_
  refine sT [(5,nV (ps'.length - 1))] fun a hF=> ?_
  refine cS ?_
  refine cD [0,1,3,7,0,31,63,0,255,511] 5 mixed hF ?_
  refine mP 7 [0,1,2] [pV b,pV b,.pointer (some ⟨b,1,none⟩)] ?_
  refine mO 15 8 3 1 (.slice (some aa) ps'.length cap) hm ?_
  refine mP 31 [4] [nV (ps'.length - 1)] ?_
  refine mI 63 5 aa ps'.length 32 (ps'.length - 1) ((ps'.length - 1)*32) ?_
  refine mH 127 72 6 (ps'.length - 1) (HR.of own_p h32') ?_
  refine mL 255 200 7 (.agg (x'.map bv).toArray) (Calm.load (T:=39) (p:=⟨h.size,0,none⟩) (by kernel_rfl) (Loads.hash (by kernel_rfl) hx' m3)) ?_
  refine mG0 511 511 8 (node_sat _ (ps'.getD (ps'.length - 1) []) x' (hp'.2.1.get (k:=(ps'.length - 1)) (by rw[hp'.2.2];omega)) hx' kt) ?_
  rintro _ h7 ⟨rfl,g6⟩
  replace m3:=m3.x g6
  refine mF0 1023 1023 9 (Does.store (b:=h.size) (off:=0) (vs:=(nodeH (ps'.getD (ps'.length - 1) []) x').map bv) (l:=x'.map bv) (storeOp_of (by kernel_rfl) (hlm (node_len _ _))) m3 (hfit hx' (node_len _ _)) (ones_map _)) ?_
  rintro _ h8 ⟨rfl,hh⟩
  have g9:Grew (some (h.size)) h7 h8:=hput_gr hh
  replace m3:h8[h.size]? =some (.cells ((nodeH (ps'.getD (ps'.length - 1) []) x').map bv).toArray 39):=hput_at (off:=0) (vs:=(nodeH (ps'.getD (ps'.length - 1) []) x').map bv) (l:=(x'.map bv)) hh (hsplice hx' (node_len _ _)) m3
  clear hh
  refine mE [] fun a hF=> ?_
  refine tK ?_
  refine rS hF ?_
  replace hm:=(hm.x g6).y g9 (sep.bp 2 0)
  refine tO 4 1 hm ?_
  refine tC 6 (.slice (some aa) (ps'.length - 1) cap) ((fun h=>Calm.sliceO (a:=(some aa)) (len:=ps'.length) (cap:=cap) (sz:=32) (x:=(some aa)) 0 (ps'.length - 1) cap (ps'.length - 1) cap (by kernel_rfl) (.inl ⟨rfl,rfl⟩) (.inr rfl) (.inl ⟨rfl,rfl⟩) (by omega) (by omega) (opt_add0 _ 32) (by first|rfl|omega) (by first|rfl|omega) h) _) ?_
  refine tV 9 1 [.slice (some aa) (ps'.length - 1) cap] [nV n,.slice (some aa) (ps'.length - 1) cap] hm fun h10 g11 zq=> ?_
  replace hm:=zq
  refine sE [] fun a hF=> ?_
  refine bK ?_
  refine tK ?_
  refine rS hF ?_
  refine t1 1 (.int .i64 ((nn/2^1:Nat):Int)) (.int .i64 (Int.fdiv ((nn:Nat):Int) (2^1))) (congrArg (Value.int .i64) (fdivN (nn) 1)) ?_
  refine sE [(4,nV (nn/2^1))] fun a hF=> ?_
  replace own_p:=((own_p.ext g6).k g9 (sep.ap 1 0)).k g11 (sep.ap 1 2)
  replace own_p:=own_p.take (k:=ps'.length - 1) (by omega)
  rw[hcs_dropLast h32'] at own_p
  have hdl:ps'.length - 1=ps'.dropLast.length :=by simp
  rw[hdl] at own_p hm
  show ∃m',m'<_∧_
  replace g0:=((g0.ext g6).grew g9 (fun i e=> .inr (by cases e;omega))).grew g11 (fun i e=> .inl (.inl (by cases e;rfl)))
  replace kt:=((kt.ext g6).grew g9 (sep.zero 0 rfl h0s)).grew g11 (sep.zero 2 rfl h0s)
  replace sep:=((sep.up g6.size).up g9.size).up g11.size
  replace m3:=m3.y g11 (sep.bp 0 2)
  refine⟨_,?_,(nn/2^1),ps'.dropLast,(nodeH (ps'.getD (ps'.length - 1) []) x'),rfl,g0,kt,((addP_odd hodd).symm.trans hadd),hfor2,(by omega),(node_len _ _),h32'.dropLast,(by rw[List.length_dropLast];omega),hm,own_p,sep,m3,hF.to⟩
  omega
 ·skip
  refine cX 0 (xT (xT (xB ?_)))
  refine tK ?_
  refine cS ?_
  refine cD [0,0,2,6,14,0,32,126,255,511,1023] 7 mixed hF ?_
  refine mP 15 [0,1,2,3] [pV b,pV b,pV b,.pointer (some ⟨b,1,none⟩)] ?_
  refine mO 31 16 4 1 (.slice ad ps'.length cap) hm ?_
  refine mL 63 48 5 (.agg (x'.map bv).toArray) (Calm.load (T:=39) (p:=⟨h.size,0,none⟩) (by kernel_rfl) (Loads.hash (by kernel_rfl) hx' m3)) ?_
  refine mFp 127 96 6 [4] (Does.newHs (L:=[x']) (t:=45) (E:=39) (by_:=32) (n:=1) (by kernel_rfl) (by kernel_rfl) (All32.cons hx' All32.nil) rfl (by decide) (by decide)) ?_
  rintro _ h12 ⟨rfl,hh⟩
  have g13:Ext h4 h12:=push_ext hh
  have m14:h12[h4.size]? =some (.cells (hcs [x']).toArray 39):=push_at hh
  clear hh
  have hlo:=kt.lt
  have sepo:=sep
  replace sep:=sep.up g13.size
  replace sep:=sepo.new hlo (blk_lt m14)
  clear sepo hlo
  replace hm:=hm.x g13
  refine⟨?_,?_⟩
  ·intro j hj
   simp only[List.mem_cons,List.not_mem_nil,or_false] at hj
   subst hj
   exact goodOf (Calm.load (T:=45) (p:=⟨b,1,none⟩) (by kernel_rfl) (Loads.one (k:=1) (by kernel_rfl) ((hcell_blk hm).trans rfl)))
  replace own_p:=own_p.ext g13
  refine mP0 255 254 7 ((ps'++[x']).length) 32 (hcs (ps'++[x'])) own_p (hrow1 hx' m14) (ones_hcs _) (fun ad15 cap16 h17 own_p g18 hb19=> ?_) (ys:=(hcs ([x']))) (hZ:=by first|rfl|exact(hcs_append _ _).symm |simp[hcs_append])
  replace g0:=g0.ext g13
  have hop_n:=grown hop_p hb19 g0.1
  replace kt:=kt.ext g13
  replace g0:=g0.grew g18 (alw hop_p)
  have s20:=sep
  replace sep:=sep.sa g18 2 hb19 own_p kt.lt;clear hb19
  replace hop_p:=hop_n;clear hop_n
  clear m14
  replace m3:=(m3.x g13).y g18 (s20.bp 1 2)
  replace kt:=kt.grew g18 (s20.zero 2 rfl h0s)
  replace hm:=hm.y g18 (s20.bp 3 2)
  replace sep:=sep.sub (l':=[some (h.size),ad15.map (·.block),some b]) (.cons _ (.cons_cons _ (.cons_cons _ (.cons_cons _ (.slnil)))))
  refine mP 1023 [8,9] [pV b,.pointer (some ⟨b,1,none⟩)] ?_
  refine mV 2047 2047 10 1 [.slice ad15 ((ps'++[x']).length) cap16] [nV n,.slice ad15 ((ps'++[x']).length) cap16] hm fun h21 g22 zq=> ?_
  replace hm:=zq
  refine mE [] fun a hF=> ?_
  refine tK ?_
  refine rS hF ?_
  refine tO 3 0 hm ?_
  refine tA 4 n 1 ?_
  refine tV 7 0 [nV (n+1)] [nV (n+1),.slice ad15 ((ps'++[x']).length) cap16] hm fun h23 g24 zq=> ?_
  replace hm:=zq
  refine sE [] fun a hF=> ?_
  refine n0 hF ?_
  have hfin:ps'++[x']=addP n ps x:=(addP_even (by omega)).symm.trans hadd
  have hcl:ps'.length +1=(ps'++[x']).length :=by simp
  replace own_p:=(own_p.k g22 (sep.ap 1 2)).k g24 (sep.ap 1 2)
  rw[hfin] at hm own_p
  replace g0:=(g0.grew g22 (fun i e=> .inl (.inl (by cases e;rfl)))).grew g24 (fun i e=> .inl (.inl (by cases e;rfl)))
  exact⟨ad15.map (·.block),⟨ad15,cap16,rfl,Ne.symm (sep.bp 2 1),hm,own_p,hfin▸h32'.append (All32.one hx')⟩,hop_p,g0⟩
end Go.Proofs.YtegkejcglfgpmaaGreatDoor
end
section
namespace Go.Proofs.YtegkejcglfgpmaaGreatDoor
open Go Go.Lane Go.Sha
theorem newgrow_l(h:Heap):Sat Tryz.prog 75 #[] h fun v h'=>∃b,v= .pointer (some ⟨b,0,none⟩)∧GrowL h' b none []∧h.size ≤b∧Ext h h':=
 (newgrow_sat h).mono fun _ _ ⟨b,e,g,r⟩=>⟨b,e,⟨[],g,Forest.zero 0⟩,r⟩
theorem groot_l(h:Heap)(b:Nat)(o:Option Nat)(L:List Hs)(g:GrowL h b o L)(kt:Ktab h)(hn:L.length ≤1099511627000):Sat Tryz.prog 77 #[.pointer (some ⟨b,0,none⟩)] h fun v h'=>v=hv (root L)∧Ext h h':=by
 obtain⟨ps,g,f⟩:=g
 have hp:=f.parts_le
 exact(growroot_sat h b o _ ps g (fun e=>(f.root.1 e).1) (fun e=>List.length_pos_iff.2 (f.root.2 e).1) kt (by omega) (by omega)).mono fun _ _ ⟨e,x⟩=>⟨by rw[←f.growR];exact e,x⟩
theorem add_l(h:Heap)(b:Nat)(o:Option Nat)(L:List Hs)(g:GrowL h b o L)(x:Hs)(hx:x.length =32)(kt:Ktab h)(hb0:0<b)(ho0:∀k,o=some k→0<k)(hn:L.length ≤1099511627000):
  Sat Tryz.prog 76 #[.pointer (some ⟨b,0,none⟩),.agg (x.map bv).toArray] h fun _ h'=>∃o',GrowL h' b o' (L++[x])∧(o'=o∨∃g,o'=some g∧h.size ≤g)∧Gr (fun k=>k=b∨some k=o) h h':=by
 obtain⟨ps,g,f⟩:=g
 have hp:=f.parts_le
 refine(growadd_sat h b o _ ps g x hx ⟨_,_,f⟩ kt hb0 ho0 (by omega) (by omega)).mono fun _ _ ⟨o',s,e,r⟩=>⟨o',⟨addP L.length ps x,?_,?_⟩,e,r⟩
 ·rw[List.length_append,List.length_singleton];exact s
 ·rw[List.length_append,List.length_singleton];exact f.add (by simp) rfl
noncomputable def b36:Code:=Tryz.f36.body.getD .skip
theorem troot_sat(h:Heap)(L:List Hs)(va:Option Addr)(vc n:Nat)(hL:HR h va vc n L)(kt:Ktab h)(hn:n≤1099511627000):Sat Tryz.prog 36 #[.slice va n vc] h fun v h'=>v=hv (root L)∧Ext h h':=by
 have hLn:=hL.2.2
 have e0:=Ext.refl h
 have h0s:=kt.lt
 have sep:Sep h.size h.size []:=Sep.nil _ _
 refine sat_in Tryz.func36 19 fun a hF=> ?_
 refine qS hF ?_
 refine tN 0 (pV h.size) ((z32.map bv).toArray) 39 fun h1 g2 m3=> ?_
 replace sep:=sep.nw e0.size m3
 refine sT [(2,pV h.size)] fun a hF=> ?_
 refine qS hF ?_
 refine tG 0 (newgrow_l _) ?_
 rintro _ h4 ⟨b_g,rfl,hs_g,hge,g⟩
 replace e0:=e0.ext g2
 have hlo:=e0.size
 have sepo:=sep
 replace kt:=kt.ext g2
 replace e0:=e0.ext g
 replace kt:=kt.ext g
 replace m3:=m3.x g
 replace sep:=sep.up g.size
 have hlt:=hs_g.lt.1
 replace sep:=(sepo.cons (x:=some b_g) g.size (by omega) (fun k e=>by cases e;exact⟨hge,hlt⟩)).none (by omega)
 clear hge hlo hlt g sepo
 refine sT [(3,pV b_g)] fun a hF=> ?_
 refine cS ?_
 refine qP [(7,.slice va n vc),(8,nV n),(9,.int .i64 0)] hF fun a hF=> ?_
 refine cB 0 ?_
 refine cL (fun m a h'=>∃i:Nat,∃o1:Option Nat,m=n - i∧(Ext h h')∧(Ktab h')∧(h'[h.size]? =some (.cells (z32.map bv).toArray 39))∧(i≤n)∧(GrowL h' b_g o1 (L.take i))∧(Sep h.size h'.size [o1,b_g,some (h.size)])∧(Fr a 19 [(2,.pointer (some ⟨h.size,0,none⟩)),(3,.pointer (some ⟨b_g,0,none⟩)),(7,.slice va n vc),(8,.int .i64 ((n:Nat):Int)),(9,.int .i64 ((i:Nat):Int))])) (n - 0) ⟨0,none,rfl,e0,kt,m3,(by omega),hs_g,sep,hF.to⟩ ?_
 clear hF a
 clear e0
 clear kt
 clear m3
 clear hs_g
 clear sep
 rintro m a h5 ⟨i,o1,rfl,e0,kt,m3,hin,hs_g,sep,hF⟩
 refine qP [(10,.bool (decide (((i:Nat):Int)<((n:Nat):Int))))] hF fun a hF=> ?_
 refine cS ?_
 refine cJ 10 hF (fun hc6=> ?_) fun hc6=> ?_
 ·skip
  have hi2:i<n:=by omega
  obtain⟨aa,rfl,hcap⟩:=hL.someA (by omega)
  refine cN ?_
  refine tK ?_
  refine cS ?_
  refine cB 1 ?_
  refine qS hF ?_
  refine tI 0 aa n 32 i (i*32) ?_
  refine tH 1 i (hL.ext e0) ?_
  refine tN 2 (pV h5.size) ((z32.map bv).toArray) 39 fun h7 g8 m9=> ?_
  replace sep:=sep.nw e0.size m9
  refine tF 3 (Does.store (b:=h5.size) (off:=0) (vs:=(L.getD i []).map bv) (l:=z32.map bv) (storeOp_of (by kernel_rfl) (hlm (hL.2.1.get (k:=i) (by rw[hL.2.2];omega)))) m9 (hfit rfl (hL.2.1.get (k:=i) (by rw[hL.2.2];omega))) (ones_map _)) ?_
  rintro _ h10 ⟨rfl,hh⟩
  have g11:Grew (some (h5.size)) h7 h10:=hput_gr hh
  replace m9:h10[h5.size]? =some (.cells ((L.getD i []).map bv).toArray 39):=hput_at (off:=0) (vs:=(L.getD i []).map bv) (l:=(z32.map bv)) hh (hsplice rfl (hL.2.1.get (k:=i) (by rw[hL.2.2];omega))) m9
  clear hh
  refine sT [(5,pV h5.size)] fun a hF=> ?_
  refine rS hF ?_
  refine tC 1 (.agg ((L.getD i []).map bv).toArray) (Calm.load (T:=39) (p:=⟨h5.size,0,none⟩) (by kernel_rfl) (Loads.hash (by kernel_rfl) (hL.2.1.get (k:=i) (by rw[hL.2.2];omega)) m9)) ?_
  replace kt:=(kt.ext g8).grew g11 (sep.zero 0 rfl h0s)
  replace hs_g:=(hs_g.ext g8).put g11 (sep.bp 2 0) (sep.ap 1 0)
  refine tG 2 (add_l _ b_g o1 (L.take i) hs_g (L.getD i []) (hL.2.1.get (k:=i) (by rw[hL.2.2];omega)) kt (by have:=sep.low 2 rfl _ rfl;omega) (fun k e=>by have:=sep.low 1 rfl k e;omega) (by rw[List.length_take];omega)) ?_
  rintro _ h13 ⟨o12,hs',ho',g⟩
  replace e0:=(e0.ext g8).grew g11 (sep.l 0)
  have hlo:=e0.size
  replace e0:=Gr.toExt e0 g (sep.lowF 2 1 rfl rfl)
  replace kt:=kt.gr g (sep.zeroF 2 1 rfl rfl h0s)
  replace hs_g:GrowL h13 b_g o12 (L.take i++[(L.getD i [])]):=hs'
  replace m3:=(m3.x g8).y g11 (sep.bp 3 0)
  replace m3:=g.blk m3 ((sep.gF 3 2 1 rfl rfl rfl (by decide) (by decide)) _ rfl)
  replace m9:=g.blk m9 ((sep.gF 0 2 1 rfl rfl rfl (by decide) (by decide)) _ rfl)
  replace sep:=sep.up g11.size
  replace sep:=sep.set g.1 hlo 1 (y:=o12) rfl (ho'.imp id .inr) (fun k e=>hs'.lt.2 k e)
  replace sep:Sep h.size h13.size [some (h5.size),o12,b_g,some (h.size)]:=sep
  clear hs' ho' g hlo
  refine sE [] fun a hF=> ?_
  refine bK ?_
  refine tK ?_
  refine rS hF ?_
  refine tA 0 i 1 ?_
  refine sE [(9,nV (i+1))] fun a hF=> ?_
  rw[take_next hL hi2] at hs_g
  replace sep:=sep.sub (l':=[o12,b_g,some (h.size)]) (.cons _ (.cons_cons _ (.cons_cons _ (.cons_cons _ (.slnil)))))
  show ∃m',m'<_∧_
  refine⟨_,?_,(i+1),o12,rfl,e0,kt,m3,(by omega),hs_g,sep,hF.to⟩
  omega
 ·skip
  obtain rfl:i=n:=by omega
  rw[List.take_of_length_le (by rw[hL.2.2];omega)] at hs_g
  refine cX 0 (xT (xT (xB ?_)))
  refine tK ?_
  refine qS hF ?_
  refine tG 1 (groot_l _ b_g o1 L hs_g kt (by omega)) ?_
  rintro _ h15 ⟨rfl,g14⟩
  replace m3:=m3.x g14
  refine tF 2 (Does.store (b:=h.size) (off:=0) (vs:=(root L).map bv) (l:=z32.map bv) (storeOp_of (by kernel_rfl) (hlm (root_len hL.2.1))) m3 (hfit rfl (root_len hL.2.1)) (ones_map _)) ?_
  rintro _ h16 ⟨rfl,hh⟩
  have g17:Grew (some (h.size)) h15 h16:=hput_gr hh
  replace m3:h16[h.size]? =some (.cells ((root L).map bv).toArray 39):=hput_at (off:=0) (vs:=(root L).map bv) (l:=(z32.map bv)) hh (hsplice rfl (root_len hL.2.1)) m3
  clear hh
  refine sT [] fun a hF=> ?_
  refine cR ?_
  refine ret_ok [.cell 2 39] [.agg ((root L).map bv).toArray] (.agg ((root L).map bv).toArray) rfl hF ⟨⟨_,rfl,Loads.hash (by kernel_rfl) (root_len hL.2.1) m3⟩,trivial⟩ rfl ?_
  replace e0:=(e0.ext g14).grew g17 (sep.l 2)
  exact⟨rfl,e0⟩
end Go.Proofs.YtegkejcglfgpmaaGreatDoor
end
section
namespace Go.Proofs.YtegkejcglfgpmaaGreatDoor
open Go Go.Lane Go.Sha
noncomputable def b118:Code:=Tryz.f118.body.getD .skip
def len8:ByteArray:=⟨#[0,1,2,2,3,3,3,3,4,4,4,4,4,4,4,4,5,5,5,5,5,5,5,5,5,5,5,5,5,5,5,5,6,6,6,6,6,6,6,6,6,6,6,6,6,6,6,6,6,6,6,6,6,6,6,6,6,6,6,6,6,6,6,6,7,7,7,7,7,7,7,7,7,7,7,7,7,7,7,7,7,7,7,7,7,7,7,7,7,7,7,7,7,7,7,7,7,7,7,7,7,7,7,7,7,7,7,7,7,7,7,7,7,7,7,7,7,7,7,7,7,7,7,7,7,7,7,7,8,8,8,8,8,8,8,8,8,8,8,8,8,8,8,8,8,8,8,8,8,8,8,8,8,8,8,8,8,8,8,8,8,8,8,8,8,8,8,8,8,8,8,8,8,8,8,8,8,8,8,8,8,8,8,8,8,8,8,8,8,8,8,8,8,8,8,8,8,8,8,8,8,8,8,8,8,8,8,8,8,8,8,8,8,8,8,8,8,8,8,8,8,8,8,8,8,8,8,8,8,8,8,8,8,8,8,8,8,8,8,8,8,8,8,8,8,8,8,8,8,8,8,8,8,8,8,8]⟩
theorem len8_get:∀y,y<256→len8[y]? =some (UInt8.ofNat (bitlen y)):=by decide+kernel
theorem len64_sat(h:Heap)(x:Nat)(hx:x<18446744073709551616):Sat Tryz.prog 118 #[.int .u64 ((x:Nat):Int)] h fun v h'=>v= .int .i64 ((bitlen x:Nat):Int)∧h'=h:=by
 refine sat_in Tryz.func118 25 fun a hF=> ?_
 refine qP [(2,.int .i64 0)] hF fun a hF=> ?_
 refine cS ?_
 refine qP [(4,.bool (decide ((4294967296:Int)≤((x:Nat):Int))))] hF fun a hF=> ?_
 refine cJ 4 hF (fun hc1=> ?_) fun hc1=> ?_
 ·skip
  have hq32:2^32≤(x):=by omega
  refine qS hF ?_
  refine t1 1 (.int .u64 ((x/2^32:Nat):Int)) (.int .u64 (Int.fdiv ((x:Nat):Int) (2^32))) (congrArg (Value.int .u64) (fdivN (x) 32)) ?_
  refine sT [(0,.int .u64 ((x/2^32:Nat):Int))] fun a hF=> ?_
  refine rP [(2,.int .i64 32)] hF fun a hF=> ?_
  refine tK ?_
  refine cS ?_
  refine qP [(8,.bool (decide ((65536:Int)≤((x/2^32:Nat):Int))))] hF fun a hF=> ?_
  refine cJ 8 hF (fun hc2=> ?_) fun hc2=> ?_
  ·skip
   have hq16:2^16≤(x/2^32):=by omega
   refine qS hF ?_
   refine t1 1 (.int .u64 (((x/2^32)/2^16:Nat):Int)) (.int .u64 (Int.fdiv ((x/2^32:Nat):Int) (2^16))) (congrArg (Value.int .u64) (fdivN (x/2^32) 16)) ?_
   refine sT [(0,.int .u64 (((x/2^32)/2^16:Nat):Int))] fun a hF=> ?_
   refine rP [(2,.int .i64 48)] hF fun a hF=> ?_
   refine tK ?_
   refine cS ?_
   refine qP [(14,.bool (decide ((256:Int)≤(((x/2^32)/2^16:Nat):Int))))] hF fun a hF=> ?_
   refine cJ 14 hF (fun hc3=> ?_) fun hc3=> ?_
   ·skip
    have hq8:2^8≤((x/2^32)/2^16):=by omega
    refine qS hF ?_
    refine t1 1 (.int .u64 ((((x/2^32)/2^16)/2^8:Nat):Int)) (.int .u64 (Int.fdiv (((x/2^32)/2^16:Nat):Int) (2^8))) (congrArg (Value.int .u64) (fdivN ((x/2^32)/2^16) 8)) ?_
    refine sT [(0,.int .u64 ((((x/2^32)/2^16)/2^8:Nat):Int))] fun a hF=> ?_
    refine rP [(2,.int .i64 56)] hF fun a hF=> ?_
    refine tK ?_
    refine qS hF ?_
    refine t1 2 (bv (UInt8.ofNat (((x/2^32)/2^16)/2^8))) (.int .u8 (IntKind.u8.wrap ((((x/2^32)/2^16)/2^8:Nat):Int))) (conv64 _) ?_
    refine tC 3 (bv (UInt8.ofNat (bitlen (((x/2^32)/2^16)/2^8)))) ((Calm.strIx (t:=9) (n:=(((x/2^32)/2^16)/2^8)) (s:=len8) (by rw[show((((x/2^32)/2^16)/2^8:Nat):Int)=((UInt8.ofNat (((x/2^32)/2^16)/2^8)).toNat :Int) by rw[conv8n (by omega)]];kernel_rfl) (by kernel_rfl) (len8_get _ (by omega))) _) ?_
    refine t1 4 (.int .i64 ((bitlen (((x/2^32)/2^16)/2^8):Nat):Int)) (.int .i64 (IntKind.i64.wrap ((UInt8.ofNat (bitlen (((x/2^32)/2^16)/2^8))).toNat :Int))) (conv8i (y:=((x/2^32)/2^16)/2^8) (by omega)) ?_
    have hbl:=bitlen_le (((x/2^32)/2^16)/2^8) (by omega)
    refine tA 5 56 (bitlen (((x/2^32)/2^16)/2^8)) ?_
    refine sT [(2,nV (56+(bitlen (((x/2^32)/2^16)/2^8))))] fun a hF=> ?_
    refine cR ?_
    refine rT 2 (nV (56+(bitlen (((x/2^32)/2^16)/2^8)))) hF ?_
    have hs32:=bitlen_shift (x:=x) (k:=32) (by omega)
    have hs16:=bitlen_shift (x:=x/2^32) (k:=16) (by omega)
    have hs8:=bitlen_shift (x:=(x/2^32)/2^16) (k:=8) (by omega)
    exact⟨congrArg (fun z:Nat=>Value.int .i64 (z:Int)) (by omega),rfl⟩
   ·skip
    have hq8:¬2^8≤((x/2^32)/2^16):=by omega
    refine cN ?_
    refine tK ?_
    refine qS hF ?_
    refine t1 2 (bv (UInt8.ofNat ((x/2^32)/2^16))) (.int .u8 (IntKind.u8.wrap (((x/2^32)/2^16:Nat):Int))) (conv64 _) ?_
    refine tC 3 (bv (UInt8.ofNat (bitlen ((x/2^32)/2^16)))) ((Calm.strIx (t:=9) (n:=((x/2^32)/2^16)) (s:=len8) (by rw[show(((x/2^32)/2^16:Nat):Int)=((UInt8.ofNat ((x/2^32)/2^16)).toNat :Int) by rw[conv8n (by omega)]];kernel_rfl) (by kernel_rfl) (len8_get _ (by omega))) _) ?_
    refine t1 4 (.int .i64 ((bitlen ((x/2^32)/2^16):Nat):Int)) (.int .i64 (IntKind.i64.wrap ((UInt8.ofNat (bitlen ((x/2^32)/2^16))).toNat :Int))) (conv8i (y:=(x/2^32)/2^16) (by omega)) ?_
    have hbl:=bitlen_le ((x/2^32)/2^16) (by omega)
    refine tA 5 48 (bitlen ((x/2^32)/2^16)) ?_
    refine sT [(2,nV (48+(bitlen ((x/2^32)/2^16))))] fun a hF=> ?_
    refine cR ?_
    refine rT 2 (nV (48+(bitlen ((x/2^32)/2^16)))) hF ?_
    have hs32:=bitlen_shift (x:=x) (k:=32) (by omega)
    have hs16:=bitlen_shift (x:=x/2^32) (k:=16) (by omega)
    exact⟨congrArg (fun z:Nat=>Value.int .i64 (z:Int)) (by omega),rfl⟩
  ·skip
   have hq16:¬2^16≤(x/2^32):=by omega
   refine cN ?_
   refine tK ?_
   refine cS ?_
   refine qP [(14,.bool (decide ((256:Int)≤((x/2^32:Nat):Int))))] hF fun a hF=> ?_
   refine cJ 14 hF (fun hc4=> ?_) fun hc4=> ?_
   ·skip
    have hq8:2^8≤(x/2^32):=by omega
    refine qS hF ?_
    refine t1 1 (.int .u64 (((x/2^32)/2^8:Nat):Int)) (.int .u64 (Int.fdiv ((x/2^32:Nat):Int) (2^8))) (congrArg (Value.int .u64) (fdivN (x/2^32) 8)) ?_
    refine sT [(0,.int .u64 (((x/2^32)/2^8:Nat):Int))] fun a hF=> ?_
    refine rP [(2,.int .i64 40)] hF fun a hF=> ?_
    refine tK ?_
    refine qS hF ?_
    refine t1 2 (bv (UInt8.ofNat ((x/2^32)/2^8))) (.int .u8 (IntKind.u8.wrap (((x/2^32)/2^8:Nat):Int))) (conv64 _) ?_
    refine tC 3 (bv (UInt8.ofNat (bitlen ((x/2^32)/2^8)))) ((Calm.strIx (t:=9) (n:=((x/2^32)/2^8)) (s:=len8) (by rw[show(((x/2^32)/2^8:Nat):Int)=((UInt8.ofNat ((x/2^32)/2^8)).toNat :Int) by rw[conv8n (by omega)]];kernel_rfl) (by kernel_rfl) (len8_get _ (by omega))) _) ?_
    refine t1 4 (.int .i64 ((bitlen ((x/2^32)/2^8):Nat):Int)) (.int .i64 (IntKind.i64.wrap ((UInt8.ofNat (bitlen ((x/2^32)/2^8))).toNat :Int))) (conv8i (y:=(x/2^32)/2^8) (by omega)) ?_
    have hbl:=bitlen_le ((x/2^32)/2^8) (by omega)
    refine tA 5 40 (bitlen ((x/2^32)/2^8)) ?_
    refine sT [(2,nV (40+(bitlen ((x/2^32)/2^8))))] fun a hF=> ?_
    refine cR ?_
    refine rT 2 (nV (40+(bitlen ((x/2^32)/2^8)))) hF ?_
    have hs32:=bitlen_shift (x:=x) (k:=32) (by omega)
    have hs8:=bitlen_shift (x:=x/2^32) (k:=8) (by omega)
    exact⟨congrArg (fun z:Nat=>Value.int .i64 (z:Int)) (by omega),rfl⟩
   ·skip
    have hq8:¬2^8≤(x/2^32):=by omega
    refine cN ?_
    refine tK ?_
    refine qS hF ?_
    refine t1 2 (bv (UInt8.ofNat (x/2^32))) (.int .u8 (IntKind.u8.wrap ((x/2^32:Nat):Int))) (conv64 _) ?_
    refine tC 3 (bv (UInt8.ofNat (bitlen (x/2^32)))) ((Calm.strIx (t:=9) (n:=(x/2^32)) (s:=len8) (by rw[show((x/2^32:Nat):Int)=((UInt8.ofNat (x/2^32)).toNat :Int) by rw[conv8n (by omega)]];kernel_rfl) (by kernel_rfl) (len8_get _ (by omega))) _) ?_
    refine t1 4 (.int .i64 ((bitlen (x/2^32):Nat):Int)) (.int .i64 (IntKind.i64.wrap ((UInt8.ofNat (bitlen (x/2^32))).toNat :Int))) (conv8i (y:=x/2^32) (by omega)) ?_
    have hbl:=bitlen_le (x/2^32) (by omega)
    refine tA 5 32 (bitlen (x/2^32)) ?_
    refine sT [(2,nV (32+(bitlen (x/2^32))))] fun a hF=> ?_
    refine cR ?_
    refine rT 2 (nV (32+(bitlen (x/2^32)))) hF ?_
    have hs32:=bitlen_shift (x:=x) (k:=32) (by omega)
    exact⟨congrArg (fun z:Nat=>Value.int .i64 (z:Int)) (by omega),rfl⟩
 ·skip
  have hq32:¬2^32≤(x):=by omega
  refine cN ?_
  refine tK ?_
  refine cS ?_
  refine qP [(8,.bool (decide ((65536:Int)≤((x:Nat):Int))))] hF fun a hF=> ?_
  refine cJ 8 hF (fun hc5=> ?_) fun hc5=> ?_
  ·skip
   have hq16:2^16≤(x):=by omega
   refine qS hF ?_
   refine t1 1 (.int .u64 ((x/2^16:Nat):Int)) (.int .u64 (Int.fdiv ((x:Nat):Int) (2^16))) (congrArg (Value.int .u64) (fdivN (x) 16)) ?_
   refine sT [(0,.int .u64 ((x/2^16:Nat):Int))] fun a hF=> ?_
   refine rP [(2,.int .i64 16)] hF fun a hF=> ?_
   refine tK ?_
   refine cS ?_
   refine qP [(14,.bool (decide ((256:Int)≤((x/2^16:Nat):Int))))] hF fun a hF=> ?_
   refine cJ 14 hF (fun hc6=> ?_) fun hc6=> ?_
   ·skip
    have hq8:2^8≤(x/2^16):=by omega
    refine qS hF ?_
    refine t1 1 (.int .u64 (((x/2^16)/2^8:Nat):Int)) (.int .u64 (Int.fdiv ((x/2^16:Nat):Int) (2^8))) (congrArg (Value.int .u64) (fdivN (x/2^16) 8)) ?_
    refine sT [(0,.int .u64 (((x/2^16)/2^8:Nat):Int))] fun a hF=> ?_
    refine rP [(2,.int .i64 24)] hF fun a hF=> ?_
    refine tK ?_
    refine qS hF ?_
    refine t1 2 (bv (UInt8.ofNat ((x/2^16)/2^8))) (.int .u8 (IntKind.u8.wrap (((x/2^16)/2^8:Nat):Int))) (conv64 _) ?_
    refine tC 3 (bv (UInt8.ofNat (bitlen ((x/2^16)/2^8)))) ((Calm.strIx (t:=9) (n:=((x/2^16)/2^8)) (s:=len8) (by rw[show(((x/2^16)/2^8:Nat):Int)=((UInt8.ofNat ((x/2^16)/2^8)).toNat :Int) by rw[conv8n (by omega)]];kernel_rfl) (by kernel_rfl) (len8_get _ (by omega))) _) ?_
    refine t1 4 (.int .i64 ((bitlen ((x/2^16)/2^8):Nat):Int)) (.int .i64 (IntKind.i64.wrap ((UInt8.ofNat (bitlen ((x/2^16)/2^8))).toNat :Int))) (conv8i (y:=(x/2^16)/2^8) (by omega)) ?_
    have hbl:=bitlen_le ((x/2^16)/2^8) (by omega)
    refine tA 5 24 (bitlen ((x/2^16)/2^8)) ?_
    refine sT [(2,nV (24+(bitlen ((x/2^16)/2^8))))] fun a hF=> ?_
    refine cR ?_
    refine rT 2 (nV (24+(bitlen ((x/2^16)/2^8)))) hF ?_
    have hs16:=bitlen_shift (x:=x) (k:=16) (by omega)
    have hs8:=bitlen_shift (x:=x/2^16) (k:=8) (by omega)
    exact⟨congrArg (fun z:Nat=>Value.int .i64 (z:Int)) (by omega),rfl⟩
   ·skip
    have hq8:¬2^8≤(x/2^16):=by omega
    refine cN ?_
    refine tK ?_
    refine qS hF ?_
    refine t1 2 (bv (UInt8.ofNat (x/2^16))) (.int .u8 (IntKind.u8.wrap ((x/2^16:Nat):Int))) (conv64 _) ?_
    refine tC 3 (bv (UInt8.ofNat (bitlen (x/2^16)))) ((Calm.strIx (t:=9) (n:=(x/2^16)) (s:=len8) (by rw[show((x/2^16:Nat):Int)=((UInt8.ofNat (x/2^16)).toNat :Int) by rw[conv8n (by omega)]];kernel_rfl) (by kernel_rfl) (len8_get _ (by omega))) _) ?_
    refine t1 4 (.int .i64 ((bitlen (x/2^16):Nat):Int)) (.int .i64 (IntKind.i64.wrap ((UInt8.ofNat (bitlen (x/2^16))).toNat :Int))) (conv8i (y:=x/2^16) (by omega)) ?_
    have hbl:=bitlen_le (x/2^16) (by omega)
    refine tA 5 16 (bitlen (x/2^16)) ?_
    refine sT [(2,nV (16+(bitlen (x/2^16))))] fun a hF=> ?_
    refine cR ?_
    refine rT 2 (nV (16+(bitlen (x/2^16)))) hF ?_
    have hs16:=bitlen_shift (x:=x) (k:=16) (by omega)
    exact⟨congrArg (fun z:Nat=>Value.int .i64 (z:Int)) (by omega),rfl⟩
  ·skip
   have hq16:¬2^16≤(x):=by omega
   refine cN ?_
   refine tK ?_
   refine cS ?_
   refine qP [(14,.bool (decide ((256:Int)≤((x:Nat):Int))))] hF fun a hF=> ?_
   refine cJ 14 hF (fun hc7=> ?_) fun hc7=> ?_
   ·skip
    have hq8:2^8≤(x):=by omega
    refine qS hF ?_
    refine t1 1 (.int .u64 ((x/2^8:Nat):Int)) (.int .u64 (Int.fdiv ((x:Nat):Int) (2^8))) (congrArg (Value.int .u64) (fdivN (x) 8)) ?_
    refine sT [(0,.int .u64 ((x/2^8:Nat):Int))] fun a hF=> ?_
    refine rP [(2,.int .i64 8)] hF fun a hF=> ?_
    refine tK ?_
    refine qS hF ?_
    refine t1 2 (bv (UInt8.ofNat (x/2^8))) (.int .u8 (IntKind.u8.wrap ((x/2^8:Nat):Int))) (conv64 _) ?_
    refine tC 3 (bv (UInt8.ofNat (bitlen (x/2^8)))) ((Calm.strIx (t:=9) (n:=(x/2^8)) (s:=len8) (by rw[show((x/2^8:Nat):Int)=((UInt8.ofNat (x/2^8)).toNat :Int) by rw[conv8n (by omega)]];kernel_rfl) (by kernel_rfl) (len8_get _ (by omega))) _) ?_
    refine t1 4 (.int .i64 ((bitlen (x/2^8):Nat):Int)) (.int .i64 (IntKind.i64.wrap ((UInt8.ofNat (bitlen (x/2^8))).toNat :Int))) (conv8i (y:=x/2^8) (by omega)) ?_
    have hbl:=bitlen_le (x/2^8) (by omega)
    refine tA 5 8 (bitlen (x/2^8)) ?_
    refine sT [(2,nV (8+(bitlen (x/2^8))))] fun a hF=> ?_
    refine cR ?_
    refine rT 2 (nV (8+(bitlen (x/2^8)))) hF ?_
    have hs8:=bitlen_shift (x:=x) (k:=8) (by omega)
    exact⟨congrArg (fun z:Nat=>Value.int .i64 (z:Int)) (by omega),rfl⟩
   ·skip
    have hq8:¬2^8≤(x):=by omega
    refine cN ?_
    refine tK ?_
    refine qS hF ?_
    refine t1 2 (bv (UInt8.ofNat x)) (.int .u8 (IntKind.u8.wrap ((x:Nat):Int))) (conv64 _) ?_
    refine tC 3 (bv (UInt8.ofNat (bitlen x))) ((Calm.strIx (t:=9) (n:=x) (s:=len8) (by rw[show((x:Nat):Int)=((UInt8.ofNat x).toNat :Int) by rw[conv8n (by omega)]];kernel_rfl) (by kernel_rfl) (len8_get _ (by omega))) _) ?_
    refine t1 4 (.int .i64 ((bitlen x:Nat):Int)) (.int .i64 (IntKind.i64.wrap ((UInt8.ofNat (bitlen x)).toNat :Int))) (conv8i (y:=x) (by omega)) ?_
    have hbl:=bitlen_le (x) (by omega)
    refine t1 5 (.int .i64 ((bitlen x:Nat):Int)) (.int .i64 (IntKind.i64.wrap (0+((bitlen x:Nat):Int)))) (congrArg (Value.int .i64) (w64' (by omega) (by omega) (by omega))) ?_
    refine sT [(2,nV (bitlen x))] fun a hF=> ?_
    refine cR ?_
    refine rT 2 (nV (bitlen x)) hF ?_
    exact⟨congrArg (fun z:Nat=>Value.int .i64 (z:Int)) (by omega),rfl⟩
noncomputable def b90:Code:=Tryz.f90.body.getD .skip
theorem len_sat(h:Heap)(x:Nat)(hx:x<18446744073709551616):Sat Tryz.prog 90 #[.int .u64 ((x:Nat):Int)] h fun v h'=>v= .int .i64 ((bitlen x:Nat):Int)∧h'=h:=by
 refine sat_in Tryz.func90 8 fun a hF=> ?_
 refine qP [] hF fun a hF=> ?_
 refine cS ?_
 refine C.condCF [1,0,0] [1,0,1] (by kernel_rfl) ?_
 refine cN ?_
 refine tK ?_
 refine qS hF ?_
 refine tC 1 (nV (bitlen x)) (Does.call (f:=118) (args:= #[.int .u64 ((x:Nat):Int)]) (by kernel_rfl) (len64_sat _ x hx)) ?_
 refine sT [(2,nV (bitlen x))] fun a hF=> ?_
 refine cR ?_
 refine rT 2 (nV (bitlen x)) hF ?_
 exact⟨rfl,rfl⟩
noncomputable def b104:Code:=Tryz.f104.body.getD .skip
theorem split_sat(h:Heap)(n:Nat)(hn:2≤n)(hn2:n≤9223372036854775807):Sat Tryz.prog 104 #[.int .i64 ((n:Nat):Int)] h fun v h'=>v= .int .i64 ((half n:Nat):Int)∧h'=h:=by
 have hbl:=bitlen_lt (x:=n - 1) (k:=63) (by omega)
 have hbl2:1≤bitlen (n - 1):=by unfold bitlen;rw[if_neg (by omega)];omega
 refine sat_in Tryz.func104 9 fun a hF=> ?_
 refine qP [] hF fun a hF=> ?_
 refine qS hF ?_
 refine tU 1 n 1 ?_
 refine t1 2 (.int .u64 ((n - 1:Nat):Int)) (.int .u64 (IntKind.u64.wrap ((n - 1:Nat):Int))) (congrArg (Value.int .u64) (u64n (by omega))) ?_
 refine tC 3 (nV (bitlen (n - 1))) (Does.call (f:=90) (args:= #[.int .u64 ((n - 1:Nat):Int)]) (by kernel_rfl) (len_sat _ (n - 1) (by omega))) ?_
 refine tU 4 (bitlen (n - 1)) 1 ?_
 refine tC 5 (nV (2^((bitlen (n - 1)) - 1))) ((Calm.shl1 ((bitlen (n - 1)) - 1) (by kernel_rfl) (by omega)) _) ?_
 refine sT [(2,nV (2^((bitlen (n - 1)) - 1)))] fun a hF=> ?_
 refine cR ?_
 refine rT 2 (nV (2^((bitlen (n - 1)) - 1))) hF ?_
 exact⟨congrArg (fun z:Nat=>Value.int .i64 (z:Int)) (half_shift hn),rfl⟩
noncomputable def b87:Code:=Tryz.f87.body.getD .skip
theorem rhalf_sat(h:Heap)(n:Nat)(hn:2≤n)(hn2:n≤1099511627776):Sat Tryz.prog 87 #[.int .i64 ((n:Nat):Int)] h fun v h'=>v= .int .i64 ((half n:Nat):Int)∧h'=h:=by
 refine sat_in Tryz.func87 11 fun a hF=> ?_
 refine qP [] hF fun a hF=> ?_
 refine qP [(3,.int .i64 1)] hF fun a hF=> ?_
 refine cS ?_
 refine cB 0 ?_
 refine cL (fun m a h'=>∃j:Nat,m=n - 2^j∧(2^j<n)∧(h=h')∧(Fr a 11 [(0,.int .i64 ((n:Nat):Int)),(3,.int .i64 ((2^j:Nat):Int))])) (n - 1) ⟨0,rfl,(by omega),rfl,hF.to⟩ ?_
 clear hF a
 rintro m a h1 ⟨j,rfl,hj,hh,hF⟩
 have hp:=Nat.two_pow_pos j
 refine cS ?_
 refine qS hF ?_
 refine t1 1 (.int .i64 ((2*(2^j):Nat):Int)) (.int .i64 (IntKind.i64.wrap (2*((2^j:Nat):Int)))) (congrArg (Value.int .i64) (w64' (by omega) (by omega) (by omega))) ?_
 refine sT [(7,.bool (decide (((2*(2^j):Nat):Int)<((n:Nat):Int))))] fun a hF=> ?_
 refine cJ 7 hF (fun hc2=> ?_) fun hc2=> ?_
 ·skip
  refine cN ?_
  refine tK ?_
  refine cB 1 ?_
  refine rS hF ?_
  refine t1 1 (.int .i64 ((2*(2^j):Nat):Int)) (.int .i64 (IntKind.i64.wrap (2*((2^j:Nat):Int)))) (congrArg (Value.int .i64) (w64' (by omega) (by omega) (by omega))) ?_
  refine sE [(3,nV (2*(2^j)))] fun a hF=> ?_
  refine bK ?_
  have hk2:2*2^j=2^(j+1):=by rw[Nat.pow_succ,Nat.mul_comm]
  rw[hk2] at hF
  show ∃m',m'<_∧_
  refine⟨_,?_,(j+1),rfl,(by rw[Nat.pow_succ];omega),hh,hF.to⟩
  omega
 ·skip
  refine cX 0 (xT (xT (xB ?_)))
  refine tK ?_
  refine qP [(2,nV (2^j))] hF fun a hF=> ?_
  refine cR ?_
  refine rT 2 (nV (2^j)) hF ?_
  exact⟨congrArg (fun z:Nat=>Value.int .i64 (z:Int)) (half_eq hj (by omega)).symm,hh.symm⟩
end Go.Proofs.YtegkejcglfgpmaaGreatDoor
end
section
namespace Go.Proofs.YtegkejcglfgpmaaGreatDoor
open Go Go.Lane Go.Sha
noncomputable def b105:Code:=Tryz.f105.body.getD .skip
theorem reverse_sat(h:Heap)(ad:Option Addr)(cap n:Nat)(L:List Hs)(own_p:Own h (.slice ad n cap) 39 n 32 (hcs L))(h32:All32 L)(hLn:L.length =n)(hn:n≤1099511627776):Sat Tryz.prog 105 #[.slice ad n cap] h fun _ h'=>Own h' (.slice ad n cap) 39 n 32 (hcs L.reverse)∧Grew (ad.map (·.block)) h h':=by
 have g0:Grew (ad.map (·.block)) h h:=Grew.refl _ _
 refine sat_in Tryz.func105 28 fun a hF=> ?_
 refine qS hF ?_
 refine t1 2 (.int .i64 (((n:Nat):Int) - 1)) (.int .i64 (IntKind.i64.wrap (((n:Nat):Int) - 1))) (congrArg (Value.int .i64) (w64 (by omega) (by omega))) ?_
 refine sT [(2,.int .i64 0),(3,.int .i64 (((n:Nat):Int) - 1))] fun a hF=> ?_
 refine cB 0 ?_
 have hst:(((n:Nat):Int) - 1)=((n:Nat):Int) - 1 - ((0:Nat):Int):=by omega
 rw[hst] at hF
 refine cL (fun m a h'=>∃t:Nat,∃L':List Hs,m=n - t∧(Grew (ad.map (·.block)) h h')∧(RevI L L' t)∧(All32 L')∧(Own h' (.slice ad n cap) 39 n 32 (hcs L'))∧(Fr a 28 [(0,.slice ad n cap),(2,.int .i64 ((t:Nat):Int)),(3,.int .i64 (((n:Nat):Int) - 1 - ((t:Nat):Int)))])) (n - 0) ⟨0,L,rfl,g0,(RevI.start L),h32,own_p,hF.to⟩ ?_
 clear hF a
 clear g0
 clear h32
 clear own_p
 rintro m a h1 ⟨t,L',rfl,g0,hrv,h32',own_p,hF⟩
 refine cS ?_
 refine qP [(9,.bool (decide (((t:Nat):Int)<(((n:Nat):Int) - 1 - ((t:Nat):Int)))))] hF fun a hF=> ?_
 refine cJ 9 hF (fun hc2=> ?_) fun hc2=> ?_
 ·skip
  have hlL:L'.length =n:=hrv.1.trans hLn
  have hj:(((n:Nat):Int) - 1 - ((t:Nat):Int))=((n - 1 - t:Nat):Int):=by omega
  rw[hj] at hF
  have hlt:t<n - 1 - t:=by omega
  obtain⟨aa,rfl,hcap⟩:=own_p.someA (by omega)
  have hr':=HR.of own_p h32'
  have hx1:(L'.getD (n - 1 - t) []).length =32:=h32'.get (by omega)
  have hx2:(L'.getD t []).length =32:=h32'.get (by omega)
  have hrv2:RevI L ((L'.set t (L'.getD (n - 1 - t) [])).set (n - 1 - t) (L'.getD t [])) (t+1):=by have:=hrv.step (by rw[hLn];exact hlt);rw[hLn] at this;exact this
  have hls:(L'.set t (L'.getD (n - 1 - t) [])).length =n:=by rw[List.length_set];exact hlL
  refine cN ?_
  refine tK ?_
  refine cS ?_
  refine cB 1 ?_
  refine cD [0,0,0,0,0,0,48,112,0,0,768,1792,4083,8179,16383,32767] 3 mixed hF ?_
  refine mP 63 [0,1,2,3,4,5] [.slice (some aa) n cap,nV t,.slice (some aa) n cap,nV (n - 1 - t),.slice (some aa) n cap,nV (n - 1 - t)] ?_
  refine mI 127 6 aa n 32 (n - 1 - t) ((n - 1 - t)*32) ?_
  refine mH 255 128 7 (n - 1 - t) (HR.of own_p h32') ?_
  refine mP 1023 [8,9] [.slice (some aa) n cap,nV t] ?_
  refine mI 2047 10 aa n 32 t (t*32) ?_
  refine mH 4095 2176 11 t (HR.of own_p h32') ?_
  refine mI 8191 12 aa n 32 t (t*32) ?_
  refine mF0 16383 16371 13 (Does.storeOwn (a:=aa) (q:=t*32) (vs:=(L'.getD (n - 1 - t) []).map bv) (storeOp_of (by kernel_rfl) (hlm (hr'.2.1.get (k:=(n - 1 - t)) (by rw[hr'.2.2];omega)))) own_p (by rw[hlm (hr'.2.1.get (k:=(n - 1 - t)) (by rw[hr'.2.2];omega))];omega) (ones_map _)) ?_
  rintro _ h4 ⟨rfl,own_p,g3⟩
  replace g0:=g0.trans g3
  rw[hcs_set h32' (k:=t) (by omega) (hr'.2.1.get (k:=(n - 1 - t)) (by rw[hr'.2.2];omega))] at own_p
  refine mI 32767 14 aa n 32 (n - 1 - t) ((n - 1 - t)*32) ?_
  refine mF0 65535 65535 15 (Does.storeOwn (a:=aa) (q:=(n - 1 - t)*32) (vs:=(L'.getD t []).map bv) (storeOp_of (by kernel_rfl) (hlm (hr'.2.1.get (k:=t) (by rw[hr'.2.2];omega)))) own_p (by rw[hlm (hr'.2.1.get (k:=t) (by rw[hr'.2.2];omega))];omega) (ones_map _)) ?_
  rintro _ h6 ⟨rfl,own_p,g5⟩
  replace g0:=g0.trans g5
  rw[hcs_set (h32'.set hx1) (k:=n - 1 - t) (by omega) (hr'.2.1.get (k:=t) (by rw[hr'.2.2];omega))] at own_p
  refine mE [] fun a hF=> ?_
  refine bK ?_
  refine tK ?_
  refine rS hF ?_
  refine tA 1 t 1 ?_
  refine tU 3 (n - 1 - t) 1 ?_
  refine sE [(2,nV (t+1)),(3,nV ((n - 1 - t) - 1))] fun a hF=> ?_
  have hnx:((n - 1 - t - 1:Nat):Int)=((n:Nat):Int) - 1 - ((t+1:Nat):Int):=by omega
  simp only[nV,hnx] at hF
  show ∃m',m'<_∧_
  refine⟨_,?_,(t+1),((L'.set t (L'.getD (n - 1 - t) [])).set (n - 1 - t) (L'.getD t [])),rfl,g0,hrv2,((h32'.set hx1).set hx2),own_p,hF.to⟩
  omega
 ·skip
  refine cX 0 (xT (xT (xB ?_)))
  refine n0 hF ?_
  have hlL:L'.length =n:=hrv.1.trans hLn
  have e:=hrv.done (by omega)
  exact⟨e▸own_p,g0⟩
end Go.Proofs.YtegkejcglfgpmaaGreatDoor
end
section
namespace Go.Proofs.YtegkejcglfgpmaaGreatDoor
open Go Go.Lane Go.Sha
noncomputable def b71:Code:=Tryz.f71.body.getD .skip
set_option maxHeartbeats 1000000 in
theorem tincl_sat(h:Heap)(L:List Hs)(va:Option Addr)(vc n:Nat)(hL:HR h va vc n L)(hn:n≤1099511627000)(m:Int)(kt:Ktab h):Sat Tryz.prog 71 #[.slice va n vc,.int .i64 m] h fun v h'=>∃s,v= .tuple #[s,.int .i64 (inclZ L m).2]∧OwnNew h h' 39 s (inclZ L m).1 :=by
 have hLn:=hL.2.2
 have e0:=Ext.refl h
 have h0s:=kt.lt
 have sep:Sep h.size h.size []:=Sep.nil _ _
 refine sat_in Tryz.func71 51 fun a hF=> ?_
 refine qP [] hF fun a hF=> ?_
 refine cS ?_
 refine cS ?_
 have hm3:m<0∨(n:Int)≤m∨∃k:Nat,m=(k:Int)∧k<n:=by
  rcases Int.lt_or_le m 0 with h0|h0
  ·exact .inl h0
  ·rcases Int.lt_or_le m n with h1|h1
   ·exact .inr (.inr ⟨m.toNat,by omega,by omega⟩)
   ·exact .inr (.inl h1)
 rcases hm3 with hm0|hm0|⟨k,rfl,hk⟩
 ·skip
  refine rS hF ?_
  refine tT 1 (m<(0:Int)) ?_
  refine sE [(15,.bool true)] fun a hF=> ?_
  refine tK ?_
  refine cT 15 hF ?_
  refine qP [(4,.slice none 0 0),(5,.int .i64 50)] hF fun a hF=> ?_
  refine cR (yT ?_)
  refine ret_ok [.tmp 4,.tmp 5] [.slice none 0 0,.int .i64 50] (.tuple #[.slice none 0 0,.int .i64 50]) rfl hF ⟨rfl,rfl,trivial⟩ rfl ?_
  rw[inclZ_no (by omega)];exact⟨_,rfl,OwnNew.none e0⟩
 ·skip
  refine rS hF ?_
  refine tX 1 (m<(0:Int)) ?_
  refine tT 6 (((n:Nat):Int)≤m) ?_
  refine sE [(15,.bool true)] fun a hF=> ?_
  refine tK ?_
  refine cT 15 hF ?_
  refine qP [(4,.slice none 0 0),(5,.int .i64 50)] hF fun a hF=> ?_
  refine cR (yT ?_)
  refine ret_ok [.tmp 4,.tmp 5] [.slice none 0 0,.int .i64 50] (.tuple #[.slice none 0 0,.int .i64 50]) rfl hF ⟨rfl,rfl,trivial⟩ rfl ?_
  rw[inclZ_no (by omega)];exact⟨_,rfl,OwnNew.none e0⟩
 ·skip
  refine rS hF ?_
  refine tX 1 (((k:Nat):Int)<(0:Int)) ?_
  refine tX 6 (((n:Nat):Int)≤((k:Nat):Int)) ?_
  refine sE [(15,.bool false)] fun a hF=> ?_
  refine tK ?_
  refine cF 15 hF ?_
  refine cN ?_
  refine tK ?_
  refine qP [(6,.slice none 0 0)] hF fun a hF=> ?_
  refine cS ?_
  refine cB 0 ?_
  have own_p:Own h (.slice none 0 0) 39 0 32 (hcs []):=Own.nil _ _ _
  have hlo:=e0.size
  replace sep:=sep.none hlo;clear hlo
  have hinv:incl L k=incl L k++([]:List Hs).reverse :=by simp
  refine cL (fun m a h'=>∃L':List Hs,∃va':Option Addr,∃vc':Nat,∃n':Nat,∃m':Nat,∃p:List Hs,∃ad:Option Addr,∃cap:Nat,m=n'+1∧(Ext h h')∧(Ktab h')∧(HR h va' vc' n' L')∧(m'<n'∧n'+p.length ≤n)∧(incl L k=incl L' m'++p.reverse)∧(All32 p)∧(Own h' (.slice ad p.length cap) 39 p.length 32 (hcs p))∧(Sep h.size h'.size [ad.map (·.block)])∧(Fr a 51 [(0,.slice va' n' vc'),(1,.int .i64 ((m':Nat):Int)),(6,.slice ad p.length cap)])) (n+1) ⟨L,va,vc,n,k,[],none,0,rfl,e0,kt,hL,(by simp;omega),hinv,All32.nil,own_p,sep,hF.to⟩ ?_
  clear hF a
  clear e0
  clear kt
  clear hL
  clear hinv
  clear own_p
  clear sep
  rintro m a h1 ⟨L',va',vc',n',m',p,ad,cap,rfl,e0,kt,hL',hm',hinv,h32p,own_p,sep,hF⟩
  have hln':=hL'.2.2
  refine cS ?_
  refine qP [(18,.bool (decide ((1:Int)<((n':Nat):Int))))] hF fun a hF=> ?_
  refine cJ 18 hF (fun hc2=> ?_) fun hc2=> ?_
  ·skip
   obtain⟨aa,rfl,hcap⟩:=hL'.someA (by omega)
   have hhl:=half_lt (n:=n') (by omega)
   have hhp:=half_pos n'
   obtain⟨ad2,had2⟩:∃x,x=if vc'=half n' then (some aa:Option Addr) else (some aa:Option Addr).map (·.add (half n'*32)):=⟨_,rfl⟩
   refine cN ?_
   refine tK ?_
   refine cB 1 ?_
   refine qS hF ?_
   refine tC 2 (nV (half n')) (Does.call (f:=104) (args:= #[nV (n')]) (by kernel_rfl) (split_sat _ n' (by omega) (by omega))) ?_
   refine sT [(7,nV (half n'))] fun a hF=> ?_
   refine qP [(24,.bool (decide (((m':Nat):Int)<((half n':Nat):Int))))] hF fun a hF=> ?_
   refine cJ 24 hF (fun hc3=> ?_) fun hc3=> ?_
   ·skip
    refine qS hF ?_
    refine tC 3 (.slice ad2 (n' - half n') (vc' - half n')) ((fun h=>Calm.sliceO (a:=(some aa)) (len:=n') (cap:=vc') (sz:=32) (x:=ad2) (half n') n' vc' (n' - half n') (vc' - half n') (by kernel_rfl) (.inl ⟨rfl,rfl⟩) (.inl ⟨rfl,rfl⟩) (.inr rfl) (by omega) (by omega) had2 (by first|rfl|omega) (by first|rfl|omega) h) _) ?_
    refine tG 4 (troot_sat _ (L'.drop (half n')) _ _ (n' - half n') ((hL'.ext e0).drop (by omega) had2) kt (by omega)) ?_
    rintro _ h5 ⟨rfl,g4⟩
    refine tF 5 (Does.newHs (L:=[root (L'.drop (half n'))]) (t:=45) (E:=39) (by_:=32) (n:=1) (by kernel_rfl) (by kernel_rfl) (All32.cons (root_len (hL'.2.1.drop _)) All32.nil) rfl (by decide) (by decide)) ?_
    rintro _ h6 ⟨rfl,hh⟩
    have g7:Ext h5 h6:=push_ext hh
    have m8:h6[h5.size]? =some (.cells (hcs [root (L'.drop (half n'))]).toArray 39):=push_at hh
    clear hh
    replace e0:=e0.ext g4
    have hlo:=e0.size
    replace sep:=sep.up g4.size
    have sepo:=sep
    replace sep:=sep.up g7.size
    replace sep:=sepo.new hlo (blk_lt m8)
    clear sepo hlo
    replace own_p:=(own_p.ext g4).ext g7
    refine tP 6 ((p++[root (L'.drop (half n'))]).length) 32 (hcs (p++[root (L'.drop (half n'))])) own_p (hrow1 (root_len (hL'.2.1.drop _)) m8) (ones_hcs _) (fun ad9 cap10 h11 own_p g12 hb13=> ?_) (ys:=(hcs ([root (L'.drop (half n'))]))) (hZ:=by first|rfl|exact(hcs_append _ _).symm |simp[hcs_append])
    replace e0:=e0.ext g7
    have s14:=sep
    replace sep:=sep.sa g12 1 hb13 own_p e0.size;clear hb13
    clear m8
    replace kt:=((kt.ext g4).ext g7).grew g12 (s14.zero 1 rfl h0s)
    replace e0:=e0.grew g12 (s14.l 1)
    replace sep:=sep.sub (l':=[ad9.map (·.block)]) (.cons _ (.cons_cons _ (.slnil)))
    refine sT [(6,.slice ad9 ((p++[root (L'.drop (half n'))]).length) cap10)] fun a hF=> ?_
    refine rS hF ?_
    refine tC 2 (.slice (some aa) (half n') vc') ((fun h=>Calm.sliceO (a:=(some aa)) (len:=n') (cap:=vc') (sz:=32) (x:=(some aa)) 0 (half n') vc' (half n') vc' (by kernel_rfl) (.inl ⟨rfl,rfl⟩) (.inr rfl) (.inl ⟨rfl,rfl⟩) (by omega) (by omega) (opt_add0 _ 32) (by first|rfl|omega) (by first|rfl|omega) h) _) ?_
    refine sE [(0,.slice (some aa) (half n') vc')] fun a hF=> ?_
    have hL2:=hL'.take (k:=half n') (by omega)
    have hinv2:incl L k=incl (L'.take (half n')) m'++(p++[root (L'.drop (half n'))]).reverse :=by rw[hinv,incl_lo (l:=L') (by omega) (by rw[hln'];omega),hln'];simp
    have hm2:m'<half n'∧half n'+(p++[root (L'.drop (half n'))]).length ≤n:=by rw[List.length_append,List.length_singleton];omega
    have h32p2:All32 (p++[root (L'.drop (half n'))]):=h32p.append (All32.one (root_len (hL'.2.1.drop _)))
    refine bK ?_
    show ∃m',m'<_∧_
    refine⟨_,?_,_,_,_,(half n'),_,_,ad9,cap10,rfl,e0,kt,hL2,hm2,hinv2,h32p2,own_p,sep,hF.to⟩
    omega
   ·skip
    refine qS hF ?_
    refine tC 3 (.slice (some aa) (half n') vc') ((fun h=>Calm.sliceO (a:=(some aa)) (len:=n') (cap:=vc') (sz:=32) (x:=(some aa)) 0 (half n') vc' (half n') vc' (by kernel_rfl) (.inl ⟨rfl,rfl⟩) (.inr rfl) (.inl ⟨rfl,rfl⟩) (by omega) (by omega) (opt_add0 _ 32) (by first|rfl|omega) (by first|rfl|omega) h) _) ?_
    refine tG 4 (troot_sat _ (L'.take (half n')) _ _ (half n') ((hL'.ext e0).take (k:=half n') (by omega)) kt (by omega)) ?_
    rintro _ h16 ⟨rfl,g15⟩
    refine tF 5 (Does.newHs (L:=[root (L'.take (half n'))]) (t:=45) (E:=39) (by_:=32) (n:=1) (by kernel_rfl) (by kernel_rfl) (All32.cons (root_len (hL'.2.1.take _)) All32.nil) rfl (by decide) (by decide)) ?_
    rintro _ h17 ⟨rfl,hh⟩
    have g18:Ext h16 h17:=push_ext hh
    have m19:h17[h16.size]? =some (.cells (hcs [root (L'.take (half n'))]).toArray 39):=push_at hh
    clear hh
    replace e0:=e0.ext g15
    have hlo:=e0.size
    replace sep:=sep.up g15.size
    have sepo:=sep
    replace sep:=sep.up g18.size
    replace sep:=sepo.new hlo (blk_lt m19)
    clear sepo hlo
    replace own_p:=(own_p.ext g15).ext g18
    refine tP 6 ((p++[root (L'.take (half n'))]).length) 32 (hcs (p++[root (L'.take (half n'))])) own_p (hrow1 (root_len (hL'.2.1.take _)) m19) (ones_hcs _) (fun ad20 cap21 h22 own_p g23 hb24=> ?_) (ys:=(hcs ([root (L'.take (half n'))]))) (hZ:=by first|rfl|exact(hcs_append _ _).symm |simp[hcs_append])
    replace e0:=e0.ext g18
    have s25:=sep
    replace sep:=sep.sa g23 1 hb24 own_p e0.size;clear hb24
    clear m19
    replace kt:=((kt.ext g15).ext g18).grew g23 (s25.zero 1 rfl h0s)
    replace e0:=e0.grew g23 (s25.l 1)
    replace sep:=sep.sub (l':=[ad20.map (·.block)]) (.cons _ (.cons_cons _ (.slnil)))
    refine sT [(6,.slice ad20 ((p++[root (L'.take (half n'))]).length) cap21)] fun a hF=> ?_
    refine rS hF ?_
    refine tC 2 (.slice ad2 (n' - half n') (vc' - half n')) ((fun h=>Calm.sliceO (a:=(some aa)) (len:=n') (cap:=vc') (sz:=32) (x:=ad2) (half n') n' vc' (n' - half n') (vc' - half n') (by kernel_rfl) (.inl ⟨rfl,rfl⟩) (.inl ⟨rfl,rfl⟩) (.inr rfl) (by omega) (by omega) had2 (by first|rfl|omega) (by first|rfl|omega) h) _) ?_
    refine tU 5 m' (half n') ?_
    refine sE [(0,.slice ad2 (n' - half n') (vc' - half n')),(1,nV (m' - (half n')))] fun a hF=> ?_
    have hL2:=hL'.drop (k:=half n') (by omega) had2
    have hinv2:incl L k=incl (L'.drop (half n')) (m' - half n')++(p++[root (L'.take (half n'))]).reverse :=by rw[hinv,incl_hi (l:=L') (by omega) (by rw[hln'];omega),hln'];simp
    have hm2:m' - half n'<n' - half n'∧n' - half n'+(p++[root (L'.take (half n'))]).length ≤n:=by rw[List.length_append,List.length_singleton];omega
    have h32p2:All32 (p++[root (L'.take (half n'))]):=h32p.append (All32.one (root_len (hL'.2.1.take _)))
    refine bK ?_
    show ∃m',m'<_∧_
    refine⟨_,?_,_,_,_,(n' - half n'),_,_,ad20,cap21,rfl,e0,kt,hL2,hm2,hinv2,h32p2,own_p,sep,hF.to⟩
    omega
  ·skip
   refine cX 0 (xT (xT (xB ?_)))
   refine tK ?_
   refine qS hF ?_
   refine tG 1 (reverse_sat _ ad cap p.length p own_p h32p rfl (by omega)) ?_
   rintro _ h26 ⟨ownx,g⟩
   replace e0:=e0.grew g (sep.l 0)
   replace kt:=kt.grew g (sep.zero 0 rfl h0s)
   replace sep:=sep.up g.size
   clear own_p;have own_p:=ownx;clear ownx g
   refine sT [] fun a hF=> ?_
   refine qP [(4,.slice ad p.length cap),(5,.int .i64 0)] hF fun a hF=> ?_
   refine cR ?_
   refine ret_ok [.tmp 4,.tmp 5] [.slice ad p.length cap,.int .i64 0] (.tuple #[.slice ad p.length cap,.int .i64 0]) rfl hF ⟨rfl,rfl,trivial⟩ rfl ?_
   rw[inclZ_yes (by omega)]
   exact⟨_,rfl,OwnNew.cast (p:=p.reverse) (by rw[hinv,incl_one (by omega)];rfl) ⟨ad,cap,by rw[List.length_reverse],by rw[List.length_reverse];exact own_p,sep.low 0 rfl,e0⟩⟩
end Go.Proofs.YtegkejcglfgpmaaGreatDoor
end
section
namespace Go.Proofs.YtegkejcglfgpmaaGreatDoor
open Go Go.Lane Go.Sha
noncomputable def b121:Code:=Tryz.f121.body.getD .skip
set_option maxHeartbeats 1000000 in
theorem split7_sat(h:Heap)(b:List UInt8)(va:Option Addr)(vc:Nat)(hr:Row h (.slice va b.length vc) b.length 1 (b.map bv))(hbl:b.length ≤1099511627000):Sat Tryz.prog 121 #[.slice va b.length vc] h fun v h'=>SplitR h h' 32 5 v b:=by
 have hnl:=nch_le b.length
 have e0:=Ext.refl h
 have sep:Sep h.size h.size []:=Sep.nil _ _
 refine sat_in Tryz.func121 30 fun a hF=> ?_
 refine qP [] hF fun a hF=> ?_
 refine qS hF ?_
 refine tN 0 (.slice (some ⟨h.size,0,none⟩) 0 0) #[] 5 fun h1 g2 m3=> ?_
 replace sep:=sep.nw e0.size m3
 have own_d:Own h1 (.slice (some ⟨h.size,0,none⟩) 0 0) 5 ([]:List UInt8).length 1 (([]:List UInt8).map bv):=Own.empty 1 m3
 replace sep:Sep h.size h1.size [(some ⟨h.size,0,none⟩:Option Addr).map (·.block)]:=sep
 replace e0:=e0.ext g2
 clear m3
 refine tP 2 b.length 1 (b.map bv) own_d (hr.ext e0) (ones_map _) (fun ad4 cap5 h6 own_d g7 hb8=> ?_) (hl:=(by unfold maxLen;simp;omega)) (hb:=(by simp;omega))
 have s9:=sep
 replace sep:=sep.sa g7 0 hb8 own_d e0.size;clear hb8
 refine sT [(3,.slice ad4 b.length cap5)] fun a hF=> ?_
 refine qP [(4,.slice none 0 0)] hF fun a hF=> ?_
 refine cS ?_
 refine qP [(5,.int .i64 0)] hF fun a hF=> ?_
 refine cB 0 ?_
 have own_o:Own h6 (.slice none 0 0) 32 0 1 ((sls none b 0)):=Own.nil _ _ _
 replace own_o:Own h6 (.slice none 0 0) 32 0 1 (sls ad4 b 0):=own_o
 replace e0:=e0.grew g7 (s9.l 0)
 have hlo:=e0.size
 replace sep:=sep.none hlo;clear hlo
 refine cL (fun m a h'=>∃k:Nat,∃ad:Option Addr,∃cap:Nat,m=nch b.length - k∧(Ext h h')∧(k≤nch b.length)∧(Own h' (.slice ad4 b.length cap5) 5 b.length 1 (b.map bv))∧(Own h' (.slice ad k cap) 32 k 1 (sls ad4 b k))∧(Sep h.size h'.size [ad.map (·.block),ad4.map (·.block)])∧(Fr a 30 [(3,.slice ad4 b.length cap5),(4,.slice ad k cap),(5,.int .i64 ((k*64:Nat):Int))])) (nch b.length - 0) ⟨0,none,0,rfl,e0,(by omega),own_d,own_o,sep,hF.to⟩ ?_
 clear hF a
 clear e0
 clear own_d
 clear own_o
 clear sep
 rintro m a h10 ⟨k,ad,cap,rfl,e0,hk,own_d,own_o,sep,hF⟩
 refine cS ?_
 refine qP [(13,.bool (decide (((k*64:Nat):Int)<((b.length :Nat):Int))))] hF fun a hF=> ?_
 refine cJ 13 hF (fun hc11=> ?_) fun hc11=> ?_
 ·skip
  have hkn:k<nch b.length :=by unfold nch;omega
  have hdc:=own_d.caple
  refine cN ?_
  refine tK ?_
  refine cS ?_
  refine cB 1 ?_
  refine qS hF ?_
  refine tA 3 (k*64) 64 ?_
  refine t1 4 (.int .i64 ((min b.length ((k*64)+64):Nat):Int)) (.int .i64 (if (((k*64)+64:Nat):Int)<((b.length :Nat):Int) then (((k*64)+64:Nat):Int) else ((b.length :Nat):Int))) (congrArg (Value.int .i64) (by rw[Nat.min_def];split<;>split<;>omega)) ?_
  refine sT [(6,nV (min b.length ((k*64)+64)))] fun a hF=> ?_
  refine rS hF ?_
  refine tC 5 (.slice (cad ad4 k) ((ck b k).length) ((ck b k).length)) ((fun h=>Calm.sliceO (a:=ad4) (len:=b.length) (cap:=cap5) (sz:=1) (x:=(cad ad4 k)) (k*64) (min b.length (k*64+64)) (min b.length (k*64+64)) (ck b k).length (ck b k).length (by kernel_rfl) (.inr ⟨rfl,by omega,rfl⟩) (.inr rfl) (.inr rfl) (by omega) (by omega) (by unfold cad;rw[if_neg (by omega),Nat.mul_one]) (by rw[ck_len];omega) (by rw[ck_len];omega) h) _) ?_
  refine tN 6 (.slice (some ⟨h10.size,0,none⟩) 1 1) #[.slice (cad ad4 k) ((ck b k).length) ((ck b k).length)] 32 fun h12 g13 m14=> ?_
  replace sep:=sep.nw e0.size m14
  replace own_o:=own_o.ext g13
  refine tP 7 (k+1) 24 (sls ad4 b k++[csl ad4 b k]) own_o (Row.blk (n:=1) (sz:=1) (l:=[csl ad4 b k]) m14 rfl) (List.all_eq_true.1 (by rfl)) (fun ad15 cap16 h17 own_o g18 hb19=> ?_)
  replace e0:=e0.ext g13
  have s20:=sep
  replace sep:=sep.sa g18 1 hb19 own_o e0.size;clear hb19
  refine sE [(4,.slice ad15 (k+1) cap16)] fun a hF=> ?_
  refine bK ?_
  refine tK ?_
  refine rS hF ?_
  refine tA 1 (k*64) 64 ?_
  refine sE [(5,nV ((k*64)+64))] fun a hF=> ?_
  rw[sls_next] at own_o
  clear m14
  replace own_d:=(own_d.ext g13).k g18 (s20.ap 2 1)
  replace e0:=e0.grew g18 (s20.l 1)
  replace sep:=sep.sub (l':=[ad15.map (·.block),ad4.map (·.block)]) (.cons _ (.cons_cons _ (.cons_cons _ (.slnil))))
  rw[show k*64+64=(k+1)*64 by omega] at hF
  show ∃m',m'<_∧_
  refine⟨_,?_,(k+1),ad15,cap16,rfl,e0,(by omega),own_d,own_o,sep,hF.to⟩
  omega
 ·skip
  refine cX 0 (xT (xT (xB ?_)))
  refine tK ?_
  refine qP [(2,.slice ad k cap)] hF fun a hF=> ?_
  refine cR ?_
  refine rT 2 (.slice ad k cap) hF ?_
  obtain rfl:k=nch b.length :=by unfold nch at hk⊢;omega
  exact⟨_,_,_,_,rfl,own_o,own_d,sep,e0⟩
noncomputable def b97:Code:=Tryz.f97.body.getD .skip
theorem leaves7_sat(h:Heap)(b:List UInt8)(va:Option Addr)(vc:Nat)(hr:Row h (.slice va b.length vc) b.length 1 (b.map bv))(hbl:b.length ≤1099511627000)(kt:Ktab h):Sat Tryz.prog 97 #[.slice va b.length vc] h fun v h'=>OwnNew h h' 39 v (lch b (nch b.length)):=by
 have hnl:=nch_le b.length
 have e0:=Ext.refl h
 have h0s:=kt.lt
 have sep:Sep h.size h.size []:=Sep.nil _ _
 refine sat_in Tryz.func97 20 fun a hF=> ?_
 refine qP [] hF fun a hF=> ?_
 refine qP [(3,.slice none 0 0)] hF fun a hF=> ?_
 refine cS ?_
 refine qS hF ?_
 refine tG 1 (split7_sat _ b _ _ (hr.ext e0) hbl) ?_
 rintro _ h5 ⟨va1,vc2,dat3,dc4,rfl,ownx,owny,sepn,g⟩
 have hlo:=e0.size
 have sepo:=sep
 replace e0:=e0.ext g
 replace kt:=kt.ext g
 replace sep:=sep.up g.size
 replace sep:=sepo.app sepn g.size hlo
 have own_x:Own h5 (.slice va1 (nch b.length) vc2) 32 (nch b.length) 1 (sls dat3 b (nch b.length)):=ownx
 have own_xd:Own h5 (.slice dat3 b.length dc4) 5 b.length 1 (b.map bv):=owny
 clear ownx owny sepn sepo hlo g
 refine sT [(7,.slice va1 (nch b.length) vc2),(8,nV (nch b.length)),(9,.int .i64 0)] fun a hF=> ?_
 refine cB 0 ?_
 have own_o:Own h5 (.slice none 0 0) 39 0 32 (hcs (lch b 0)):=Own.nil _ _ _
 have hlo:=e0.size
 replace sep:=sep.none hlo;clear hlo
 refine cL (fun m a h'=>∃k:Nat,∃ad:Option Addr,∃cap:Nat,m=nch b.length - k∧(Ext h h')∧(Ktab h')∧(k≤nch b.length)∧(Own h' (.slice ad k cap) 39 k 32 (hcs (lch b k)))∧(Own h' (.slice va1 (nch b.length) vc2) 32 (nch b.length) 1 (sls dat3 b (nch b.length)))∧(Own h' (.slice dat3 b.length dc4) 5 b.length 1 (b.map bv))∧(Sep h.size h'.size [ad.map (·.block),va1.map (·.block),dat3.map (·.block)])∧(Fr a 20 [(3,.slice ad k cap),(7,.slice va1 (nch b.length) vc2),(8,.int .i64 ((nch b.length :Nat):Int)),(9,.int .i64 ((k:Nat):Int))])) (nch b.length - 0) ⟨0,none,0,rfl,e0,kt,(by omega),own_o,own_x,own_xd,sep,hF.to⟩ ?_
 clear hF a
 clear e0
 clear kt
 clear own_o
 clear own_x
 clear own_xd
 clear sep
 rintro m a h6 ⟨k,ad,cap,rfl,e0,kt,hk,own_o,own_x,own_xd,sep,hF⟩
 refine qP [(10,.bool (decide (((k:Nat):Int)<((nch b.length :Nat):Int))))] hF fun a hF=> ?_
 refine cS ?_
 refine cJ 10 hF (fun hc7=> ?_) fun hc7=> ?_
 ·skip
  have hkn:k<nch b.length :=by omega
  obtain⟨ax,rfl,_⟩:=own_x.someA (by omega)
  refine cN ?_
  refine tK ?_
  refine cS ?_
  refine cB 1 ?_
  refine qS hF ?_
  refine tI 0 ax (nch b.length) 1 k k ?_
  refine tC 1 (.slice (cad dat3 k) ((ck b k).length) ((ck b k).length)) (Calm.load (T:=32) (p:=(Addr.add ax k)) (by kernel_rfl) (Loads.one (k:=1) (by kernel_rfl) (sls_cell (i:=k) own_x rfl (by omega)))) ?_
  refine sT [(5,.slice (cad dat3 k) ((ck b k).length) ((ck b k).length))] fun a hF=> ?_
  refine rS hF ?_
  refine tG 2 (leaf_sat _ (ck b k) (cad dat3 k) ((ck b k).length) (ck_row own_xd.row hkn) (.inr fun k2 e=>csl_lt (b:=b) (i:=k) own_xd e) kt (by rw[ck_len];omega)) ?_
  rintro _ h9 ⟨rfl,g8⟩
  refine tF 3 (Does.newHs (L:=[leafH (ck b k)]) (t:=45) (E:=39) (by_:=32) (n:=1) (by kernel_rfl) (by kernel_rfl) (All32.cons (leaf_len _) All32.nil) rfl (by decide) (by decide)) ?_
  rintro _ h10 ⟨rfl,hh⟩
  have g11:Ext h9 h10:=push_ext hh
  have m12:h10[h9.size]? =some (.cells (hcs [leafH (ck b k)]).toArray 39):=push_at hh
  clear hh
  replace e0:=e0.ext g8
  have hlo:=e0.size
  replace sep:=sep.up g8.size
  have sepo:=sep
  replace sep:=sep.up g11.size
  replace sep:=sepo.new hlo (blk_lt m12)
  clear sepo hlo
  replace own_o:=(own_o.ext g8).ext g11
  refine tP 4 (k+1) 32 (hcs (lch b k++[leafH (ck b k)])) own_o (hrow1 (leaf_len _) m12) (ones_hcs _) (fun ad13 cap14 h15 own_o g16 hb17=> ?_) (ys:=(hcs ([leafH (ck b k)]))) (hZ:=by first|rfl|exact(hcs_append _ _).symm |simp[hcs_append])
  replace e0:=e0.ext g11
  have s18:=sep
  replace sep:=sep.sa g16 1 hb17 own_o e0.size;clear hb17
  refine sE [(3,.slice ad13 (k+1) cap14)] fun a hF=> ?_
  refine bK ?_
  refine tK ?_
  refine rS hF ?_
  refine tA 0 k 1 ?_
  refine sE [(9,nV (k+1))] fun a hF=> ?_
  rw[lch_next] at own_o
  clear m12
  replace kt:=((kt.ext g8).ext g11).grew g16 (s18.zero 1 rfl h0s)
  replace own_x:=((own_x.ext g8).ext g11).k g16 (s18.ap 2 1)
  replace own_xd:=((own_xd.ext g8).ext g11).k g16 (s18.ap 3 1)
  replace e0:=e0.grew g16 (s18.l 1)
  replace sep:=sep.sub (l':=[ad13.map (·.block),(some ax).map (·.block),dat3.map (·.block)]) (.cons _ (.cons_cons _ (.cons_cons _ (.cons_cons _ (.slnil)))))
  show ∃m',m'<_∧_
  refine⟨_,?_,(k+1),ad13,cap14,rfl,e0,kt,(by omega),own_o,own_x,own_xd,sep,hF.to⟩
  omega
 ·skip
  refine cX 0 (xT (xT (xB ?_)))
  refine tK ?_
  refine qP [(2,.slice ad k cap)] hF fun a hF=> ?_
  refine cR ?_
  refine rT 2 (.slice ad k cap) hF ?_
  obtain rfl:k=nch b.length :=by omega
  exact⟨ad,cap,by rw[lch_len],by rw[lch_len];exact own_o,sep.low 0 rfl,e0⟩
theorem leaves7_n(h:Heap)(b:List UInt8)(va:Option Addr)(vc:Nat)(hr:Row h (.slice va b.length vc) b.length 1 (b.map bv))(hbl:b.length ≤1099511627000)(kt:Ktab h)(H:List Hs)(hH:lch b (nch b.length)=H):Sat Tryz.prog 97 #[.slice va b.length vc] h fun v h'=>∃ad cap,v= .slice ad H.length cap∧Own h' (.slice ad H.length cap) 39 H.length 32 (hcs H)∧(∀k,ad.map (fun(x:Addr)=>x.block)=some k→h.size ≤k)∧Ext h h':=by
 have:=leaves7_sat h b va vc hr hbl kt
 unfold OwnNew at this
 rwa [hH] at this
end Go.Proofs.YtegkejcglfgpmaaGreatDoor
end
section
namespace Go.Proofs.YtegkejcglfgpmaaGreatDoor
open Go Go.Lane Go.Sha
noncomputable def b63:Code:=Tryz.f63.body.getD .skip
theorem root7_sat(h:Heap)(b:List UInt8)(va:Option Addr)(vc:Nat)(hr:Row h (.slice va b.length vc) b.length 1 (b.map bv))(hbl:b.length ≤1099511627000)(kt:Ktab h):Sat Tryz.prog 63 #[.slice va b.length vc] h fun v h'=>v=hv (root (lch b (nch b.length)))∧Ext h h':=by
 have e0:=Ext.refl h
 have h0s:=kt.lt
 have sep:Sep h.size h.size []:=Sep.nil _ _
 obtain⟨H,hH⟩:∃H,lch b (nch b.length)=H:=⟨_,rfl⟩
 have h32:All32 H:=hH▸lch_32 _ _
 have hHl:H.length =nch b.length :=by rw[←hH,lch_len]
 have hnl:=nch_le b.length
 refine sat_in Tryz.func63 6 fun a hF=> ?_
 refine qS hF ?_
 refine tN 0 (pV h.size) ((z32.map bv).toArray) 39 fun h1 g2 m3=> ?_
 replace sep:=sep.nw e0.size m3
 refine sT [(2,pV h.size)] fun a hF=> ?_
 refine qS hF ?_
 replace e0:=e0.ext g2
 replace kt:=kt.ext g2
 refine tG 1 (leaves7_n _ b _ _ (hr.ext e0) hbl kt H hH) ?_
 rintro _ h8 ⟨ad4,cap5,rfl,own_hl,hg7,g6⟩
 replace sep:=sep.co g6 hg7 own_hl e0.size
 replace kt:=kt.ext g6
 refine tG 2 (troot_sat _ H _ _ H.length (HR.of own_hl h32) kt (by omega)) ?_
 rintro _ h10 ⟨rfl,g9⟩
 replace m3:=(m3.x g6).x g9
 refine tF 3 (Does.store (b:=h.size) (off:=0) (vs:=(root H).map bv) (l:=z32.map bv) (storeOp_of (by kernel_rfl) (hlm (root_len h32))) m3 (hfit rfl (root_len h32)) (ones_map _)) ?_
 rintro _ h11 ⟨rfl,hh⟩
 have g12:Grew (some (h.size)) h10 h11:=hput_gr hh
 replace m3:h11[h.size]? =some (.cells ((root H).map bv).toArray 39):=hput_at (off:=0) (vs:=(root H).map bv) (l:=(z32.map bv)) hh (hsplice rfl (root_len h32)) m3
 clear hh
 refine sT [] fun a hF=> ?_
 refine cR ?_
 refine ret_ok [.cell 2 39] [.agg ((root H).map bv).toArray] (.agg ((root H).map bv).toArray) rfl hF ⟨⟨_,rfl,Loads.hash (by kernel_rfl) (root_len h32) m3⟩,trivial⟩ rfl ?_
 replace e0:=((e0.ext g6).ext g9).grew g12 (sep.l 1)
 exact⟨by rw[hH];rfl,e0⟩
end Go.Proofs.YtegkejcglfgpmaaGreatDoor
end
section
namespace Go.Sha
open Go Go.Lane
structure An where
  c:Int
  b:List UInt8
  sx:RB
  se:Int
  sh:Bool
  sg:Bool
  i:List ByteArray
  n:Int
  y:RB
  k:Int
  p:List (List UInt8)
def an0:An:=⟨0,[],rb0,0,false,false,[],0,rb0,0,[]⟩
def anC(c:Int):An:={an0 with c:=c}
@[reducible] def anv(A:An)(b i p:Value):Value:= .agg (asc A.c b A.sx A.se A.sh A.sg i A.n A.y A.k p).toArray
def AnsAt(h:Heap)(v:Value)(A:An):Prop:=∃ba bc ia ic pa pc,v=anv A (.slice ba A.b.length bc) (.slice ia A.i.length ic) (.slice pa A.p.length pc)∧
  RowE h (.slice ba A.b.length bc) A.b.length 1 (A.b.map bv)∧RowE h (.slice ia A.i.length ic) A.i.length 1 (A.i.map Value.string)∧RowE h (.slice pa A.p.length pc) A.p.length 32 (hcs A.p)∧All32 A.p
section
variable {h h':Heap} {v:Value} {A:An}
theorem ansC(h:Heap)(c:Int):AnsAt h (anv (anC c) (.slice none 0 0) (.slice none 0 0) (.slice none 0 0)) (anC c):=
  ⟨none,0,none,0,none,0,rfl,RowE.nil _ _,RowE.nil _ _,RowE.nil _ _,All32.nil⟩
end
def AF(a b c:Option Addr)(k:Nat):Prop:=a.map (fun(x:Addr)=>x.block)=some k∨b.map (fun(x:Addr)=>x.block)=some k∨c.map (fun(x:Addr)=>x.block)=some k
theorem AF.nil{k:Nat}(e:AF none none none k):False:=by rcases e with e|e|e<;>cases e
def AnsO(W:Nat→Prop)(lo:Nat)(h:Heap)(b p:Nat)(M:Md)(v:Value)(A:An):Prop:=∃ba bc ia ic pa pc,v=anv A (.slice ba A.b.length bc) (.slice ia A.i.length ic) (.slice pa A.p.length pc)∧
  Own h (.slice ba A.b.length bc) 5 A.b.length 1 (A.b.map bv)∧Own h (.slice ia A.i.length ic) 9 A.i.length 1 (A.i.map Value.string)∧Own h (.slice pa A.p.length pc) 39 A.p.length 32 (hcs A.p)∧All32 A.p ∧
  (∀k,AF ba ia pa k→lo≤k)∧ModW (fun k=>W k∨AF ba ia pa k) h b p M
section
variable {W:Nat→Prop} {lo:Nat} {h h' h0:Heap} {b p:Nat} {M:Md} {v:Value} {A:An}
theorem AnsO.at_(a:AnsO W lo h b p M v A):AnsAt h v A:=by
  obtain⟨ba,bc,ia,ic,pa,pc,e,r1,r2,r3,r4,_⟩:=a
  exact⟨ba,bc,ia,ic,pa,pc,e,RowE.of r1 (by decide),RowE.of r2 (by decide),RowE.of r3 (by decide),r4⟩
theorem AnsO.mod(a:AnsO W lo h b p M v A):ModW W h b p M:=by
  obtain⟨ba,bc,ia,ic,pa,pc,e,r1,r2,r3,r4,_,m⟩:=a
  exact m.less fun k hk=> .inl hk
theorem nilge{n:Nat}:∀k,(none:Option Addr).map (fun(x:Addr)=>x.block)=some k→n≤k:=fun k e=>by cases e
theorem ansO_mk{L:List Ent}{ck:Nat}{ea:Option Addr}{ec:Nat}{es:List Value}(md:ModA W h0 b p M L ck ea ec es)(e:Ext h0 h){ba ia pa:Option Addr}{bc ic pc:Nat}(hv:v=anv A (.slice ba A.b.length bc) (.slice ia A.i.length ic) (.slice pa A.p.length pc))(o1:Own h (.slice ba A.b.length bc) 5 A.b.length 1 (A.b.map bv))(g1:∀k,ba.map (fun(x:Addr)=>x.block)=some k→h0.size ≤k)
    (o2:Own h (.slice ia A.i.length ic) 9 A.i.length 1 (A.i.map Value.string)) (g2:∀k,ia.map (fun(x:Addr)=>x.block)=some k→h0.size ≤k) (o3:Own h (.slice pa A.p.length pc) 39 A.p.length 32 (hcs A.p)) (g3:∀k,pa.map (fun(x:Addr)=>x.block)=some k→h0.size ≤k) (h32:All32 A.p):
    AnsO W h0.size h b p M v A:=
  have hge:∀k,AF ba ia pa k→h0.size ≤k:=fun k e=>e.elim (g1 k) (Or.rec (g2 k) (g3 k))
  ⟨ba,bc,ia,ic,pa,pc,hv,o1,o2,o3,h32,hge,_,_,_,_,_,(md.more fun k=>Or.imp id (hge k)).ext e⟩
theorem ansO_w(m:ModW W h b p M)(c:Int):AnsO W lo h b p M (anv (anC c) (.slice none 0 0) (.slice none 0 0) (.slice none 0 0)) (anC c):=
  ⟨none,0,none,0,none,0,rfl,Own.nil _ _ _,Own.nil _ _ _,Own.nil _ _ _,All32.nil,fun _ e=>e.nil.elim,m.less fun _ e=>e.elim id fun e=>e.nil.elim⟩
theorem ansO_c{L:List Ent}{ck:Nat}{ea:Option Addr}{ec:Nat}{es:List Value}(md:ModA W h0 b p M L ck ea ec es)(e:Ext h0 h)(c:Int):AnsO W lo h b p M (anv (anC c) (.slice none 0 0) (.slice none 0 0) (.slice none 0 0)) (anC c):=ansO_w ⟨_,_,_,_,_,md.ext e⟩ c
theorem _root_.Go.Lane.Own.put1{c:Nat}{cs:Array Value}{E E2:TypeId}{fr:Nat×Nat}{n sz:Nat}{xs:List Value}(o:Own h v E n sz xs)(g:Grew (some c) h h')(m:h[c]? =some (.cells cs E2 fr))(hne:E≠E2):Own h' v E n sz xs:=by
  refine o.kept g ?_
  rcases o.2 with⟨rfl,_⟩|⟨k,off,cap,l,rfl,q,_⟩
  · exact .inl rfl
  · refine .inr fun e => ?_
    simp only[blkOf,Option.some.injEq] at e
    subst e
    rw[q] at m;cases m;exact hne rfl
end
end Go.Sha
namespace Go.Proofs.YtegkejcglfgpmaaGreatDoor
open Go Go.Lane Go.Sha
noncomputable def askM(M:Md)(kd:Int)(s:ByteArray):An:=
  if nameOk s=false then anC 210 else match M.f s with
    |none=>anC 211
    | some o => if kd = 3 then { an0 with sx := o.b, se := o.e, sh := o.ho, sg := o.go } else if kd = 16 then { an0 with c := (inclZ (ledH M.E) o.b.idx).2, k := o.b.idx, p := (inclZ (ledH M.E) o.b.idx).1 } else
      if o.go =true then anC 213 else if kd=2 then {an0 with b:=o.dt } else an0
section
variable {M:Md} {kd n:Int} {s:ByteArray} {b:List UInt8} {o:Ob}
theorem askM_id(h:nameOk s=false):askM M kd s=anC 210:=by unfold askM;rw[if_pos h]
theorem askM_none(h:nameOk s=true)(hf:M.f s=none):askM M kd s=anC 211:=by unfold askM;rw[if_neg (by rw[h];decide),hf]
theorem askM_stat(h:nameOk s=true)(hf:M.f s=some o)(k:kd=3):askM M kd s={an0 with sx:=o.b,se:=o.e,sh:=o.ho,sg:=o.go }:=by unfold askM;rw[if_neg (by rw[h];decide),hf];simp only[k,if_true]
theorem askM_prove(h:nameOk s=true)(hf:M.f s=some o)(k:kd=16){p:List (List UInt8)}{e:Int}(hz:inclZ (ledH M.E) o.b.idx =(p,e)):askM M kd s={an0 with c:=e,k:=o.b.idx,p:=p}:=by unfold askM;rw[if_neg (by rw[h];decide),hf];subst k;simp[hz]
theorem askM_gone(h:nameOk s=true)(hf:M.f s=some o)(k:kd≠3)(k2:kd≠16)(hg:o.go =true):askM M kd s=anC 213:=by unfold askM;rw[if_neg (by rw[h];decide),hf];simp only[k,k2,if_false,hg,if_true]
theorem askM_get(h:nameOk s=true)(hf:M.f s=some o)(k:kd=2)(hg:o.go =false):askM M kd s={an0 with b:=o.dt }:=by unfold askM;rw[if_neg (by rw[h];decide),hf];subst k;simp[hg]
theorem askM_else(h:nameOk s=true)(hf:M.f s=some o)(k:kd≠3)(k2:kd≠16)(k3:kd≠2)(hg:o.go =false):askM M kd s=an0:=by unfold askM;rw[if_neg (by rw[h];decide),hf];simp[k,k2,k3,hg]
end
noncomputable def step(M:Md)(kd n:Int)(s:ByteArray)(b:List UInt8):Md×An:=
  if kd=1 then ((putM M s b).1,anC (putM M s b).2) else if kd=4∨kd=5∨kd=6 then ((chg M kd n s).1,anC (chg M kd n s).2) else if kd=2∨kd=3∨kd=16∨kd=15 then (M,askM M kd s) else
    if kd=7 then (M,{an0 with i:=idsM M}) else if kd=8 then (M,{an0 with i:=dueM M}) else if kd=9 then (M,{an0 with n:=((M.E.length :Nat):Int),y:=rbh (root (ledH M.E))}) else
    if kd=10 then (⟨M.f,M.E,M.t +min (max 0 n) (1099511627776 - M.t)⟩,an0) else if kd=11∨kd=12∨kd=13∨kd=14 then (M,an0) else (M,anC 1)
section
variable {M:Md} {kd n:Int} {s:ByteArray} {b:List UInt8}
theorem step_put(k:kd=1):step M kd n s b=((putM M s b).1,anC (putM M s b).2):=by unfold step;rw[if_pos k]
theorem step_chg(k:kd=4∨kd=5∨kd=6):step M kd n s b=((chg M kd n s).1,anC (chg M kd n s).2):=by unfold step;rw[if_neg (by omega),if_pos k]
theorem step_ask(k:kd=2∨kd=3∨kd=16∨kd=15):step M kd n s b=(M,askM M kd s):=by unfold step;rw[if_neg (by omega),if_neg (by omega),if_pos k]
theorem step_ids(k:kd=7):step M kd n s b=(M,{an0 with i:=idsM M}):=by unfold step;rw[if_neg (by omega),if_neg (by omega),if_neg (by omega),if_pos k]
theorem step_due(k:kd=8):step M kd n s b=(M,{an0 with i:=dueM M}):=by unfold step;rw[if_neg (by omega),if_neg (by omega),if_neg (by omega),if_neg (by omega),if_pos k]
theorem step_head(k:kd=9):step M kd n s b=(M,{an0 with n:=((M.E.length :Nat):Int),y:=rbh (root (ledH M.E))}):=by unfold step;rw[if_neg (by omega),if_neg (by omega),if_neg (by omega),if_neg (by omega),if_neg (by omega),if_pos k]
theorem step_tick(k:kd=10):step M kd n s b=(⟨M.f,M.E,M.t +min (max 0 n) (1099511627776 - M.t)⟩,an0):=by unfold step;rw[if_neg (by omega),if_neg (by omega),if_neg (by omega),if_neg (by omega),if_neg (by omega),if_neg (by omega),if_pos k]
theorem step_still(k:kd=11∨kd=12∨kd=13∨kd=14):step M kd n s b=(M,an0):=by unfold step;rw[if_neg (by omega),if_neg (by omega),if_neg (by omega),if_neg (by omega),if_neg (by omega),if_neg (by omega),if_neg (by omega),if_pos k]
theorem step_no(h1:kd≠1)(h2:¬(kd=4∨kd=5∨kd=6))(h3:¬(kd=2∨kd=3∨kd=16∨kd=15))(h7:kd≠7)(h8:kd≠8)(h9:kd≠9)(h10:kd≠10)(h11:¬(kd=11∨kd=12∨kd=13∨kd=14)):step M kd n s b=(M,anC 1):=by
  unfold step;rw[if_neg h1,if_neg h2,if_neg h3,if_neg h7,if_neg h8,if_neg h9,if_neg h10,if_neg h11]
end
end Go.Proofs.YtegkejcglfgpmaaGreatDoor
end
section
namespace Go.Lane
open Go Go.Sha
section
variable {P:Program}
def FE(P:Program)(d:Nat)(xs ys:Array Value)(f:Field)(q:Bool):Prop:=∀w:World,∃a b,(part f.type xs f.offset).run P w= .ok a w∧(part f.type ys f.offset).run P w= .ok b w∧(Op.equalIn (d+1) f.type a b).run P w= .ok q w
theorem FE.bool{d:Nat}{xs ys:Array Value}{f:Field}{a b:Bool}(hu:P.underlying f.type =some .bool)(hx:xs[f.offset]? =some (.bool a))(hy:ys[f.offset]? =some (.bool b)):FE P d xs ys f (a==b):=fun w=>
  ⟨_,_,part_one hu rfl hx w,part_one hu rfl hy w,by simp[Op.equalIn,run_underlying hu]⟩
theorem FE.int{d:Nat}{xs ys:Array Value}{f:Field}{k k':IntKind}{a b:Int}(hu:P.underlying f.type =some (.int k'))(hx:xs[f.offset]? =some (.int k a))(hy:ys[f.offset]? =some (.int k b)):FE P d xs ys f (a==b):=fun w=>
  ⟨_,_,part_one hu rfl hx w,part_one hu rfl hy w,by simp[Op.equalIn,run_underlying hu]⟩
theorem FE.bytes{d n:Nat}{xs ys:Array Value}{f:Field}{e:TypeId}{inf inf2:TypeInfo}{l r:List UInt8}(hu:P.underlying f.type =some (.array n e))(he:P.underlying e=some (.int .u8))(hi:P.info? e=some inf)(hs:inf.size =1)(hi2:P.info? f.type =some inf2)(hs2:inf2.size =n)
    (hx:xs.extract f.offset (f.offset +n)=(l.map bv).toArray) (hy:ys.extract f.offset (f.offset +n)=(r.map bv).toArray) (hl:l.length =n) (hr:r.length =n):FE P (d+1) xs ys f (decide (l=r)):=fun w=>by
  have hp:∀zs:Array Value,(part f.type zs f.offset).run P w= .ok (.agg (zs.extract f.offset (f.offset +n))) w:=fun zs=>by
    unfold part
    simp[isAgg,run_underlying hu,sizeOf,typeInfo,program,Sem.run,hi2,hs2]
  exact⟨_,_,hp xs,hp ys,by rw[hx,hy];exact run_eq_bytes d hu he hi hs l r hl hr w⟩
inductive FEs(P:Program)(d:Nat)(xs ys:Array Value):List Field→List Bool→Prop
  |nil:FEs P d xs ys [] []
  |cons {f fs q qs} (h:FE P d xs ys f q) (hn:f.name ≠ "_") (t:FEs P d xs ys fs qs):FEs P d xs ys (f::fs) (q::qs)
theorem run_eq_struct{t:TypeId}{fs:Array Field}{d:Nat}{xs ys:Array Value}{qs:List Bool}(ht:P.underlying t=some (.struct fs))(hs:P.stoodInHeld t=false)(hq:FEs P d xs ys fs.toList qs)(w:World):
    (Op.equalIn (d+2) t (.agg xs) (.agg ys)).run P w= .ok (qs.all id) w:=by
  have hloop:∀(l:List Field) (qs:List Bool),FEs P d xs ys l qs→(forIn l ((none:Option Bool),()) fun f __s=>(do
            if f.name ≠ "_" then do
              let a←part f.type xs f.offset
              let b←part f.type ys f.offset
              let c←Op.equalIn (d+1) f.type a b
              if (!c)=true then pure (ForInStep.done (some false,())) else pure (ForInStep.yield (none,()))
            else pure (ForInStep.yield (none,())):Sem (ForInStep (Option Bool×Unit)))).run P w= .ok (if qs.all id=true then none else some false,()) w:=by
    intro l qs h
    induction h with
    |nil=>rfl
    | @cons f fs q qs h hn t ih =>
      obtain⟨a,b,e1,e2,e3⟩:=h w
      rw[List.forIn_cons]
      simp only[hn,if_true,Sem.run_bind,e1,e2,e3,Result.andThen_ok,ne_eq,not_false_eq_true]
      cases q with
      |true=>simp only[Bool.not_true,Bool.false_eq_true,if_false,Sem.run_pure,Result.andThen_ok,List.all_cons,id,Bool.true_and];exact ih
      |false=>simp
  unfold Op.equalIn
  simp only[Sem.run_bind,run_underlying ht,Result.andThen_ok,program,Sem.run,hs,Bool.false_eq_true,if_false, ←Array.forIn_toList]
  have:=hloop fs.toList qs hq
  first|rw[this]| (erw [this])
  cases qs.all id<;>simp
def eqtF (P : Program) (e : Operand → Value) (o : Oper) : Option (Bool × TypeId × Array Value × Array Value) :=
  match o.op with
  | .binOp op t x y _ => match e x, e y with
    | .agg a, .agg b => match P.eqGuardType P.depth t with
      | false => match op with
        | .eql =>some (true,t,a,b)
        | .neq =>some (false,t,a,b)
        |_=>none
      |true=>none
    |_,_=>none
  |_=>none
def eqtOp(P:Program)(ops:Array Oper)(base:Nat→Value)(vals:Vals)(i:Nat):=(opE ops base vals i).bind (eqtF P (env ops base vals i))
theorem Calm.eqR{ops:Array Oper}{base:Nat→Value}{vals:Vals}{i:Nat}{q r:Bool}{t:TypeId}{xs ys:Array Value}(hx:eqtOp P ops base vals i=some (q,t,xs,ys))(hr:∀w:World,(Op.equalIn 10000 t (.agg xs) (.agg ys)).run P w= .ok r w)(h:Heap):
    Calm P ops base vals i h (.bool (if q=true then r else !r)):=by
  refine does_split hx fun o ho w hw=> ?_
  have hrun:(execOp (env ops base vals i) o).run P w= .ok (.value (.bool (if q=true then r else !r))) w:=by
    unfold eqtF at ho
    cases hop:o.op with
    | binOp op t x y T' =>
      simp only[hop] at ho
      cases ha:env ops base vals i x<;>simp only[ha] at ho<;>first| (cases ho;done)|skip
      cases hb:env ops base vals i y<;>simp only[hb] at ho<;>first| (cases ho;done)|skip
      cases hg:P.eqGuardType P.depth t with
      |true=>simp[hg] at ho
      | false =>
        simp only[hg] at ho
        cases op<;>simp only[Option.some.injEq,Prod.mk.injEq] at ho<;>first| (cases ho;done)|skip
        · obtain ⟨rfl, rfl, h1, h2⟩ := ho
          subst h1;subst h2
          unfold execOp
          simp[hop,eqGuard,binOp,ha,hb,hg,Op.equal,Op.maxDepth,hr w,program,Sem.run]
        · obtain ⟨rfl, rfl, h1, h2⟩ := ho
          subst h1;subst h2
          unfold execOp
          simp[hop,eqGuard,binOp,ha,hb,hg,Op.equal,Op.maxDepth,hr w,program,Sem.run]
    |_=>simp[hop] at ho
  rw[hrun]
  exact⟨Same.refl w,rfl,hw⟩
end
end Go.Lane
namespace Go.Sha
open Go Go.Lane
def stEq(x:RB)(e:Int)(ho go:Bool)(x':RB)(e':Int)(ho' go':Bool):Bool:=[x.len ==x'.len,decide (hl x=hl x'),x.idx ==x'.idx,e==e',ho==ho',go==go'].all id
def hdEq(n:Int)(y:RB)(n':Int)(y':RB):Bool:=[n==n',decide (hl y=hl y')].all id
theorem stEq_self(x:RB)(e:Int)(ho go:Bool):stEq x e ho go x e ho go=true:=by simp[stEq]
theorem hdEq_self(n:Int)(y:RB):hdEq n y n y=true:=by simp[hdEq]
end Go.Sha
namespace Go.Proofs.YtegkejcglfgpmaaGreatDoor
open Go Go.Lane Go.Sha
theorem run_stEq(x:RB)(e:Int)(ho go:Bool)(x':RB)(e':Int)(ho' go':Bool)(w:World):(Op.equalIn 10000 41 (.agg (stc x e ho go).toArray) (.agg (stc x' e' ho' go').toArray)).run Tryz.prog w= .ok (stEq x e ho go x' e' ho' go') w:=by
  refine run_eq_struct (d:=9998) Tryz.underlying41 (by kernel_rfl) ?_ w
  refine .cons (.int (k':= .i64) (by kernel_rfl) rfl rfl) (by decide) ?_
  refine .cons (.bytes (d:=9997) (n:=32) (e:=5) (l:=hl x) (r:=hl x') (inf:=Tryz.t5) (inf2:=Tryz.t39) (by kernel_rfl) (by kernel_rfl) (by kernel_rfl) (by kernel_rfl) (by kernel_rfl) (by kernel_rfl) (by kernel_rfl) (by kernel_rfl) rfl rfl) (by decide) ?_
  refine .cons (.int (k':= .i64) (by kernel_rfl) rfl rfl) (by decide) ?_
  refine .cons (.int (k':= .i64) (by kernel_rfl) rfl rfl) (by decide) ?_
  refine .cons (.bool (by kernel_rfl) rfl rfl) (by decide) ?_
  refine .cons (.bool (by kernel_rfl) rfl rfl) (by decide) ?_
  exact .nil
theorem run_hdEq(n:Int)(y:RB)(n':Int)(y':RB)(w:World):(Op.equalIn 10000 44 (.agg (hdc n y).toArray) (.agg (hdc n' y').toArray)).run Tryz.prog w= .ok (hdEq n y n' y') w:=by
  refine run_eq_struct (d:=9998) Tryz.underlying44 (by kernel_rfl) ?_ w
  refine .cons (.int (k':= .i64) (by kernel_rfl) rfl rfl) (by decide) ?_
  refine .cons (.bytes (d:=9997) (n:=32) (e:=5) (l:=hl y) (r:=hl y') (inf:=Tryz.t5) (inf2:=Tryz.t39) (by kernel_rfl) (by kernel_rfl) (by kernel_rfl) (by kernel_rfl) (by kernel_rfl) (by kernel_rfl) (by kernel_rfl) (by kernel_rfl) rfl rfl) (by decide) ?_
  exact .nil
end Go.Proofs.YtegkejcglfgpmaaGreatDoor
namespace Go.Sha
open Go Go.Lane
/-! ### a clone -/
def pr(x:Ent):ByteArray×Value:=(x.1,x.2.1)
theorem ents_one{W:Nat→Prop}{es:List Value}{h:Heap}{E:List (List UInt8)}(en:EntsAt W h es E):∀u∈es,u.oneCell' =true:=fun u hu=>by
  obtain⟨i,hi,rfl⟩:=List.getElem_of_mem hu
  have hl:i<E.length :=by rw[←en.1];exact hi
  obtain⟨_,a,c,e,_⟩:=en.2 i _ (List.getElem?_eq_getElem hl)
  rw[List.getElem?_eq_getElem hi] at e
  rw[Option.some.inj e];rfl
theorem pr_mem{N D:List Ent}(h:N.map pr=D.map pr){x:Ent}(hx:x∈N):∃y∈D,y.1 =x.1 ∧y.2.1 =x.2.1 :=by
  have:pr x∈D.map pr:=h▸List.mem_map.2 ⟨x,hx,rfl⟩
  obtain⟨y,hy,e⟩:=List.mem_map.1 this
  simp only[pr,Prod.mk.injEq] at e
  exact⟨y,hy,e.1,e.2⟩
theorem pr_key{N D:List Ent}(h:N.map pr=D.map pr):N.map (fun x=>x.1)=D.map fun x=>x.1 :=by
  have e:∀l:List Ent,l.map (fun x=>x.1)=(l.map pr).map Prod.fst :=fun l=>by rw[List.map_map];rfl
  rw[e,e,h]
theorem pr_snoc{N D:List Ent}(h:N.map pr=D.map pr){x:Ent}{v:Value}(hv:x.2.1 =v)(k:Nat):(N++[(x.1,v,k)]).map pr=(D++[x]).map pr:=by
  rw[List.map_append,List.map_append,h];subst hv;rfl
theorem pr_new{N D R L:List Ent}{x:Ent}(h:N.map pr=D.map pr)(hp:(D++[x]++R).Perm L)(nd:(L.map fun x=>x.1).Nodup):∀y∈N,y.1 ≠x.1 :=fun y hy e=>by
  obtain⟨z,hz,e1,_⟩:=pr_mem h hy
  have hn:((D++[x]++R).map fun x=>x.1).Nodup :=(hp.map _).nodup_iff.2 nd
  rw[List.append_assoc,List.map_append,List.nodup_append] at hn
  exact hn.2.2 z.1 (List.mem_map.2 ⟨z,hz,rfl⟩) x.1 (by simp) (e1.trans e)
theorem _root_.Go.Lane.Born.nil :Born [] ([]:List Ent).length :=⟨by simp,by simp⟩
theorem _root_.Go.Lane.Born.one{N:List Ent}(b:Born N N.length)(s:ByteArray)(v:Value):Born (N++[(s,v,N.length)]) (N++[(s,v,N.length)]).length :=by
  rw[List.length_append,List.length_singleton];exact b.snoc s v
theorem ModA.cloned{W:Nat→Prop}{h h':Heap}{b p c q:Nat}{M:Md}{L N D:List Ent}{ck:Nat}{ea ca:Option Addr}{ec cc:Nat}{es:List Value}(m:ModA W h b p M L ck ea ec es)(e:Ext h h')(hc:h'[c]? =some (.cells #[.map (some q), .slice ca M.E.length cc, .int .i64 M.t] 83))(hq:h'[q]? =some (.map (ents N) N.length))
    (hN:N.map pr=D.map pr) (hP:D.Perm L) (bo:Born N N.length) (own:Own h' (.slice ca M.E.length cc) 32 M.E.length 1 es) (kc:h.size ≤c) (kq:h.size ≤q) (hW:∀k,W k→k<h.size) (hge:∀k,ca.map (fun(x:Addr)=>x.block)=some k→h.size ≤k):ModW W h' c q M:=
  have hl:N.length =L.length :=by have:=congrArg List.length hN;simp at this;rw[this,hP.length_eq]
  have kb:=m.kb
  have hb:=blk_lt m.hm
  ⟨N,N.length,ca,cc,es,
  { hm := hc
    hp:=hq
    bo:=bo
    nd:=by rw[pr_key hN];exact(hP.map _).nodup_iff.2 m.nd
    ob:=fun x hx=>by
      obtain⟨y,hy,e1,e2⟩:=pr_mem hN hx
      obtain⟨o,h1,h2⟩:=m.ob y (hP.mem_iff.1 hy)
      rw[e1] at h1 h2;rw[e2] at h2
      exact⟨o,h1,h2.ext e⟩
    al:=fun s o hs=>by
      obtain⟨y,hy,e1⟩:=m.al s o hs
      have:pr y∈N.map pr:=hN▸List.mem_map.2 ⟨y,hP.mem_iff.2 hy,rfl⟩
      obtain⟨x,hx,e2⟩:=List.mem_map.1 this
      simp only[pr,Prod.mk.injEq] at e2
      exact⟨x,hx,e2.1.trans e1⟩
    er:=RowW.new own (by decide) hW hge
    en:=m.en.ext e
    ln:=by rw[hl,m.ln]
    t0:=m.t0
    t1:=m.t1
    kb:=by omega
    kp:=by omega}⟩
end Go.Sha
end
section
namespace Go.Sha
open Go Go.Lane
/-! ### the judge -/
def ruleA(A B:An):Int:=
  if A.c ≠B.c then 1 else if A.b ≠B.b then 2 else if stEq A.sx A.se A.sh A.sg B.sx B.se B.sh B.sg =false then 3 else if A.i ≠B.i then 4 else if hdEq A.n A.y B.n B.y =false then 5 else if A.k ≠B.k ∨A.p ≠B.p then 6 else 0
section
variable {A B:An}
theorem rule1(h:A.c ≠B.c):ruleA A B=1:=by unfold ruleA;rw[if_pos h]
theorem rule2(h1:A.c =B.c)(h:A.b ≠B.b):ruleA A B=2:=by unfold ruleA;rw[if_neg (fun k=>k h1),if_pos h]
theorem rule3(h1:A.c =B.c)(h2:A.b =B.b)(h:stEq A.sx A.se A.sh A.sg B.sx B.se B.sh B.sg =false):ruleA A B=3:=by unfold ruleA;rw[if_neg (fun k=>k h1),if_neg (fun k=>k h2),if_pos h]
theorem rule4(h1:A.c =B.c)(h2:A.b =B.b)(h3:stEq A.sx A.se A.sh A.sg B.sx B.se B.sh B.sg =true)(h:A.i ≠B.i):ruleA A B=4:=by unfold ruleA;rw[if_neg (fun k=>k h1),if_neg (fun k=>k h2),if_neg (by rw[h3];decide),if_pos h]
theorem rule5(h1:A.c =B.c)(h2:A.b =B.b)(h3:stEq A.sx A.se A.sh A.sg B.sx B.se B.sh B.sg =true)(h4:A.i =B.i)(h:hdEq A.n A.y B.n B.y =false):ruleA A B=5:=by unfold ruleA;rw[if_neg (fun k=>k h1),if_neg (fun k=>k h2),if_neg (by rw[h3];decide),if_neg (fun k=>k h4),if_pos h]
theorem rule6(h1:A.c =B.c)(h2:A.b =B.b)(h3:stEq A.sx A.se A.sh A.sg B.sx B.se B.sh B.sg =true)(h4:A.i =B.i)(h5:hdEq A.n A.y B.n B.y =true)(h:A.k ≠B.k ∨A.p ≠B.p):ruleA A B=6:=by
  unfold ruleA;rw[if_neg (fun k=>k h1),if_neg (fun k=>k h2),if_neg (by rw[h3];decide),if_neg (fun k=>k h4),if_neg (by rw[h5];decide),if_pos h]
theorem rule0(h1:A.c =B.c)(h2:A.b =B.b)(h3:stEq A.sx A.se A.sh A.sg B.sx B.se B.sh B.sg =true)(h4:A.i =B.i)(h5:hdEq A.n A.y B.n B.y =true)(h6:A.k =B.k)(h7:A.p =B.p):ruleA A B=0:=by
  unfold ruleA;rw[if_neg (fun k=>k h1),if_neg (fun k=>k h2),if_neg (by rw[h3];decide),if_neg (fun k=>k h4),if_neg (by rw[h5];decide),if_neg (by rintro(k|k);exact k h6;exact k h7)]
end
/-! strings, lists -/
theorem str_beq(s t:ByteArray):(s.toList ==t.toList)=decide (s=t):=by
  by_cases e:s=t
  · subst e;simp
  · rw [decide_eq_false e]
    cases h:(s.toList ==t.toList) with
    |false=>rfl
    | true =>
      exfalso
      have h1:=eq_of_beq h
      rw[Lib.toList_data,Lib.toList_data] at h1
      apply e
      cases s;cases t
      simp only[ByteArray.mk.injEq]
      rename_i a b
      rw[←Array.toArray_toList (xs:=a), ←Array.toArray_toList (xs:=b)]
      exact congrArg List.toArray h1
theorem mk_inj{a b:List UInt8}:(ByteArray.mk a.toArray =ByteArray.mk b.toArray)↔a=b:=by
  constructor
  · intro h;simpa using h
  · intro h;rw[h]
theorem str_beqM(a b:List UInt8):((ByteArray.mk a.toArray).toList ==(ByteArray.mk b.toArray).toList)=decide (a=b):=by
  rw[str_beq];exact decide_eq_decide.2 mk_inj
theorem take_eqD{α:Type}[Inhabited α]{l r:List α}{k:Nat}{d:α}(h:l.take k=r.take k)(hl:k<l.length)(hr:k<r.length)(e:l.getD k d=r.getD k d):l.take (k+1)=r.take (k+1):=by
  rw[List.take_succ_eq_append_getElem hl,List.take_succ_eq_append_getElem hr,h]
  have:l[k]=r[k]:=by simpa[List.getD,hl,hr] using e
  rw[this]
theorem ne_of_getD{α:Type}{l r:List α}{k:Nat}{d:α}(e:l.getD k d≠r.getD k d):l≠r:=fun h=>e (by rw[h])
/-! ### candidates -/
structure CA(h:Heap)(bs:List (Nat×Nat))(Ms:List Md):Prop where
  len:bs.length =Ms.length
  at_:∀(i:Nat) (x:Nat×Nat) (M:Md),bs[i]? =some x→Ms[i]? =some M→Mod h x.1 x.2 M
  nb:(bs.map fun x=>x.1).Nodup
  np:(bs.map fun x=>x.2).Nodup
theorem nd_ne{α β:Type}{l:List α}{f:α→β}(h:(l.map f).Nodup){i j:Nat}{x y:α}(hi:l[i]? =some x)(hj:l[j]? =some y)(hne:i≠j):f x≠f y:=fun e=>by
  have hi':(l.map f)[i]? =some (f x):=by rw[List.getElem?_map,hi];rfl
  have hj':(l.map f)[j]? =some (f x):=by rw[List.getElem?_map,hj,e];rfl
  obtain⟨h1,h2⟩:=List.getElem?_eq_some_iff.1 hi'
  obtain⟨h3,h4⟩:=List.getElem?_eq_some_iff.1 hj'
  have hp:=List.pairwise_iff_getElem.1 h
  rcases Nat.lt_or_gt_of_ne hne with k|k
  · exact hp i j h1 h3 k (h2.trans h4.symm)
  · exact hp j i h3 h1 k (h4.trans h2.symm)
section
variable {h h':Heap} {bs:List (Nat×Nat)} {Ms:List Md}
theorem Mod.kb{b p:Nat}{M:Md}(m:Mod h b p M):b<h.size ∧p<h.size :=by obtain⟨_,_,_,_,_,m⟩:=m;exact⟨blk_lt m.hm,blk_lt m.hp⟩
theorem CA.ext(c:CA h bs Ms)(g:Ext h h'):CA h' bs Ms:=⟨c.len,fun i x M h1 h2=>(c.at_ i x M h1 h2).ext g,c.nb,c.np⟩
theorem CA.fr{F:Nat→Prop}(c:CA h bs Ms)(g:Gr F h h')(hF:∀k,F k→NonRow h k)(h1:∀x∈bs,¬F x.1 ∧¬F x.2):CA h' bs Ms:=
  ⟨c.len,fun i x M e1 e2=>(c.at_ i x M e1 e2).fr g hF (h1 x (List.mem_of_getElem? e1)).1 (h1 x (List.mem_of_getElem? e1)).2,c.nb,c.np⟩
theorem CA.set{i:Nat}{x:Nat×Nat}{M M':Md}(c:CA h bs Ms)(hx:bs[i]? =some x)(hM:Ms[i]? =some M)(g:MG x.1 x.2 h h')(m':Mod h' x.1 x.2 M'):CA h' bs (Ms.set i M'):=by
  refine⟨by rw[List.length_set];exact c.len,fun j y N h1 h2=> ?_,c.nb,c.np⟩
  by_cases e:j=i
  · subst e
    rw[hx] at h1;cases h1
    have hl:=(List.getElem?_eq_some_iff.1 hM).1
    rw[List.getElem?_set_self hl] at h2;cases h2
    exact m'
  · rw [List.getElem?_set_ne (Ne.symm e)] at h2
    exact(c.at_ j y N h1 h2).other (c.at_ i x M hx hM) g (nd_ne c.nb h1 hx e) (nd_ne c.np h1 hx e)
end
theorem cur_set{α:Type}(f:α→α){l:List α}{i:Nat}{x:α}(h:l[i]? =some x):((l.take i).map f++l.drop i).set i (f x)=(l.take (i+1)).map f++l.drop (i+1):=by
  obtain⟨hi,rfl⟩:=List.getElem?_eq_some_iff.1 h
  have hl:((l.take i).map f).length =i:=by rw[List.length_map,List.length_take];omega
  rw[List.set_append_right _ _ (by omega),hl,Nat.sub_self,List.drop_eq_getElem_cons hi,List.set_cons_zero,List.take_succ_eq_append_getElem hi,List.map_append]
  simp
theorem cur_at{α:Type}(f:α→α){l:List α}{i:Nat}{x:α}(h:l[i]? =some x):((l.take i).map f++l.drop i)[i]? =some x:=by
  obtain⟨hi,rfl⟩:=List.getElem?_eq_some_iff.1 h
  have hl:((l.take i).map f).length =i:=by rw[List.length_map,List.length_take];omega
  rw[List.getElem?_append_right (by omega),hl,Nat.sub_self,List.getElem?_drop,Nat.add_zero];exact h
@[reducible] def mpt(x:Nat×Nat):Value:= .pointer (some ⟨x.1,0,none⟩)
structure Jd where
  c:List Md
  off:Bool
  burns:Bool
  rot:Bool
  gave:Bool
def RowP(h:Heap)(v:Value)(n:Nat)(xs:List Value):Prop:=Row h v n 1 xs∧(n=0∨∃k cs fr,blkOf v=some k∧h[k]? =some (.cells cs 55 fr))
def NonP(h:Heap)(k:Nat):Prop:=∀cs fr,h[k]? ≠some (.cells cs 55 fr)
theorem RowP.fr{h h':Heap}{v:Value}{n:Nat}{xs:List Value}{F:Nat→Prop}(r:RowP h v n xs)(g:Gr F h h')(hF:∀k,F k→NonP h k):RowP h' v n xs:=by
  rcases r.2 with h0|⟨k,ds,fr',e,m⟩
  · exact⟨r.1.zero h0, .inl h0⟩
  · have nk : ¬ F k := fun hk => hF k hk _ _ m
    have m':h'[k]? =some (.cells ds 55 fr'):=by rw[g.2 k (blk_lt m) nk];exact m
    refine⟨⟨r.1.1,r.1.2.imp id ?_⟩, .inr ⟨k,ds,fr',e,m'⟩⟩
    rintro⟨a,cap,rfl,hc,hx⟩
    simp only[blkOf,Option.some.injEq] at e
    subst e
    refine⟨a,cap,rfl,hc,fun j u hu=> ?_⟩
    rw[hcell_congr (h:=h) (h':=h') (p:=a.add j) (by rw[add_block,m',m])]
    exact hx j u hu
theorem RowP.of{h:Heap}{v:Value}{n:Nat}{xs:List Value}(o:Own h v 55 n 1 xs):RowP h v n xs:=by
  refine⟨o.row, ?_⟩
  rcases o.2 with⟨rfl,h0⟩|⟨g,off,cap,l,rfl,m,_⟩
  · exact .inl h0
  · exact .inr ⟨g,l,(0,0),rfl,m⟩
theorem RowP.ext{h h':Heap}{v:Value}{n:Nat}{xs:List Value}(r:RowP h v n xs)(g:Ext h h'):RowP h' v n xs:=r.fr (F:=fun _=>False) ⟨g.1,fun k hk _=>g.2 k hk (by simp)⟩ (fun _ h=>h.elim)
structure JA(h:Heap)(jb:Nat)(bs:List (Nat×Nat))(J:Jd)(ca:Option Addr)(cc:Nat):Prop where
  hj:h[jb]? =some (.cells #[.slice ca bs.length cc, .bool J.off, .bool J.burns, .bool J.rot, .bool J.gave] 77)
  row:RowP h (.slice ca bs.length cc) bs.length (bs.map mpt)
  cs:CA h bs J.c
def JF(jb:Nat)(bs:List (Nat×Nat))(k:Nat):Prop:=k=jb∨∃x∈bs,k=x.1 ∨k=x.2
def hdF(f:Md→Md×Int):List Md→Int
  |[]=>0
  |M::_=>(f M).2
def holdJ(J:Jd)(f:Md→Md×Int):Jd×Int:=
  if (J.c.map f).filter (fun y=>decide (y.2 =0))=[] then ({J with c:=J.c.map fun M=>(f M).1 },hdF f J.c)
  else ({J with c:=((J.c.map f).filter fun y=>decide (y.2 =0)).map fun y=>y.1 },0)
def fitB(f:Md→Md×Int)(bs:List (Nat×Nat))(Ms:List Md)(i:Nat):List (Nat×Nat):=(((bs.zip Ms).take i).filter fun z=>decide ((f z.2).2 =0)).map fun z=>z.1
section
variable {f:Md→Md×Int} {bs:List (Nat×Nat)} {Ms:List Md} {i:Nat} {x:Nat×Nat} {M:Md}
theorem zip_at(hx:bs[i]? =some x)(hM:Ms[i]? =some M):(bs.zip Ms)[i]? =some (x,M):=by
  rw[List.getElem?_zip_eq_some];exact⟨hx,hM⟩
theorem fitB_yes(hx:bs[i]? =some x)(hM:Ms[i]? =some M)(h:(f M).2 =0):fitB f bs Ms (i+1)=fitB f bs Ms i++[x]:=by
  unfold fitB;rw[List.take_add_one,zip_at hx hM,List.filter_append,List.map_append];simp[h]
theorem fitB_no(hx:bs[i]? =some x)(hM:Ms[i]? =some M)(h:(f M).2 ≠0):fitB f bs Ms (i+1)=fitB f bs Ms i:=by
  unfold fitB;rw[List.take_add_one,zip_at hx hM,List.filter_append,List.map_append];simp[h]
theorem fitB_le:(fitB f bs Ms i).length ≤i:=by
  unfold fitB;rw[List.length_map];exact Nat.le_trans (List.length_filter_le _ _) (by rw[List.length_take];omega)
theorem fitB_sub:∀y∈fitB f bs Ms i,y∈bs:=fun y hy=>by
  unfold fitB at hy
  obtain⟨z,hz,rfl⟩:=List.mem_map.1 hy
  exact(List.of_mem_zip (List.mem_of_mem_take (List.mem_filter.1 hz).1)).1
theorem fit_snd(hl:bs.length =Ms.length):(((bs.zip Ms).filter fun z=>decide ((f z.2).2 =0)).map fun z=>(f z.2).1)=((Ms.map f).filter fun y=>decide (y.2 =0)).map fun y=>y.1 :=by
  have e:Ms=(bs.zip Ms).map Prod.snd :=(List.map_snd_zip (by omega)).symm
  conv=>rhs;rw[e]
  rw[List.map_map,List.filter_map,List.map_map]
  rfl
theorem CA.fit{h:Heap}(c:CA h bs (Ms.map fun M=>(f M).1))(hl:bs.length =Ms.length):CA h (fitB f bs Ms bs.length) (((Ms.map f).filter fun y=>decide (y.2 =0)).map fun y=>y.1):=by
  have hz:(bs.zip Ms).take bs.length =bs.zip Ms:=List.take_of_length_le (by rw[List.length_zip];omega)
  have hsub:∀g:Nat×Nat→Nat,((fitB f bs Ms bs.length).map g).Sublist (bs.map g):=fun g=>by
    unfold fitB;rw[hz]
    refine List.Sublist.map _ ?_
    have:=(List.filter_sublist (p:=fun z:(Nat×Nat)×Md=>decide ((f z.2).2 =0)) (l:=bs.zip Ms)).map Prod.fst
    rwa [List.map_fst_zip (by omega)] at this
  refine⟨?_,fun i x M h1 h2=> ?_,List.Nodup.sublist (hsub _) c.nb,List.Nodup.sublist (hsub _) c.np⟩
  · rw[←fit_snd hl];unfold fitB;rw[hz,List.length_map,List.length_map]
  · rw [← fit_snd hl] at h2
    unfold fitB at h1
    rw[hz] at h1
    rw[List.getElem?_map] at h1 h2
    cases hq:((bs.zip Ms).filter fun z=>decide ((f z.2).2 =0))[i]? with
    |none=>rw[hq] at h1;cases h1
    | some z =>
      rw[hq] at h1 h2
      simp only[Option.map_some,Option.some.injEq] at h1 h2
      subst h1;subst h2
      obtain⟨j,hj⟩:=List.getElem?_of_mem (List.mem_filter.1 (List.mem_of_getElem? hq)).1
      rw[List.getElem?_zip_eq_some] at hj
      exact c.at_ j z.1 (f z.2).1 hj.1 (by rw[List.getElem?_map,hj.2];rfl)
theorem fit_nil(hl:bs.length =Ms.length)(h:(fitB f bs Ms bs.length).length =0):(Ms.map f).filter (fun y=>decide (y.2 =0))=[]:=by
  have e:=List.eq_nil_of_length_eq_zero h
  have hz:(bs.zip Ms).take bs.length =bs.zip Ms:=List.take_of_length_le (by rw[List.length_zip];omega)
  unfold fitB at e
  rw[hz,List.map_eq_nil_iff] at e
  have:=fit_snd (f:=f) hl
  rw[e] at this
  exact List.map_eq_nil_iff.1 this.symm
theorem fit_ne(hl:bs.length =Ms.length)(h:(fitB f bs Ms bs.length).length ≠0):(Ms.map f).filter (fun y=>decide (y.2 =0))≠[]:=fun e=>by
  apply h
  have hz:(bs.zip Ms).take bs.length =bs.zip Ms:=List.take_of_length_le (by rw[List.length_zip];omega)
  have:=fit_snd (f:=f) hl
  rw[e,List.map_nil,List.map_eq_nil_iff] at this
  unfold fitB;rw[hz,this];rfl
end
def kindC(kd:Int):Bool×Bool:=if kd=1∨kd=4∨kd=5∨kd=6 then (true,true) else if kd=2∨kd=3∨kd=7∨kd=8∨kd=9∨kd=11∨kd=15∨kd=16 then (true,false) else (false,false)
theorem kind_tt{kd:Int}(h:kd=1∨kd=4∨kd=5∨kd=6):kindC kd=(true,true):=by unfold kindC;rw[if_pos h]
theorem kind_tf{kd:Int}(h:¬(kd=1∨kd=4∨kd=5∨kd=6))(k:kd=2∨kd=3∨kd=7∨kd=8∨kd=9∨kd=11∨kd=15∨kd=16):kindC kd=(true,false):=by unfold kindC;rw[if_neg h,if_pos k]
theorem kind_ff{kd:Int}(h:¬(kd=1∨kd=4∨kd=5∨kd=6))(k:¬(kd=2∨kd=3∨kd=7∨kd=8∨kd=9∨kd=11∨kd=15∨kd=16)):kindC kd=(false,false):=by unfold kindC;rw[if_neg h,if_neg k]
theorem RowE.mgM{h h':Heap}{b p:Nat}{M:Md}{v:Value}{n sz:Nat}{xs:List Value}(r:RowE h v n sz xs)(g:MG b p h h')(m:Mod h b p M):RowE h' v n sz xs:=by
  obtain⟨_,_,_,_,_,m⟩:=m;exact r.mg g m.hm m.hp
end Go.Sha
namespace Go.Sha
open Go Go.Lane
theorem Gr.thenF{F G:Nat→Prop}{a b c:Heap}(k:Gr F a b)(g:Gr G b c)(hG:∀i,G i→F i∨a.size ≤i):Gr F a c:=
  ⟨Nat.le_trans k.1 g.1,fun i hi hn=>(g.2 i (Nat.lt_of_lt_of_le hi k.1) (fun hg=>by rcases hG i hg with h|h;exact hn h;omega)).trans (k.2 i hi hn)⟩
theorem Gr.thenO{F:Nat→Prop}{a b c:Heap}{o:Option Nat}(k:Gr F a b)(g:Grew o b c)(ho:∀i,o=some i→F i∨a.size ≤i):Gr F a c:=
  ⟨Nat.le_trans k.1 g.1,fun i hi hn=>(g.2 i (Nat.lt_of_lt_of_le hi k.1) (fun e=>by rcases ho i e.symm with h|h;exact hn h;omega)).trans (k.2 i hi hn)⟩
theorem Gr.start(F:Nat→Prop)(h:Heap):Gr F h h:=⟨Nat.le_refl _,fun _ _ _=>rfl⟩
theorem Mod.k1{h:Heap}{b p:Nat}{M:Md}(m:Mod h b p M):0<b∧0<p:=by obtain⟨_,_,_,_,_,m⟩:=m;exact⟨m.kb,m.kp⟩
theorem Mod.ne2{h:Heap}{b p j:Nat}{M:Md}{cs:Array Value}{E:TypeId}{fr:Nat×Nat}(m:Mod h b p M)(hj:h[j]? =some (.cells cs E fr))(hE:E≠83):j≠b∧j≠p:=by
  obtain⟨_,_,_,_,_,m⟩:=m
  refine⟨?_, ?_⟩
  · rintro rfl;rw[m.hm] at hj;cases hj;exact hE rfl
  · rintro rfl;rw[m.hp] at hj;cases hj
def fstJ(f:Md→Md×Int)(Ms:List Md)(k:Nat):Int:=if k=0 then 0 else hdF f Ms
theorem fst_zero{f:Md→Md×Int}{Ms:List Md}{k:Nat}{M:Md}(hk:k=0)(hM:Ms[k]? =some M):fstJ f Ms (k+1)=(f M).2 :=by
  subst hk
  cases Ms with
  |nil=>simp at hM
  |cons N L=>simp at hM;subst hM;rfl
theorem fst_more(f:Md→Md×Int)(Ms:List Md){k:Nat}(hk:k≠0):fstJ f Ms (k+1)=fstJ f Ms k:=by
  obtain⟨j,rfl⟩:∃j,k=j+1:=⟨k - 1,by omega⟩
  rfl
theorem fst_end{f:Md→Md×Int}{Ms:List Md}{k:Nat}(hk:k=Ms.length):fstJ f Ms k=hdF f Ms:=by
  subst hk;cases Ms<;>rfl
theorem cur_end{α:Type}(f:α→α)(l:List α){k:Nat}(hk:k=l.length):(l.take k).map f++l.drop k=l.map f:=by subst hk;simp
theorem hold_no{J:Jd}{f:Md→Md×Int}(h:(J.c.map f).filter (fun y=>decide (y.2 =0))=[]):holdJ J f=({J with c:=J.c.map fun M=>(f M).1 },hdF f J.c):=by unfold holdJ;rw[if_pos h]
theorem hold_yes{J:Jd}{f:Md→Md×Int}(h:(J.c.map f).filter (fun y=>decide (y.2 =0))≠[]):holdJ J f=({J with c:=((J.c.map f).filter fun y=>decide (y.2 =0)).map fun y=>y.1 },0):=by unfold holdJ;rw[if_neg h]
end Go.Sha
namespace Go.Proofs.YtegkejcglfgpmaaGreatDoor
open Go Go.Lane Go.Sha
theorem enum_len{M:Md}{K K':List Rec}(E:EnumR M K)(F:EnumR M K'):K.length =K'.length :=by
  have hp:(K.map fun r=>r.b.id).Perm (K'.map fun r=>r.b.id):=(List.perm_ext_iff_of_nodup E.nd F.nd).2 fun s=>by
    simp only[List.mem_map]
    constructor
    · rintro⟨r,hr,rfl⟩;obtain⟨o,h1,_⟩:=E.at_ r hr;obtain⟨r',k1,k2⟩:=F.al _ o h1;exact⟨r',k1,k2⟩
    · rintro⟨r,hr,rfl⟩;obtain⟨o,h1,_⟩:=F.at_ r hr;obtain⟨r',k1,k2⟩:=E.al _ o h1;exact⟨r',k1,k2⟩
  simpa using hp.length_eq
theorem ids_bnd{h:Heap}{b p:Nat}{M:Md}(m:Mod h b p M):(idsM M).length ≤M.E.length ∧(dueM M).length ≤M.E.length :=by
  obtain⟨L,ck,ea,ec,es,md⟩:=m
  obtain⟨g,hg⟩:=md.choose
  have hen:=md.enum hg (List.Perm.refl L)
  have hK:(L.map (rcG g)).length =M.E.length :=by rw[List.length_map,md.ln]
  constructor
  · rw[idsM_eq hen];unfold srt;rw[List.length_mergeSort, ←hK];exact live_le _
  · unfold dueM
    split
    · rename_i hh
      obtain⟨K,S,E',h',s',e⟩:=Classical.choose_spec hh
      rw[e, ←hK,enum_len hen E']
      unfold ids;rw[List.length_map,h'.length_eq];exact List.length_filter_le _ _
    · simp
theorem step_bnd{h:Heap}{b p:Nat}{M:Md}(m:Mod h b p M)(kd n:Int)(s:ByteArray)(l:List UInt8):(step M kd n s l).2.i.length ≤M.E.length ∧(step M kd n s l).2.p.length ≤M.E.length :=by
  have hb:=ids_bnd m
  have z0:(0:Nat)≤M.E.length :=Nat.zero_le _
  unfold step
  split
  · exact⟨z0,z0⟩
  split
  · exact⟨z0,z0⟩
  split
  · show (askM M kd s).i.length ≤ _ ∧ (askM M kd s).p.length ≤ _
    unfold askM
    split
    · exact⟨z0,z0⟩
    split
    · exact⟨z0,z0⟩
    split
    · exact⟨z0,z0⟩
    split
    · refine ⟨z0, ?_⟩
      have:=inclZ_len (ledH M.E) (by assumption:Ob).b.idx
      exact Nat.le_trans this (by unfold ledH;rw[List.length_map];exact Nat.le_refl _)
    split
    · exact⟨z0,z0⟩
    split<;>exact⟨z0,z0⟩
  split
  · exact⟨hb.1,z0⟩
  split
  · exact⟨hb.2,z0⟩
  split
  · exact⟨z0,z0⟩
  split
  · exact⟨z0,z0⟩
  split<;>exact⟨z0,z0⟩
theorem step_E(M:Md)(kd n:Int)(s:ByteArray)(l:List UInt8):(step M kd n s l).1.E.length ≤M.E.length +1:=by
  have h1:(putM M s l).1.E.length ≤M.E.length +1:=by
    unfold putM
    split
    · exact Nat.le_succ _
    split
    · exact Nat.le_succ _
    split
    · exact Nat.le_succ _
    · simp
  have h2:(chg M kd n s).1.E.length ≤M.E.length +1:=by
    unfold chg
    split
    · exact Nat.le_succ _
    split
    · exact Nat.le_succ _
    split
    · exact Nat.le_succ _
    split<;>exact Nat.le_succ _
  unfold step
  split
  · exact h1
  split
  · exact h2
  split
  · show M.E.length ≤_;omega
  split
  · show M.E.length ≤_;omega
  split
  · show M.E.length ≤_;omega
  split
  · show M.E.length ≤_;omega
  split
  · show M.E.length ≤_;omega
  split<;>(show M.E.length ≤_;omega)
noncomputable def fitF(kd n:Int)(s:ByteArray)(l:List UInt8)(X:An)(M:Md):Md×Int:=((step M kd n s l).1,ruleA (step M kd n s l).2 X)
end Go.Proofs.YtegkejcglfgpmaaGreatDoor
namespace Go.Sha
open Go Go.Lane
theorem CA.nej{h:Heap}{bs:List (Nat×Nat)}{Ms:List Md}{j:Nat}{cs:Array Value}{E:TypeId}{fr:Nat×Nat}(c:CA h bs Ms)(hj:h[j]? =some (.cells cs E fr))(hE:E≠83):∀x∈bs,j≠x.1 ∧j≠x.2 :=fun x hx=>by
  obtain⟨i,hi⟩:=List.getElem?_of_mem hx
  have hl:=(List.getElem?_eq_some_iff.1 hi).1
  rw[c.len] at hl
  exact(c.at_ i x _ hi (List.getElem?_eq_getElem hl)).ne2 hj hE
theorem CA.nonrow{h:Heap}{bs:List (Nat×Nat)}{Ms:List Md}{j:Nat}{cs:Array Value}{E:TypeId}{fr:Nat×Nat}(c:CA h bs Ms)(hj:h[j]? =some (.cells cs E fr))(hE:Eok E=false)(hP:E≠55):∀k,JF j bs k→NonRow h k∧NonP h k:=fun k hk=>by
  rcases hk with rfl|⟨x,hx,e⟩
  · exact⟨NonRow.cells hj hE,fun cs fr e=>by rw[hj] at e;cases e;exact hP rfl⟩
  · obtain ⟨i, hi⟩ := List.getElem?_of_mem hx
    have hl:=(List.getElem?_eq_some_iff.1 hi).1
    rw[c.len] at hl
    obtain⟨_,_,_,_,_,m⟩:=c.at_ i x _ hi (List.getElem?_eq_getElem hl)
    rcases e with rfl|rfl
    · exact⟨NonRow.cells m.hm (by decide),fun cs fr e=>by rw[m.hm] at e;cases e⟩
    · exact⟨NonRow.map m.hp,fun cs fr e=>by rw[m.hp] at e;cases e⟩
theorem CA.ownO{h h':Heap}{bs:List (Nat×Nat)}{Ms:List Md}{o:Option Nat}{v:Value}{E:TypeId}{n sz:Nat}{xs:List Value}(c:CA h bs Ms)(g:Grew o h h')(w:Own h v E n sz xs)(ho:blkOf v=o)(hE:Eok E=false)(hM:E≠83):CA h' bs Ms:=by
  subst ho
  rcases w.2 with⟨rfl,_⟩|⟨k,off,cap,l,rfl,m,_⟩
  · exact c.ext g
  · refine c.fr (F := fun i => i = k) ⟨g.1, fun i hi hn => g.2 i hi (fun e => hn (Option.some.inj e))⟩ (by rintro i rfl; exact NonRow.cells m hE) fun x hx => ?_
    have:=c.nej m hM x hx
    exact⟨fun e=>this.1 e.symm,fun e=>this.2 e.symm⟩
end Go.Sha
namespace Go.Sha
open Go Go.Lane
theorem Mod.ownG{h h':Heap}{b p:Nat}{M:Md}{o:Option Nat}{v:Value}{E:TypeId}{n sz:Nat}{xs:List Value}(m:Mod h b p M)(g:Grew o h h')(w:Own h v E n sz xs)(ho:blkOf v=o)(hE:Eok E=false)(hM:E≠83):Mod h' b p M:=by
  subst ho
  rcases w.2 with⟨rfl,_⟩|⟨k,off,cap,l,rfl,q,_⟩
  · exact m.ext g
  · have := m.ne2 q hM
    exact m.fr (F:=fun i=>i=k) ⟨g.1,fun i hi hn=>g.2 i hi (fun e=>hn (Option.some.inj e))⟩ (by rintro i rfl;exact NonRow.cells q hE) (fun e=>this.1 e.symm) (fun e=>this.2 e.symm)
theorem CA.two{h:Heap}{x y:Nat×Nat}{M N:Md}(m:Mod h x.1 x.2 M)(n:Mod h y.1 y.2 N)(h1:x.1 ≠y.1)(h2:x.2 ≠y.2):CA h [x,y] [M,N]:=by
  refine⟨rfl,fun i z K e1 e2=> ?_,by simp[h1],by simp[h2]⟩
  match i,e1,e2 with
  |0,e1,e2=>cases e1;cases e2;exact m
  |1,e1,e2=>cases e1;cases e2;exact n
  |_+2,e1,_=>simp at e1
theorem CA.one{h:Heap}{x:Nat×Nat}{M:Md}(m:Mod h x.1 x.2 M):CA h [x] [M]:=by
  refine⟨rfl,fun i z K e1 e2=> ?_,by simp,by simp⟩
  match i,e1,e2 with
  |0,e1,e2=>cases e1;cases e2;exact m
  |_+1,e1,_=>simp at e1
theorem CA.get1{h:Heap}{x:Nat×Nat}{M:Md}(c:CA h [x] [M]):Mod h x.1 x.2 M:=c.at_ 0 x M rfl rfl
theorem CA.nil(h:Heap):CA h [] []:=⟨rfl,fun i x M e _=>by simp at e,by simp,by simp⟩
theorem Mod.nown{h:Heap}{b p:Nat}{M:Md}{ad:Option Addr}{n cap:Nat}{E:TypeId}{m sz:Nat}{xs:List Value}(m':Mod h b p M)(w:Own h (.slice ad n cap) E m sz xs)(hM:E≠83):∀k,ad.map (fun(x:Addr)=>x.block)=some k→¬(k=b∨k=p):=fun k e=>by
  rcases w.2 with⟨e2,_⟩|⟨g,off,cap',l,e2,q,_⟩
  · cases e2;cases e
  · cases e2
    simp only[Option.map_some,Option.some.injEq] at e
    subst e
    have:=m'.ne2 q hM
    rintro(e|e)
    · exact this.1 e
    · exact this.2 e
end Go.Sha
namespace Go.Sha
open Go Go.Lane
theorem JA.ext{h h':Heap}{jb:Nat}{bs:List (Nat×Nat)}{J:Jd}{ca:Option Addr}{cc:Nat}(a:JA h jb bs J ca cc)(g:Ext h h'):JA h' jb bs J ca cc:=⟨g.blk a.hj,a.row.ext g,a.cs.ext g⟩
theorem JA.turn{h h':Heap}{jb:Nat}{bs:List (Nat×Nat)}{J J':Jd}{ca:Option Addr}{cc:Nat}(a:JA h jb bs J ca cc)(g:Gr (fun k=>k=jb) h h')(hj:h'[jb]? =some (.cells #[.slice ca bs.length cc, .bool J'.off, .bool J'.burns, .bool J'.rot, .bool J'.gave] 77))(hc:J'.c =J.c):JA h' jb bs J' ca cc:=by
  refine⟨hj,a.row.fr g (fun i e cs fr e2=>by rw[e,a.hj] at e2;cases e2), ?_⟩
  rw[hc]
  exact a.cs.fr g (by rintro i rfl;exact NonRow.cells a.hj (by decide)) fun x hx=>by
    have:=a.cs.nej a.hj (by decide) x hx
    exact⟨fun e=>this.1 e.symm,fun e=>this.2 e.symm⟩
theorem RowE.jf{h h':Heap}{jb:Nat}{v:Value}{n sz:Nat}{xs:List Value}{cs:Array Value}{E:TypeId}{fr:Nat×Nat}(r:RowE h v n sz xs)(g:Gr (fun k=>k=jb) h h')(hj:h[jb]? =some (.cells cs E fr))(hE:Eok E=false):RowE h' v n sz xs:=r.fr g (by rintro i rfl;exact NonRow.cells hj hE)
theorem Gr.toJF{h h':Heap}{jb:Nat}(bs:List (Nat×Nat))(g:Gr (fun k=>k=jb) h h'):Gr (JF jb bs) h h':=⟨g.1,fun k hk hn=>g.2 k hk (fun e=>hn (.inl e))⟩
end Go.Sha
end
section
namespace Go.Proofs.YtegkejcglfgpmaaGreatDoor
open Go Go.Lane Go.Sha
open Classical in
/-- what a change of one object comes to -/
noncomputable def chgR(x:Option Ob)(kd n t:Int)(s:ByteArray):Option Ob×Int:=
  if nameOk s=false then (none,210) else if kd=4∧(n<0∨1099511627776<n) then (none,1) else match x with
    |none=>(none,211)
    |some o=>if (chgO o kd n t).2 =0 then (some (chgO o kd n t).1,0) else (none,(chgO o kd n t).2)
noncomputable def updO(M:Md)(s:ByteArray):Option Ob→Md
  |none=>M
  |some o=>⟨upd M.f s o,M.E,M.t⟩
/-! ### many operations, one after the other -/
structure OpR where
  kd:Int
  s:ByteArray
  l:List UInt8
  oa:Option Addr
  oc:Nat
  n:Int
  ka:Option Addr
  kn:Nat
  kc:Nat
@[reducible] def opc(o:OpR):List Value:=[.int .i64 o.kd, .string o.s, .slice o.oa o.l.length o.oc, .int .i64 o.n, .slice o.ka o.kn o.kc]
def op0:OpR:=⟨0,ByteArray.empty,[],none,0,0,none,0,0⟩
@[reducible] def oprow(L:List OpR):List Value:=L.flatMap opc
theorem opc_len(o:OpR):(opc o).length =5:=rfl
def OpAt(h:Heap)(o:OpR):Prop:=Row h (.slice o.oa o.l.length o.oc) o.l.length 1 (o.l.map bv)∧o.s.size ≤9223372036854775807
theorem OpAt.ext{h h':Heap}{o:OpR}(a:OpAt h o)(g:Ext h h'):OpAt h' o:=⟨a.1.ext g,a.2⟩
noncomputable def stepR(M:Md)(o:OpR):Md×An:=step M o.kd o.n o.s o.l
noncomputable def run(L:List OpR):Md→Md:=fun M=>L.foldl (fun M o=>(stepR M o).1) M
def M0:Md:=⟨fun _=>none,[],0⟩
theorem opAt_of{L:List OpR}{i:Nat}{P:OpR→Prop}(h:∀o∈L,P o)(hi:i<L.length):P (L.getD i op0):=by
  rw[List.getD_eq_getElem?_getD,List.getElem?_eq_getElem hi];exact h _ (List.getElem_mem hi)
end Go.Proofs.YtegkejcglfgpmaaGreatDoor
end
section
namespace Go.Proofs.YtegkejcglfgpmaaGreatDoor
open Go.ChangeShapes Go.WideShapes Go.ChangeAt Go.RowKit
section
variable {H:Type} {enc:TypeId×Value→H}
def HA(h:Lane.Heap)(va:Option Addr)(vc:Nat)(L:List Sha.Hs):Prop:=Sha.HR h va vc L.length L∧∀k,va.map (fun(x:Addr)=>x.block)=some k→k<h.size
end
end Go.Proofs.YtegkejcglfgpmaaGreatDoor
namespace Go.Proofs.YtegkejcglfgpmaaGreatDoor
open Go.ChangeShapes Go.WideShapes Go.ChangeAt Go.RowKit
section
variable {H:Type} {enc:TypeId×Value→H}
def fieldsOf(P:Program)(t:TypeId):Option (List (TypeId×Nat)):=
  match P.underlying t with
  |some (.struct fs)=>some (fs.toList.map fun f=>(f.type,f.offset))
  |_=>none
theorem open_fields{P:Program}{W:World}{t:TypeId}{fuel:Nat}{cs:List Value}{x:DataW H×List MemPlace}{l:List (TypeId×Nat)}(hf:fieldsOf P t=some l)(h:DataW.trod enc P W 0 (fun _=>true) true fuel t cs=some x):
    ∃(xs:List (DataW H×List MemPlace)) (n:Nat),cs.length =P.cellsOf t∧x.1 = .agg (xs.map (·.1))∧∀(i:Nat) (p:TypeId×Nat),l[i]? =some p→∃y,xs[i]? =some y∧DataW.trod enc P W 0 (fun _=>true) true n p.1 ((cs.drop p.2).take (P.cellsOf p.1))=some y:=by
  unfold fieldsOf at hf
  cases hu:P.underlying t with
  |none=>simp[hu] at hf
  | some d =>
    cases d<;>simp only[hu] at hf<;>first| (cases hf;done)|skip
    rename_i fs
    simp only[Option.some.injEq] at hf
    obtain⟨xs,n,rfl,rfl,hl,hxl,hel⟩:=DataW.trod_struct hu h
    refine⟨xs,n,hl,rfl,fun i p hp=> ?_⟩
    rw[←hf,List.getElem?_map,Option.map_eq_some_iff] at hp
    obtain⟨f,h1,rfl⟩:=hp
    have h2:=hel i f (by simpa using h1)
    have hi:i<xs.length :=by
      rw[hxl]
      apply Nat.lt_of_not_le;intro hh
      rw[List.getElem?_eq_none (by simpa using hh)] at h1;cases h1
    rw[List.getElem?_eq_getElem hi] at h2⊢
    exact⟨_,rfl,h2⟩
theorem cut(l:List Value)(a b:Nat):l.drop a=(l.drop a).take b++l.drop (a+b):=by
  rw[←List.drop_drop,List.take_append_drop]
theorem mem_bulk{l:List (DataW H×List MemPlace)}{i:Nat}{y:DataW H×List MemPlace}(h:l[i]? =some y):Rows.uptoBulk y.1 ≤Rows.uptoBulk (DataW.agg (l.map (·.1))):=by
  have:Rows.uptoBulk y.1 ≤Rows.uptoBulkAll (l.map (·.1)):=by
    induction l generalizing i with
    |nil=>simp at h
    | cons x l ih =>
      simp only[List.map_cons,Rows.uptoBulkAll]
      cases i with
      |zero=>simp only[List.getElem?_cons_zero,Option.some.injEq] at h;subst h;omega
      |succ i=>have:=ih (i:=i) (by simpa using h);omega
  simp only[Rows.uptoBulk];omega
theorem i64_of{n:Int}(hw:(Lit.int .i64 n).wf =true): -9223372036854775808≤n∧n≤9223372036854775807:=by
  simp only[Lit.wf,Bool.and_eq_true,decide_eq_true_eq] at hw
  simpa[IntKind.min,IntKind.max,IntKind.signed,IntKind.bits] using hw
end
end Go.Proofs.YtegkejcglfgpmaaGreatDoor
namespace Go.Proofs.YtegkejcglfgpmaaGreatDoor
open Go.ChangeShapes Go.WideShapes Go.ChangeAt Go.RowKit
section
variable {H:Type} {enc:TypeId×Value→H}
theorem open_parts{α:Type}{f:α→List Value}{k:Nat}(d0:α)(hfl:∀x,(f x).length =k){P:Program}{W:World}{t q:TypeId}{fuel:Nat}{cs:List Value}{x:DataW H×List MemPlace}(ht:P.underlying t=some (.slice q))(hc:P.cellsOf q=k)(hk:0<k)(Q:α→DataW H→Prop)
    (hq:∀(n:Nat) (cs':List Value) (y:DataW H×List MemPlace),DataW.trod enc P W 0 (fun _=>true) true n q cs'=some y→∃z,cs'=f z∧Q z y.1)
    (h:DataW.trod enc P W 0 (fun _=>true) true fuel t cs=some x):∃va vc,∃L:List α,cs=[.slice va L.length vc]∧Lane.Row W.heap (.slice va L.length vc) L.length k (L.flatMap f)∧L.length +1≤Rows.uptoBulk x.1 ∧
      ∃ds:List (DataW H),ds.length =L.length ∧Rows.uptoBulkAll ds≤Rows.uptoBulk x.1 ∧∀i,i<L.length →∃dd,ds[i]? =some dd∧Q (L.getD i d0) dd:=by
  rcases Deep.open_slice ht h with⟨rfl,rfl⟩|⟨a,len,cap,m,n,D,Pl,rfl,_,hle,_,hm,rfl,hel⟩
  · exact⟨none,0,[],rfl,⟨by simp, .inl ⟨rfl,rfl⟩⟩,by simp[Rows.uptoBulk],[],rfl,by simp[Rows.uptoBulkAll],fun i hi=>by simp at hi⟩
  · have hm' : m = cap := hm
    have _inst:Inhabited α:=⟨d0⟩
    obtain⟨g,hG⟩:=Deep.choose_lt (n:=len) (p:=fun i (y:α)=>Q y (D i)∧∀j u,(f y)[j]? =some u→Lane.hcell W.heap (a.add (i*k+j))=some u) (fun i hi=>by
      obtain⟨cs',h1,h2⟩:=hel i (by omega)
      obtain⟨y,rfl,hy⟩:=hq _ _ _ h2
      rw[hc] at h1
      refine⟨y,hy,fun j u hu=> ?_⟩
      have hj:j<k:=by
        apply Nat.lt_of_not_le;intro hh
        rw[List.getElem?_eq_none (by rw[hfl];exact hh)] at hu;cases hu
      have h3:=(World.cells?_some h1).2.2 j hj
      rw[hu,Lane.hcell_eq rfl,Lane.add_add] at h3
      exact h3)
    have hl:((List.range len).map g).length =len:=by simp
    refine⟨some a,cap,(List.range len).map g,by rw[hl],⟨Sha.fm_length hfl _, .inr ⟨a,cap,rfl,by rw[hl];exact hle,fun j u hu=> ?_⟩⟩, ?_,(List.range len).map D,by simp, ?_,fun i hi=> ?_⟩
    · have hj : j < len * k := by
        apply Nat.lt_of_not_le;intro hh
        rw[List.getElem?_eq_none (by rw[Sha.fm_length hfl,hl];omega)] at hu;cases hu
      have hi:j/k<len:=(Nat.div_lt_iff_lt_mul hk).2 hj
      have hjk:j/k*k+j%k=j:=by rw[Nat.mul_comm];exact Nat.div_add_mod j k
      have hd:(((List.range len).map g).drop (j/k)).flatMap f=f (g (j/k))++(((List.range len).map g).drop (j/k+1)).flatMap f:=by
        rw[List.drop_eq_getElem_cons (by rw[hl];exact hi),List.flatMap_cons];simp
      have hu2:(f (g (j/k)))[j%k]? =some u:=by
        have h4:((((List.range len).map g).drop (j/k)).flatMap f)[j%k]? =some u:=by
          rw[←Sha.fm_drop hfl,List.getElem?_drop,hjk];exact hu
        rw[hd,List.getElem?_append_left (by rw[hfl];exact Nat.mod_lt _ hk)] at h4
        exact h4
      have:=(hG _ hi).2 _ _ hu2
      rw[hjk] at this
      exact this
    · rw [hl]
      have:=bulks.slice_le ((List.range len).map D) ((List.range (m - len)).map fun j=>D (len+j))
      rw[List.length_map,List.length_range] at this
      refine Nat.le_trans ?_ this
      omega
    · simp only[Rows.uptoBulk];omega
    · rw [hl] at hi
      exact⟨D i,by simp[hi],by simpa[List.getD,hi] using(hG i hi).1⟩
theorem mem_bulkA{ds:List (DataW H)}{i:Nat}{y:DataW H}(h:ds[i]? =some y):Rows.uptoBulk y≤Rows.uptoBulkAll ds:=by
  induction ds generalizing i with
  |nil=>simp at h
  | cons x l ih =>
    simp only[Rows.uptoBulkAll]
    cases i with
    |zero=>simp only[List.getElem?_cons_zero,Option.some.injEq] at h;subst h;omega
    |succ i=>have:=ih (i:=i) (by simpa using h);omega
def opOk(P:Program)(t ti ts tb te tk:TypeId):Prop:=fieldsOf P t=some [(ti,0),(ts,1),(tb,2),(ti,3),(tk,4)]∧P.cellsOf t=5∧P.underlying ti=some (.int .i64)∧P.cellsOf ti=1∧P.underlying ts=some .string ∧P.cellsOf ts=1∧P.underlying tb=some (.slice te)∧P.cellsOf tb=1∧P.underlying te=some (.int .u8)∧P.cellsOf te=1∧P.underlying tk=some (.slice ti)∧P.cellsOf tk=1
theorem open_op5{P:Program}{W:World}{t ti ts tb te tk:TypeId}{fuel:Nat}{cs:List Value}{x:DataW H×List MemPlace}(hO:opOk P t ti ts tb te tk)(h:DataW.trod enc P W 0 (fun _=>true) true fuel t cs=some x):
    ∃o:OpR,cs=opc o∧OpAt W.heap o∧o.l.length +1≤Rows.uptoBulk x.1 ∧ -9223372036854775808≤o.kd ∧o.kd ≤9223372036854775807:=by
  obtain⟨hf,hct,hi,hci,hs,hcs,hb,hcb,he,hce,hk,hck⟩:=hO
  obtain⟨xs,n0,hl,hd,hel⟩:=open_fields hf h
  obtain⟨y0,_,h0⟩:=hel 0 _ rfl
  obtain⟨y1,_,h1⟩:=hel 1 _ rfl
  obtain⟨y2,g2,h2⟩:=hel 2 _ rfl
  obtain⟨y3,_,h3⟩:=hel 3 _ rfl
  obtain⟨y4,_,h4⟩:=hel 4 _ rfl
  obtain⟨kd,e0,_,hkd⟩:=DataW.trod_int hi h0
  obtain⟨s,e1,_,hsz⟩:=DataW.trod_string hs h1
  obtain⟨⟨oa,oc,l⟩,e2,hr,hbl⟩:=open_bytes hb he hce h2
  obtain⟨n,e3,_,_⟩:=DataW.trod_int hi h3
  obtain⟨ka,kn,kc,e4⟩:∃ka kn kc,(cs.drop 4).take (P.cellsOf tk)=[.slice ka kn kc]:=by
    rcases open_ints hk hi hci h4 with⟨e,_⟩|⟨a,len,cap,zs,e,_⟩
    · exact⟨_,_,_,e⟩
    · exact⟨_,_,_,e⟩
  refine⟨⟨kd,s,l,oa,oc,n,ka,kn,kc⟩, ?_,⟨hr.1, ?_⟩, ?_,(i64_of hkd).1,(i64_of hkd).2⟩
  · rw [hct] at hl
    rw[hci] at e0 e3
    rw[hcs] at e1
    rw[hcb] at e2
    rw[hck] at e4
    dsimp only at e0 e1 e2 e3 e4
    have c0:=cut cs 0 1
    have c1:=cut cs 1 1
    have c2:=cut cs 2 1
    have c3:=cut cs 3 1
    have c4:=cut cs 4 1
    rw[List.drop_of_length_le (l:=cs) (i:=4+1) (by omega),List.append_nil,e4] at c4
    rw[e3,c4] at c3
    rw[e2,c3] at c2
    rw[e1,c2] at c1
    rw[e0,c1,List.drop_zero] at c0
    rw[c0];rfl
  · have := hsz
    show s.size ≤_
    first|exact Nat.le_trans this (by decide)| (simp only[maxLen] at this;omega)
  · have := mem_bulk g2
    rw[hd]
    simp only at this hbl⊢
    omega
theorem open_opl{P:Program}{W:World}{b0:Nat}{rr:Reach}{tl t ti ts tb te tk:TypeId}{v:Value}{d:DataW H}{ps:List MemPlace}(hO:opOk P t ti ts tb te tk)(ht:P.underlying tl=some (.slice t))(hval:Value.okWide P W rr b0 tl v)(h:DataW.Trod enc P W 0 (fun _=>true) true tl v d ps):
    ∃(va:Option Addr) (vc:Nat) (L:List OpR),v= .slice va L.length vc∧Lane.Row W.heap (.slice va L.length vc) L.length 5 (oprow L)∧(∀o∈L,OpAt W.heap o∧o.l.length +1≤Rows.uptoBulk d)∧L.length +1≤Rows.uptoBulk d:=by
  obtain⟨a0,l0,c0,rfl⟩:=okWide_slice ht hval
  obtain⟨fuel,h⟩:=h
  obtain⟨va,vc,L,e0,hr,hb,ds,hdl,hdb,hel⟩:=open_parts op0 opc_len ht hO.2.1 (by decide) (fun o dd=>OpAt W.heap o∧o.l.length +1≤Rows.uptoBulk dd) (fun n cs' y hy=>by
    obtain⟨o,h1,h2,h3,_⟩:=open_op5 hO hy;exact⟨o,h1,h2,h3⟩) h
  have e:Value.slice a0 l0 c0= .slice va L.length vc:=by simpa[Value.cells] using e0
  cases e
  refine⟨_,_,L,rfl,hr,fun o hm=> ?_,hb⟩
  obtain⟨i,hi,rfl⟩:=List.getElem_of_mem hm
  obtain⟨dd,hd,h1,h2⟩:=hel i hi
  rw[show L.getD i op0=L[i] by simp[List.getD,hi]] at h1 h2
  refine⟨h1, ?_⟩
  have h3:=mem_bulkA hd
  have h4:Rows.uptoBulkAll ds≤Rows.uptoBulk d:=hdb
  omega
end
end Go.Proofs.YtegkejcglfgpmaaGreatDoor
end
section
namespace Go.Sha
open Go Go.Lane
/-! ### the document's model, as the memory holds it -/
/-- a row that lies in a block of this type -/
def RowT(E:TypeId)(h:Heap)(v:Value)(n sz:Nat)(xs:List Value):Prop:=Row h v n sz xs∧(n=0∨∃k cs fr,blkOf v=some k∧h[k]? =some (.cells cs E fr))
def NonT(E:TypeId)(h:Heap)(k:Nat):Prop:=∀cs fr,h[k]? ≠some (.cells cs E fr)
section
variable {E:TypeId} {h h':Heap} {v:Value} {n sz:Nat} {xs:List Value} {F:Nat→Prop}
theorem RowT.fr(r:RowT E h v n sz xs)(g:Gr F h h')(hF:∀k,F k→NonT E h k):RowT E h' v n sz xs:=by
  rcases r.2 with h0|⟨k,ds,fr',e,m⟩
  · exact⟨r.1.zero h0, .inl h0⟩
  · have nk : ¬ F k := fun hk => hF k hk _ _ m
    have m':h'[k]? =some (.cells ds E fr'):=by rw[g.2 k (blk_lt m) nk];exact m
    refine⟨⟨r.1.1,r.1.2.imp id ?_⟩, .inr ⟨k,ds,fr',e,m'⟩⟩
    rintro⟨a,cap,rfl,hc,hx⟩
    simp only[blkOf,Option.some.injEq] at e
    subst e
    refine⟨a,cap,rfl,hc,fun j u hu=> ?_⟩
    rw[hcell_congr (h:=h) (h':=h') (p:=a.add j) (by rw[add_block,m',m])]
    exact hx j u hu
theorem RowT.of(o:Own h v E n sz xs):RowT E h v n sz xs:=by
  refine⟨o.row, ?_⟩
  rcases o.2 with⟨rfl,h0⟩|⟨g,off,cap,l,rfl,m,_⟩
  · exact .inl h0
  · exact .inr ⟨g,l,(0,0),rfl,m⟩
theorem RowT.nil(E:TypeId)(h:Heap)(sz:Nat):RowT E h (.slice none 0 0) 0 sz []:=⟨Row.nil h sz, .inl rfl⟩
theorem NonT.cells{k:Nat}{cs:Array Value}{E2:TypeId}{fr:Nat×Nat}(m:h[k]? =some (.cells cs E2 fr))(hE:E2≠E):NonT E h k:=fun cs' fr' e=>by rw[m] at e;cases e;exact hE rfl
theorem NonT.map{k:Nat}{es:Array MapEntry}{ck:Nat}(m:h[k]? =some (.map es ck)):NonT E h k:=fun cs' fr' e=>by rw[m] at e;cases e
end
structure RO where
  o:Ob
  ca:Option Addr
  cc:Nat
  ba:Option Addr
  bc:Nat
@[reducible] def roc(x:RO):List Value:=obx x.o.b x.o.e x.o.ho x.o.go (.slice x.ca 0 x.cc) (.slice x.ba x.o.dt.length x.bc)
def ro0:RO:=⟨⟨rb0,0,false,false,[]⟩,none,0,none,0⟩
@[reducible] def rorow(T:List RO):List Value:=T.flatMap roc
theorem roc_len(x:RO):(roc x).length =40:=rfl
theorem rorow_len(T:List RO):(rorow T).length =T.length *40:=fm_length roc_len T
theorem rorow_one(T:List RO):∀u∈rorow T,u.oneCell' =true:=fm_ones (fun p u hu=>by
  rcases List.mem_append.1 hu with h|h
  · exact rcs_one ⟨p.o.b,p.o.e,p.o.ho,p.o.go,p.ca,0,p.cc⟩ u h
  · rw[List.mem_singleton.1 h];rfl) T
/-! ### strings in order -/
def ltB(s t:ByteArray):Prop:=Lib.compareBytes s.data.toList t.data.toList <0
theorem ba_eq{s t:ByteArray}(h:s.data.toList =t.data.toList):s=t:=by
  cases s;cases t
  simp only[ByteArray.mk.injEq]
  rename_i a b
  rw[←Array.toArray_toList (xs:=a), ←Array.toArray_toList (xs:=b)]
  exact congrArg List.toArray h
theorem ltB_tri(s t:ByteArray):ltB s t∨s=t∨ltB t s:=by
  unfold ltB
  rcases Int.lt_trichotomy (Lib.compareBytes s.data.toList t.data.toList) 0 with h|h|h
  · exact .inl h
  · exact .inr (.inl (ba_eq (cb_eq h)))
  · have:=cb_neg s.data.toList t.data.toList;exact .inr (.inr (by omega))
theorem ltB_ne{s t:ByteArray}(h:ltB s t):s≠t:=by rintro rfl;unfold ltB at h;rw[cb_refl] at h;omega
theorem ltB_asym{s t:ByteArray}(h:ltB s t):¬ltB t s:=by unfold ltB at*;have:=cb_neg s.data.toList t.data.toList;omega
theorem ltB_trans{s t u:ByteArray}(h:ltB s t)(k:ltB t u):ltB s u:=by
  rcases ltB_tri s u with e|e|e
  · exact e
  · subst e;exact absurd k (ltB_asym h)
  · have h1 := cb_trans u.data.toList s.data.toList t.data.toList (Int.le_of_lt e) (Int.le_of_lt h)
    have h2:=cb_neg t.data.toList u.data.toList
    unfold ltB at k;omega
theorem split_srt(s:ByteArray):∀{T:List RO},(T.Pairwise fun x y=>ltB x.o.b.id y.o.b.id)→(∃A B,T=A++B∧(∀x∈A,ltB x.o.b.id s)∧∀x∈B,ltB s x.o.b.id)∨∃A x B,T=A++x::B∧(∀y∈A,ltB y.o.b.id s)∧x.o.b.id =s
  |[],_=> .inl ⟨[],[],rfl,by simp,by simp⟩
  | x :: T, h => by
    obtain⟨h1,h2⟩:=List.pairwise_cons.1 h
    rcases ltB_tri x.o.b.id s with e|e|e
    · rcases split_srt s h2 with ⟨A, B, rfl, k1, k2⟩ | ⟨A, y, B, rfl, k1, k2⟩
      · exact .inl ⟨x::A,B,rfl,fun z hz=>(List.mem_cons.1 hz).elim (fun q=>q▸e) (k1 z),k2⟩
      · exact .inr ⟨x::A,y,B,rfl,fun z hz=>(List.mem_cons.1 hz).elim (fun q=>q▸e) (k1 z),k2⟩
    · exact .inr ⟨[],x,T,rfl,by simp,e⟩
    · exact .inl ⟨[],x::T,rfl,by simp,fun z hz=>(List.mem_cons.1 hz).elim (fun q=>q▸e) (fun q=>ltB_trans e (h1 z q))⟩
/-! ### the model -/
structure RModA(W:Nat→Prop)(h:Heap)(rb:Nat)(M:Md)(T:List RO)(oa:Option Addr)(oc:Nat)(ea:Option Addr)(ec:Nat)(es:List Value):Prop where
  hm:h[rb]? =some (.cells #[.slice oa T.length oc, .slice ea M.E.length ec, .int .i64 M.t] 86)
  row:RowT 97 h (.slice oa T.length oc) T.length 40 (rorow T)
  srt:T.Pairwise fun x y=>ltB x.o.b.id y.o.b.id
  ob:∀x∈T,M.f x.o.b.id =some x.o ∧x.o.dt.length ≤512∧Row h (.slice x.ca 0 x.cc) 0 4 (prow [])∧RowW W h (.slice x.ba x.o.dt.length x.bc) x.o.dt.length 1 (x.o.dt.map bv)
  al:∀s o,M.f s=some o→∃x∈T,x.o.b.id =s
  er:RowW W h (.slice ea M.E.length ec) M.E.length 1 es
  en:EntsAt W h es M.E
  ln:T.length =M.E.length
  t0:0≤M.t
  t1:M.t ≤1099511627776
  kb:0<rb
  ix:∀s o,M.f s=some o→0≤o.b.idx ∧o.b.idx <M.E.length
def RModW(W:Nat→Prop)(h:Heap)(rb:Nat)(M:Md):Prop:=∃T oa oc ea ec es,RModA W h rb M T oa oc ea ec es
def RG(rb:Nat)(h h':Heap):Prop:=Gr (fun k=>k=rb) h h'
section
variable {W W' F:Nat→Prop} {h h':Heap} {rb:Nat} {M:Md} {T A B:List RO} {oa:Option Addr} {oc:Nat} {ea:Option Addr} {ec:Nat} {es:List Value} {s:ByteArray}
theorem RModA.fr(m:RModA W h rb M T oa oc ea ec es)(g:Gr F h h')(hF:∀k,F k→(NonRow h k∨W k)∧NonT 97 h k)(h1:¬F rb):RModA W h' rb M T oa oc ea ec es:=
  ⟨by rw[g.2 rb (blk_lt m.hm) h1];exact m.hm,m.row.fr g (fun k hk=>(hF k hk).2),m.srt,fun x hx=>by obtain⟨k1,k2,k3,k4⟩:=m.ob x hx;exact⟨k1,k2,k3.zero rfl,k4.fr g fun k hk=>(hF k hk).1⟩,m.al,m.er.fr g fun k hk=>(hF k hk).1,m.en.fr g fun k hk=>(hF k hk).1,m.ln,m.t0,m.t1,m.kb,m.ix⟩
theorem RModW.fr(m:RModW W h rb M)(g:Gr F h h')(hF:∀k,F k→(NonRow h k∨W k)∧NonT 97 h k)(h1:¬F rb):RModW W h' rb M:=by
  obtain⟨T,oa,oc,ea,ec,es,m⟩:=m;exact⟨T,oa,oc,ea,ec,es,m.fr g hF h1⟩
theorem RModA.ext(m:RModA W h rb M T oa oc ea ec es)(g:Ext h h'):RModA W h' rb M T oa oc ea ec es:=m.fr (F:=fun _=>False) ⟨g.1,fun k hk _=>g.2 k hk (by simp)⟩ (fun _ e=>e.elim) id
theorem RModW.ext(m:RModW W h rb M)(g:Ext h h'):RModW W h' rb M:=by obtain⟨T,oa,oc,ea,ec,es,m⟩:=m;exact⟨T,oa,oc,ea,ec,es,m.ext g⟩
theorem RModA.more(m:RModA W h rb M T oa oc ea ec es)(hs:∀k,W' k→W k∨h.size ≤k):RModA W' h rb M T oa oc ea ec es:=
  ⟨m.hm,m.row,m.srt,fun x hx=>by obtain⟨k1,k2,k3,k4⟩:=m.ob x hx;exact⟨k1,k2,k3,k4.more hs⟩,m.al,m.er.more hs,⟨m.en.1,fun i e hi=>by obtain⟨h0,x,c,k1,k2⟩:=m.en.2 i e hi;exact⟨h0,x,c,k1,k2.more hs⟩⟩,m.ln,m.t0,m.t1,m.kb,m.ix⟩
theorem RModW.more(m:RModW W h rb M)(hs:∀k,W' k→W k∨h.size ≤k):RModW W' h rb M:=by obtain⟨T,oa,oc,ea,ec,es,m⟩:=m;exact⟨T,oa,oc,ea,ec,es,m.more hs⟩
theorem RModW.less(m:RModW W h rb M)(hs:∀k,W' k→W k):RModW W' h rb M:=m.more fun k hk=> .inl (hs k hk)
theorem RModW.kb(m:RModW W h rb M):rb<h.size :=by obtain⟨_,_,_,_,_,_,m⟩:=m;exact blk_lt m.hm
theorem RModW.mg{b p:Nat}{N:Md}(m:RModW W h rb M)(g:MG b p h h')(k:Mod h b p N):RModW W h' rb M:=by
  obtain⟨_,_,_,_,_,k⟩:=k
  obtain⟨T,oa,oc,ea,ec,es,m⟩:=m
  refine⟨T,oa,oc,ea,ec,es,m.fr g ?_ ?_⟩
  · rintro i (rfl | rfl)
    · exact⟨.inl (NonRow.cells k.hm (by decide)),NonT.cells k.hm (by decide)⟩
    · exact⟨.inl (NonRow.map k.hp),NonT.map k.hp⟩
  · rintro (rfl | rfl)
    · have:=m.hm;rw[k.hm] at this;cases this
    · have:=m.hm;rw[k.hp] at this;cases this
theorem ModW.rg{b p:Nat}{N:Md}(m:ModW W h b p N)(g:RG rb h h')(k:RModW W' h rb M):ModW W h' b p N:=by
  obtain⟨_,_,_,_,_,_,k⟩:=k
  refine m.fr g (fun i e=> .inl (e▸NonRow.cells k.hm (by decide))) ?_ ?_
  · rintro rfl;obtain⟨_,_,_,_,_,m⟩:=m;have:=m.hm;rw[k.hm] at this;cases this
  · rintro rfl;obtain⟨_,_,_,_,_,m⟩:=m;have:=m.hp;rw[k.hm] at this;cases this
theorem RModA.find(m:RModA W h rb M T oa oc ea ec es)(s:ByteArray):(M.f s=none∧∃A B,T=A++B∧(∀x∈A,ltB x.o.b.id s)∧∀x∈B,ltB s x.o.b.id)∨∃A x B,T=A++x::B∧(∀y∈A,ltB y.o.b.id s)∧x.o.b.id =s∧M.f s=some x.o :=by
  rcases split_srt s m.srt with⟨A,B,e,k1,k2⟩|⟨A,x,B,e,k1,k2⟩
  · refine .inl ⟨?_, A, B, e, k1, k2⟩
    cases hf:M.f s with
    |none=>rfl
    | some o =>
      obtain⟨x,hx,hs⟩:=m.al s o hf
      rw[e] at hx
      rcases List.mem_append.1 hx with h|h
      · exact absurd hs (ltB_ne (k1 x h))
      · exact absurd hs.symm (ltB_ne (k2 x h))
  · refine .inr ⟨A, x, B, e, k1, k2, ?_⟩
    have:=(m.ob x (by rw[e];simp)).1
    rw[k2] at this;exact this
theorem RModA.cases3(m:RModA W h rb M T oa oc ea ec es)(s:ByteArray):nameOk s=false∨(nameOk s=true∧M.f s=none∧∃A B,T=A++B∧(∀x∈A,ltB x.o.b.id s)∧∀x∈B,ltB s x.o.b.id)∨(nameOk s=true∧∃A x B,T=A++x::B∧(∀y∈A,ltB y.o.b.id s)∧x.o.b.id =s∧M.f s=some x.o):=by
  cases e:nameOk s with
  |false=>exact .inl rfl
  |true=>exact .inr ((m.find s).imp (fun k=>⟨rfl,k⟩) fun k=>⟨rfl,k⟩)
theorem RModA.tick(m:RModA W h rb M T oa oc ea ec es){t:Int}(g:RG rb h h')(hm:h'[rb]? =some (.cells #[.slice oa T.length oc, .slice ea M.E.length ec, .int .i64 t] 86))(h0:0≤t)(h1:t≤1099511627776):RModA W h' rb ⟨M.f,M.E,t⟩ T oa oc ea ec es:=
  have nr:∀k,k=rb→NonRow h k∨W k:=fun k e=> .inl (e▸NonRow.cells m.hm (by decide))
  ⟨hm,m.row.fr g (fun k e=>e▸NonT.cells m.hm (by decide)),m.srt,fun x hx=>by obtain⟨k1,k2,k3,k4⟩:=m.ob x hx;exact⟨k1,k2,k3.zero rfl,k4.fr g nr⟩,m.al,m.er.fr g nr,m.en.fr g nr,m.ln,h0,h1,m.kb,m.ix⟩
theorem srt_mid{x y:RO}(h:(A++x::B).Pairwise fun x y=>ltB x.o.b.id y.o.b.id)(e:y.o.b.id =x.o.b.id):(A++y::B).Pairwise fun x y=>ltB x.o.b.id y.o.b.id :=by
  rw[List.pairwise_append,List.pairwise_cons] at*
  obtain⟨h1,⟨h2,h3⟩,h4⟩:=h
  refine⟨h1,⟨fun z hz=>by rw[e];exact h2 z hz,h3⟩,fun z hz w hw=> ?_⟩
  rcases List.mem_cons.1 hw with q|q
  · subst q;rw[e];exact h4 z hz x (by simp)
  · exact h4 z hz w (by simp[q])
theorem srt_put{y:RO}(h:(A++B).Pairwise fun x y=>ltB x.o.b.id y.o.b.id)(hA:∀x∈A,ltB x.o.b.id y.o.b.id)(hB:∀x∈B,ltB y.o.b.id x.o.b.id):(A++y::B).Pairwise fun x y=>ltB x.o.b.id y.o.b.id :=by
  rw[List.pairwise_append] at*
  refine⟨h.1,List.pairwise_cons.2 ⟨hB,h.2.1⟩,fun z hz w hw=> ?_⟩
  rcases List.mem_cons.1 hw with q|q
  · subst q;exact hA z hz
  · exact h.2.2 z hz w q
theorem RModA.set{x y:RO}(m:RModA W h rb M (A++x::B) oa oc ea ec es)(g:RG rb h h'){oa':Option Addr}{oc':Nat}(hm:h'[rb]? =some (.cells #[.slice oa' (A++x::B).length oc', .slice ea M.E.length ec, .int .i64 M.t] 86))(row:RowT 97 h' (.slice oa' (A++x::B).length oc') (A++x::B).length 40 (rorow (A++y::B)))
    (hb:y.o.b =x.o.b) (hd:y.o.dt =x.o.dt) (hba:y.ba =x.ba) (hbc:y.bc =x.bc) (hr:Row h' (.slice y.ca 0 y.cc) 0 4 (prow [])):RModW W h' rb ⟨upd M.f x.o.b.id y.o,M.E,M.t⟩:=by
  have nr:∀k,k=rb→NonRow h k∨W k:=fun k e=> .inl (e▸NonRow.cells m.hm (by decide))
  have hl:(A++y::B).length =(A++x::B).length :=by simp
  have hne:∀z,z∈A∨z∈B→z.o.b.id ≠x.o.b.id :=fun z hz=>by
    have h:=m.srt
    rw[List.pairwise_append,List.pairwise_cons] at h
    rcases hz with hz|hz
    · exact ltB_ne (h.2.2 z hz x (by simp))
    · exact fun e=>ltB_ne (h.2.1.1 z hz) e.symm
  refine⟨A++y::B,oa',oc',ea,ec,es, ?_, ?_,srt_mid m.srt (by rw[hb]),fun z hz=> ?_,fun t o ht=> ?_,m.er.fr g nr,m.en.fr g nr,by rw[hl];exact m.ln,m.t0,m.t1,m.kb,fun t o ht=> ?_⟩
  · rw[hl];exact hm
  · rw[hl];exact row
  · have hz' : z = y ∨ ((z ∈ A ∨ z ∈ B) ∧ z ∈ A ++ x :: B) := by
      rcases List.mem_append.1 hz with q|q
      · exact .inr ⟨.inl q,by simp[q]⟩
      · rcases List.mem_cons.1 q with q | q
        · exact .inl q
        · exact .inr ⟨.inr q,by simp[q]⟩
    rcases hz' with rfl|⟨q1,q2⟩
    · obtain ⟨_, k2, _, k4⟩ := m.ob x (by simp)
      refine⟨by rw[hb];exact upd_at _ _ _,by rw[hd];exact k2,hr, ?_⟩
      rw[hd,hba,hbc];exact k4.fr g nr
    · obtain ⟨k1, k2, k3, k4⟩ := m.ob z q2
      exact⟨by show upd M.f _ _ _=_;rw[upd_ne (hne z q1)];exact k1,k2,k3.zero rfl,k4.fr g nr⟩
  · by_cases e : t = x.o.b.id
    · exact⟨y,by simp,by rw[hb,e]⟩
    · obtain ⟨z, q1, q2⟩ := m.al t o (by rw [← ht]; exact (upd_ne e).symm)
      rcases List.mem_append.1 q1 with q|q
      · exact⟨z,by simp[q],q2⟩
      · rcases List.mem_cons.1 q with q | q
        · subst q;exact absurd q2.symm e
        · exact⟨z,by simp[q],q2⟩
  · have ht : upd M.f x.o.b.id y.o t = some o := ht
    by_cases e:t=x.o.b.id
    · subst e
      rw[upd_at] at ht
      cases ht
      rw[hb];exact m.ix _ _ (m.ob x (by simp)).1
    · rw [upd_ne e] at ht
      exact m.ix t o ht
theorem RModA.put {y : RO} {e : List UInt8} {xa : Option Addr} {xc : Nat} (m : RModA W h rb M (A ++ B) oa oc ea ec es) (hA : ∀ x ∈ A, ltB x.o.b.id s) (hB : ∀ x ∈ B, ltB s x.o.b.id) (hy : y.o.b.id = s) (hyl : y.o.dt.length ≤ 512) (hyi : y.o.b.idx = ((M.E.length : Nat) : Int)) (g : RG rb h h') {oa' ea' : Option Addr} {oc' ec' : Nat}
    (hm:h'[rb]? =some (.cells #[.slice oa' (A++y::B).length oc', .slice ea' (M.E.length +1) ec', .int .i64 M.t] 86)) (row:RowT 97 h' (.slice oa' (A++y::B).length oc') (A++y::B).length 40 (rorow (A++y::B))) (r1:Row h' (.slice y.ca 0 y.cc) 0 4 (prow [])) (r2:RowW W h' (.slice y.ba y.o.dt.length y.bc) y.o.dt.length 1 (y.o.dt.map bv))
    (er:RowW W h' (.slice ea' (M.E.length +1) ec') (M.E.length +1) 1 (es++[.slice xa e.length xc])) (he:e.length ≤64) (hx:RowW W h' (.slice xa e.length xc) e.length 1 (e.map bv)):RModW W h' rb ⟨upd M.f s y.o,M.E ++[e],M.t⟩:=by
  subst hy
  have nr:∀k,k=rb→NonRow h k∨W k:=fun k e=> .inl (e▸NonRow.cells m.hm (by decide))
  refine⟨A++y::B,oa',oc',ea',ec',es++[.slice xa e.length xc], ?_,row,srt_put m.srt hA hB,fun z hz=> ?_,fun t o ht=> ?_, ?_, ?_, ?_,m.t0,m.t1,m.kb,fun t o ht=> ?_⟩
  · rw[show(M.E ++[e]).length =M.E.length +1 from by simp];exact hm
  · have hz' : z = y ∨ (z.o.b.id ≠ y.o.b.id ∧ z ∈ A ++ B) := by
      rcases List.mem_append.1 hz with q|q
      · exact .inr ⟨ltB_ne (hA z q),by simp[q]⟩
      · rcases List.mem_cons.1 q with q | q
        · exact .inl q
        · exact .inr ⟨fun e=>ltB_ne (hB z q) e.symm,by simp[q]⟩
    rcases hz' with rfl|⟨q1,q2⟩
    · exact⟨upd_at _ _ _,hyl,r1,r2⟩
    · obtain ⟨k1, k2, k3, k4⟩ := m.ob z q2
      exact⟨by show upd M.f _ _ _=_;rw[upd_ne q1];exact k1,k2,k3.zero rfl,k4.fr g nr⟩
  · by_cases e2 : t = y.o.b.id
    · exact⟨y,by simp,e2.symm⟩
    · obtain ⟨z, q1, q2⟩ := m.al t o (by rw [← ht]; exact (upd_ne e2).symm)
      rcases List.mem_append.1 q1 with q|q
      · exact⟨z,by simp[q],q2⟩
      · exact⟨z,by simp[q],q2⟩
  · rw[show(M.E ++[e]).length =M.E.length +1 from by simp];exact er
  · have m' := m.en.fr g nr
    refine⟨by simp[m'.1],fun i e' hi=> ?_⟩
    by_cases hl:i<M.E.length
    · rw [List.getElem?_append_left hl] at hi
      obtain⟨h0,a,c,h1,h2⟩:=m'.2 i e' hi
      exact⟨h0,a,c,by rw[List.getElem?_append_left (by rw[m'.1];exact hl)];exact h1,h2⟩
    · have h0 : i = M.E.length := by
        have:=(List.getElem?_eq_some_iff.1 hi).1
        simp at this;omega
      subst h0
      simp only[List.getElem?_concat_length,Option.some.injEq] at hi
      subst hi
      exact⟨he,xa,xc,by rw[←m'.1];simp,hx⟩
  · have:=m.ln;simp at this⊢;omega
  · have ht : upd M.f y.o.b.id y.o t = some o := ht
    have hl:(M.E ++[e]).length =M.E.length +1:=by simp
    by_cases e2:t=y.o.b.id
    · subst e2
      rw[upd_at] at ht
      cases ht
      rw[hyi];show(0:Int)≤_∧((M.E.length :Nat):Int)<(((M.E ++[e]).length :Nat):Int)
      rw[hl];omega
    · rw [upd_ne e2] at ht
      have:=m.ix t o ht
      show _∧_<(((M.E ++[e]).length :Nat):Int)
      rw[hl];omega
end
theorem RModA.new{W:Nat→Prop}{h:Heap}{b:Nat}(m:h[b]? =some (.cells #[.slice none 0 0, .slice none 0 0, .int .i64 0] 86))(kb:0<b):RModW W h b ⟨fun _=>none,[],0⟩:=
  ⟨[],none,0,none,0,[],{hm:=m,row:=RowT.nil _ _ _,srt:=List.Pairwise.nil,ob:=by simp,al:=by simp,er:=RowW.nil _ _ _,en:=⟨rfl,by simp⟩,ln:=rfl,t0:=by decide,t1:=by decide,kb:=kb,ix:=by simp}⟩
theorem RG.one{rb:Nat}{h h1 h2:Heap}(e:Ext h h1)(g:Grew (some rb) h1 h2):RG rb h h2:=(Gr.ext (Gr.start _ h) e).thenO g fun _ e=> .inl (Option.some.inj e).symm
theorem RG.again{rb:Nat}{h h1 h2:Heap}(k:RG rb h h1)(g:Grew (some rb) h1 h2):RG rb h h2:=Gr.thenO k g fun _ e=> .inl (Option.some.inj e).symm
theorem RG.then{rb:Nat}{h h1 h2:Heap}(k:RG rb h h1)(g:RG rb h1 h2):RG rb h h2:=⟨Nat.le_trans k.1 g.1,fun i hi hn=>(g.2 i (Nat.lt_of_lt_of_le hi k.1) hn).trans (k.2 i hi hn)⟩
theorem RG.ofExt{rb:Nat}{h h1:Heap}(e:Ext h h1):RG rb h h1:=Gr.ext (Gr.start _ h) e
theorem incl_in{E:List (List UInt8)}{i:Int}(h:0≤i∧i<(E.length :Int)):∃p,inclZ (ledH E) i=(p,0):=by
  have hl:(ledH E).length =E.length :=by unfold ledH;simp
  refine⟨incl (ledH E) i.toNat, ?_⟩
  unfold inclZ;rw[if_pos (by rw[hl];exact h)]
theorem ansR_mk{h:Heap}{v:Value}{A:An}{ba ia pa:Option Addr}{bc ic pc:Nat}(hv:v=anv A (.slice ba A.b.length bc) (.slice ia A.i.length ic) (.slice pa A.p.length pc))(o1:Own h (.slice ba A.b.length bc) 5 A.b.length 1 (A.b.map bv))(o2:Own h (.slice ia A.i.length ic) 9 A.i.length 1 (A.i.map Value.string))(o3:Own h (.slice pa A.p.length pc) 39 A.p.length 32 (hcs A.p))(h32:All32 A.p):AnsAt h v A:=
  ⟨ba,bc,ia,ic,pa,pc,hv,RowE.of o1 (by decide),RowE.of o2 (by decide),RowE.of o3 (by decide),h32⟩
def ry(s:ByteArray)(b:List UInt8)(n:Nat)(ad:Option Addr)(cap:Nat):RO:=⟨putO s b n,none,0,ad,cap⟩
theorem RModA.erG{W:Nat→Prop}{h h':Heap}{rb:Nat}{M:Md}{T:List RO}{oa:Option Addr}{oc:Nat}{ea:Option Addr}{ec:Nat}{es:List Value}(m:RModA W h rb M T oa oc ea ec es)(g:RG rb h h'):RowW W h' (.slice ea M.E.length ec) M.E.length 1 es:=
  m.er.fr g fun k e=> .inl (e▸NonRow.cells m.hm (by decide))
theorem adz{a:Option Addr}{c k:Nat}:a=if c=0 then a else a.map (·.add (0*k)):=by
  split
  · rfl
  · cases a<;>simp[Addr.add]
/-! ### the records of the row -/
open Go.Proofs.YtegkejcglfgpmaaGreatDoor
@[reducible] def rcO(x:RO):Rec:=⟨x.o.b,x.o.e,x.o.ho,x.o.go,x.ca,0,x.cc⟩
section
variable {W:Nat→Prop} {h:Heap} {rb:Nat} {M:Md} {T:List RO} {oa:Option Addr} {oc:Nat} {ea:Option Addr} {ec:Nat} {es:List Value} {S:List Rec} {k:Nat} {x:RO}
theorem RModA.enum(m:RModA W h rb M T oa oc ea ec es):EnumR M (T.map rcO) where
  nd:=by
    rw[List.map_map]
    exact List.pairwise_map.2 (m.srt.imp fun q=>ltB_ne q)
  at_:=fun r hr=>by obtain⟨x,hx,rfl⟩:=List.mem_map.1 hr;exact⟨x.o,(m.ob x hx).1,rfl,rfl,rfl,rfl⟩
  al:=fun s o hs=>by obtain⟨x,hx,e⟩:=m.al s o hs;exact⟨rcO x,List.mem_map.2 ⟨x,hx,rfl⟩,e⟩
theorem RModA.idsE(m:RModA W h rb M T oa oc ea ec es):idsM M=live (T.map rcO):=by
  rw[idsM_eq m.enum]
  refine List.mergeSort_of_pairwise ?_
  unfold live ids
  refine List.pairwise_map.2 (List.Pairwise.sublist List.filter_sublist (List.pairwise_map.2 (m.srt.imp fun {a b} q=> ?_)))
  have:Go.Proofs.ltOf cfs b.o.b.id a.o.b.id =false:=lt_f.2 (by have:=cb_neg a.o.b.id.data.toList b.o.b.id.data.toList;unfold ltB at q;omega)
  simp[this]
theorem RModA.dueE(m:RModA W h rb M T oa oc ea ec es)(hp:S.Perm ((T.map rcO).filter (dueB M.t)))(hs:S.Pairwise leR):dueM M=Go.Sha.ids S:=dueM_eq m.enum hp fun p q _ h2 h3=>by
  have:=List.pairwise_iff_getElem.1 hs p q (by omega) h3 h2
  simpa[List.getD,h3,Nat.lt_trans h2 h3] using this
theorem ro_next(hx:T[k]? =some x):(T.take (k+1)).map rcO=(T.take k).map rcO++[rcO x]:=by rw[List.take_add_one,hx];simp
theorem live_gone(hx:T[k]? =some x)(hg:x.o.go =true):live ((T.take (k+1)).map rcO)=live ((T.take k).map rcO):=by rw[ro_next hx];simp[live,ids,List.filter_append,ngo,hg]
theorem live_here(hx:T[k]? =some x)(hg:x.o.go =false):live ((T.take (k+1)).map rcO)=live ((T.take k).map rcO)++[x.o.b.id]:=by rw[ro_next hx];simp[live,ids,List.filter_append,ngo,hg]
end
/-! ### places in the row -/
/-- the place of an id in the row: where it is, or would be -/
def AtP(T:List RO)(s:ByteArray)(k:Nat)(r:Bool):Prop:=∃A B,T=A++B∧A.length =k∧(∀x∈A,ltB x.o.b.id s)∧((B=[]∧r=false)∨∃x B',B=x::B'∧¬ltB x.o.b.id s∧r=decide (x.o.b.id =s))
section
variable {T A B:List RO} {s:ByteArray} {k i j:Nat} {x:RO} {r:Bool}
theorem AtP.step(a:AtP T s k r)(hi:i≤k):(i<k∧i<T.length ∧∃x,T[i]? =some x∧ltB x.o.b.id s)∨(i=k∧¬i<T.length ∧r=false)∨(i=k∧i<T.length ∧∃x,T[i]? =some x∧¬ltB x.o.b.id s∧decide (x.o.b.id =s)=r):=by
  obtain⟨A,B,rfl,rfl,hA,hB⟩:=a
  rcases Nat.lt_or_ge i A.length with h|h
  · exact .inl ⟨h,by rw[List.length_append];omega,A[i],by rw[List.getElem?_append_left h,List.getElem?_eq_getElem h],hA _ (List.getElem_mem h)⟩
  · have e : i = A.length := by omega
    subst e
    rcases hB with⟨rfl,h0⟩|⟨x,B',rfl,h1,h2⟩
    · exact .inr (.inl ⟨rfl,by simp,h0⟩)
    · exact .inr (.inr ⟨rfl,by simp,x,by simp,h1,h2.symm⟩)
theorem AtP.no(hA:∀x∈A,ltB x.o.b.id s)(hB:∀x∈B,ltB s x.o.b.id):AtP (A++B) s A.length false:=by
  refine⟨A,B,rfl,rfl,hA, ?_⟩
  cases B with
  |nil=>exact .inl ⟨rfl,rfl⟩
  |cons x B=>exact .inr ⟨x,B,rfl,ltB_asym (hB x (by simp)),(decide_eq_false fun e=>ltB_ne (hB x (by simp)) e.symm).symm⟩
theorem AtP.yes(hA:∀x∈A,ltB x.o.b.id s)(e:x.o.b.id =s):AtP (A++x::B) s A.length true:=
  ⟨A,x::B,rfl,rfl,hA, .inr ⟨x,B,rfl,fun h=>ltB_ne h e,(decide_eq_true e).symm⟩⟩
def RFd(T:List RO)(s:ByteArray)(q:Nat)(e:Int):Prop:=(nameOk s=false∧q=0∧e=210)∨(nameOk s=true∧(∃k,AtP T s k false)∧q=0∧e=211)∨(nameOk s=true∧AtP T s q true∧e=0)
theorem ro_at(hx:T[k]? =some x):T.getD k ro0=x∧k<T.length :=⟨by simp[List.getD,hx],(List.getElem?_eq_some_iff.1 hx).1⟩
theorem ro_lt:A.length <(A++x::B).length :=by rw[List.length_append,List.length_cons];omega
theorem ro_pos:0<(A++x::B).length :=by rw[List.length_append,List.length_cons];omega
theorem ro_mid:(A++x::B)[A.length]? =some x:=by simp
end
end Go.Sha
namespace Go.Lane
open Go Go.Sha
section
variable {P:Program} {h:Heap} {a:Addr} {va xa:Option Addr} {n c m k q j:Nat} {T A B:List RO} {x:RO} {S:TypeId} {u:Value}
theorem Row.ro(r:Row h (.slice (some a) n c) m 40 (rorow T))(hx:T[k]? =some x)(hS:aggTy P S=some (true,40))(hq:q=k*40):Loads P h S (a.add q) (.agg (roc x).toArray):=by
  obtain⟨e,hk⟩:=ro_at hx;rw[←e];exact Row.fm (d:=ro0) roc_len r hS hk hq
theorem Row.roj(r:Row h (.slice (some a) n c) m 40 (rorow T))(hx:T[k]? =some x)(hu:(roc x)[j]? =some u):hcell h (a.add (k*40+j))=some u:=by
  obtain⟨e,hk⟩:=ro_at hx;rw[←e] at hu;exact r.cells _ _ (fm_get (d:=ro0) roc_len hk hu)
theorem Row.roid(r:Row h (.slice (some a) n c) m 40 (rorow T))(hx:T[k]? =some x):hcell h (a.add (k*40))=some (.string x.o.b.id):=Row.roj (k:=k) (j:=0) r hx rfl
theorem Row.rogo(r:Row h (.slice (some a) n c) m 40 (rorow T))(hx:T[k]? =some x):hcell h (a.add (k*40+37))=some (.bool x.o.go):=Row.roj (k:=k) (j:=37) r hx rfl
theorem Row.ror(r:Row h (.slice (some a) n c) m 40 (rorow T))(hx:T[k]? =some x)(hS:aggTy P S=some (true,39))(hq:q=k*40):Loads P h S (a.add q) (.agg (rc x.o.b x.o.e x.o.ho x.o.go (.slice x.ca 0 x.cc)).toArray):=by
  subst hq
  refine Loads.agg hS fun j u hu=> ?_
  rw[add_add]
  exact r.roj hx (by show(rc x.o.b x.o.e x.o.ho x.o.go (.slice x.ca 0 x.cc)++[_])[j]? =some u;rw[List.getElem?_append_left (List.getElem?_eq_some_iff.1 hu).1];exact hu)
theorem Row.one40{b:Nat}{E:TypeId}{fr:Nat×Nat}(m:h[b]? =some (.cells (roc x).toArray E fr)):Row h (.slice (some ⟨b,0,none⟩) 1 1) 1 40 (rorow [x]):=by
  rw[show rorow [x]=roc x from List.append_nil _];exact Row.blk m rfl
theorem Row.one39{b:Nat}{E:TypeId}{fr:Nat×Nat}(m:h[b]? =some (.cells (rcs (rcO x)).toArray E fr)):Row h (.slice (some ⟨b,0,none⟩) 1 1) 1 39 (rrow [rcO x]):=by
  rw[show rrow [rcO x]=rcs (rcO x) from List.append_nil _];exact Row.blk m rfl
theorem RModA.put1{W:Nat→Prop}{h h':Heap}{rb c:Nat}{M:Md}{T:List RO}{oa:Option Addr}{oc:Nat}{ea:Option Addr}{ec:Nat}{es:List Value}{cs:Array Value}{E:TypeId}{fr:Nat×Nat}(m:RModA W h rb M T oa oc ea ec es)(g:Grew (some c) h h')(k:h[c]? =some (.cells cs E fr))(hE:Eok E=false)(hT:E≠97)(hn:rb≠c):RModA W h' rb M T oa oc ea ec es:=
  m.fr (F:=fun i=>i=c) ⟨g.1,fun _ hi hne=>g.2 _ hi fun e=>hne (Option.some.inj e)⟩ (fun _ e=>e▸⟨.inl (NonRow.cells k hE),NonT.cells k hT⟩) hn
theorem _root_.Go.Sha.RModW.put1{W:Nat→Prop}{h h':Heap}{rb c:Nat}{M:Md}{cs:Array Value}{E:TypeId}{fr:Nat×Nat}(m:RModW W h rb M)(g:Grew (some c) h h')(k:h[c]? =some (.cells cs E fr))(hE:Eok E=false∧E≠97)(hn:rb≠c):RModW W h' rb M:=by
  obtain⟨T,oa,oc,ea,ec,es,m⟩:=m;exact⟨T,oa,oc,ea,ec,es,RModA.put1 m g k hE.1 hE.2 hn⟩
theorem Row.takeO(r:Row h (.slice va (A++B).length c) (A++B).length 40 (rorow (A++B))):Row h (.slice va A.length c) A.length 40 (rorow A):=by
  refine⟨rorow_len A, ?_⟩
  rcases r.2 with⟨e,h0⟩|⟨a,cap,e,hc,hx⟩
  · rw [List.length_append] at h0
    have h1:A.length =0:=by omega
    simp only[Value.slice.injEq] at e
    obtain⟨rfl,_,rfl⟩:=e
    exact .inl ⟨by rw[h1],h1⟩
  · simp only [Value.slice.injEq] at e
    obtain⟨rfl,_,rfl⟩:=e
    exact .inr ⟨a,_,rfl,by rw[List.length_append] at hc;omega,fun j u hu=>hx j u (by show((A++B).flatMap roc)[j]? =_;rw[List.flatMap_append,List.getElem?_append_left (List.getElem?_eq_some_iff.1 hu).1];exact hu)⟩
theorem Row.dropO(r:Row h (.slice va (A++B).length c) (A++B).length 40 (rorow (A++B)))(e:xa=if c=A.length then va else va.map (·.add (A.length *40))):Row h (.slice xa ((A++B).length - A.length) (c - A.length)) B.length 40 (rorow B):=by
  have hl:(A++B).length - A.length =B.length :=by simp
  rw[hl]
  refine⟨rorow_len B, ?_⟩
  rcases r.2 with⟨e2,h0⟩|⟨a,cap,e2,hc,hx⟩
  · rw [List.length_append] at h0
    have h1:A.length =0:=by omega
    have h2:B.length =0:=by omega
    simp only[Value.slice.injEq] at e2
    obtain⟨rfl,_,rfl⟩:=e2
    refine .inl ⟨?_,h2⟩
    rw[e,h1,h2];rfl
  · simp only [Value.slice.injEq] at e2
    obtain⟨rfl,_,rfl⟩:=e2
    rw[List.length_append] at hc
    by_cases hb:c=A.length
    · have h2 : B = [] := List.eq_nil_of_length_eq_zero (by omega)
      subst h2
      rw[if_pos hb] at e
      subst e
      exact .inr ⟨a,_,rfl,by simp,fun j u hu=>by simp[rorow] at hu⟩
    · rw [if_neg hb] at e
      subst e
      refine .inr ⟨a.add (A.length *40),_,rfl,by omega,fun j u hu=> ?_⟩
      rw[add_add]
      refine hx _ u ?_
      show((A++B).flatMap roc)[_]? =_
      rw[List.flatMap_append,List.getElem?_append_right (by rw[fm_length roc_len];omega),fm_length roc_len,Nat.add_sub_cancel_left]
      exact hu
theorem ro_splice{e:Int}{ho go:Bool}{ca:Option Addr}{cc:Nat}:splice (rorow (A++x::B)) (A.length *40) (rc x.o.b e ho go (.slice ca 0 cc))=rorow (A++⟨⟨x.o.b,e,ho,go,x.o.dt⟩,ca,cc,x.ba,x.bc⟩::B):=by
  have h1:(rorow A).length =A.length *40:=rorow_len A
  have h2:(rc x.o.b e ho go (.slice ca 0 cc)).length =39:=rfl
  have h3:(rc x.o.b x.o.e x.o.ho x.o.go (.slice x.ca 0 x.cc)).length =39:=rfl
  unfold splice
  show(((A++x::B).flatMap roc).take _++_++((A++x::B).flatMap roc).drop _)=(A++_::B).flatMap roc
  rw[List.flatMap_append,List.flatMap_append,List.flatMap_cons,List.flatMap_cons,List.take_left' h1, ←List.drop_drop,List.drop_left' h1,h2]
  show _=A.flatMap roc++((rc x.o.b e ho go (.slice ca 0 cc)++[_])++_)
  rw[show roc x++B.flatMap roc=rc x.o.b x.o.e x.o.ho x.o.go (.slice x.ca 0 x.cc)++([.slice x.ba x.o.dt.length x.bc]++B.flatMap roc) from List.append_assoc _ _ _,List.drop_left' h3]
  simp only[List.append_assoc]
end
end Go.Lane
end
section
namespace Go.Proofs.YtegkejcglfgpmaaGreatDoor
open Go Go.Lane Go.Sha
noncomputable def b122:Code:=Tryz.f122.body.getD .skip
theorem clone_no(h:Heap):Sat Tryz.prog 122 #[.slice none 0 0] h fun v h'=>PNew h h' 180 v []:=by
 refine sat_in Tryz.func122 8 fun a hF=> ?_
 refine qP [] hF fun a hF=> ?_
 refine cS ?_
 refine qP [(4,.bool true)] hF fun a hF=> ?_
 refine cT 4 hF ?_
 refine qP [(2,.slice none 0 0)] hF fun a hF=> ?_
 refine cR (yT ?_)
 refine rT 2 (.slice none 0 0) hF ?_
 exact⟨none,0,rfl,Own.nil _ _ _,(fun k e=>by cases e),Ext.refl h⟩
theorem clone_yes(h:Heap)(L:List Pl)(aa:Addr)(vc:Nat)(hr:Row h (.slice (some aa) L.length vc) L.length 4 (prow L))(hL:L.length ≤1099511627776):Sat Tryz.prog 122 #[.slice (some aa) L.length vc] h fun v h'=>PNew h h' 180 v L:=by
 have e0:=Ext.refl h
 have sep:Sep h.size h.size []:=Sep.nil _ _
 refine sat_in Tryz.func122 8 fun a hF=> ?_
 refine qP [] hF fun a hF=> ?_
 refine cS ?_
 refine qP [(4,.bool false)] hF fun a hF=> ?_
 refine cF 4 hF ?_
 refine cN ?_
 refine tK ?_
 refine qS hF ?_
 refine tN 0 (.slice (some ⟨h.size,0,none⟩) 0 0) #[] 180 fun h1 g2 m3=> ?_
 replace sep:=sep.nw e0.size m3
 have own_v:Own h1 (.slice (some ⟨h.size,0,none⟩) 0 0) 180 ([]:List Pl).length 4 (prow []):=Own.empty 4 m3
 replace sep:Sep h.size h1.size [(some ⟨h.size,0,none⟩:Option Addr).map (·.block)]:=sep
 replace e0:=e0.ext g2
 replace hr:=hr.ext g2
 clear m3
 refine tP 2 L.length 32 (prow L) own_v hr (prow_one _) (fun ad4 cap5 h6 own_v g7 hb8=> ?_) (hl:=(by unfold maxLen;simp;omega)) (hb:=(by simp;omega)) (hZ:=by first|rfl|exact List.flatMap_append.symm |simp[prow])
 clear hr
 have s9:=sep
 replace sep:=sep.sa g7 0 hb8 own_v e0.size;clear hb8
 refine sT [(2,.slice ad4 L.length cap5)] fun a hF=> ?_
 refine cR ?_
 refine rT 2 (.slice ad4 L.length cap5) hF ?_
 replace e0:=e0.grew g7 (s9.l 0)
 exact⟨_,_,rfl,own_v,sep.low 0 rfl,e0⟩
theorem clone_sat(h:Heap)(L:List Pl)(va:Option Addr)(vc:Nat)(hr:Row h (.slice va L.length vc) L.length 4 (prow L))(hL:L.length ≤1099511627776):Sat Tryz.prog 122 #[.slice va L.length vc] h fun v h'=>PNew h h' 180 v L:=by
 cases va with
 | none =>
  rcases hr.2 with⟨e,e1⟩|⟨a,cap,e,_⟩
  ·simp only[Value.slice.injEq,true_and] at e
   obtain rfl:L=[]:=List.eq_nil_of_length_eq_zero e1
   obtain rfl:vc=0:=e.2
   exact clone_no h
  ·cases e
 |some aa=>exact clone_yes h L aa vc hr hL
end Go.Proofs.YtegkejcglfgpmaaGreatDoor
end
section
namespace Go.Proofs.YtegkejcglfgpmaaGreatDoor
open Go Go.Lane Go.Sha
noncomputable def b101:Code:=Tryz.f101.body.getD .skip
theorem lockc_sat(h:Heap)(br:Nat)(x:RB)(e:Int)(ho go:Bool)(va:Option Addr)(n vc:Nat)(hm:h[br]? =some (.cells (rc x e ho go (.slice va n vc)).toArray 95))(bu:Nat)(u:Int)(hu:h[bu]? =some (.cells #[.int .i64 u] 3))(hne:bu≠br):Sat Tryz.prog 101 #[.pointer (some ⟨br,0,none⟩),.pointer (some ⟨bu,0,none⟩)] h fun _ h'=>h'[br]? =some (.cells (rc x (max e u) ho go (.slice va n vc)).toArray 95)∧Grew (some br) h h':=by
 have g0:=Grew.refl (some br) h
 refine sat_in Tryz.func101 12 fun a hF=> ?_
 refine cD [0,0,2,6,14,0,62,127,255,511] 0 mixed hF ?_
 refine mP 15 [0,1,2,3] [pV br,pV br,pV br,.pointer (some ⟨br,35,none⟩)] ?_
 refine mO 31 16 4 35 (.int .i64 e) hm ?_
 refine mO 63 48 5 0 (.int .i64 u) hu ?_
 refine m1 127 6 (.int .i64 (max e u)) (.int .i64 (if u>e then u else e)) (congrArg (Value.int .i64) (by rw[Int.max_def];split<;>split<;>omega)) ?_
 refine mP 511 [7,8] [pV br,.pointer (some ⟨br,35,none⟩)] ?_
 refine mV 1023 1023 9 35 [.int .i64 (max e u)] (rc x (max e u) ho go (.slice va n vc)) hm fun h1 g2 zq=> ?_
 replace g0:=g0.trans g2
 replace hu:=hu.y g2
 replace hm:=zq
 refine mE [] fun a hF=> ?_
 refine n0 hF ?_
 exact⟨hm,g0⟩
noncomputable def b102:Code:=Tryz.f102.body.getD .skip
theorem holdc_sat(h:Heap)(br:Nat)(x:RB)(e:Int)(ho go:Bool)(va:Option Addr)(n vc:Nat)(hm:h[br]? =some (.cells (rc x e ho go (.slice va n vc)).toArray 95))(bu:Nat)(on:Bool)(hu:h[bu]? =some (.cells #[.bool on] 4))(hne:bu≠br):Sat Tryz.prog 102 #[.pointer (some ⟨br,0,none⟩),.pointer (some ⟨bu,0,none⟩)] h fun _ h'=>h'[br]? =some (.cells (rc x e on go (.slice va n vc)).toArray 95)∧Grew (some br) h h':=by
 have g0:=Grew.refl (some br) h
 refine sat_in Tryz.func102 7 fun a hF=> ?_
 refine rS hF ?_
 refine tO 1 0 hu ?_
 refine tV 4 36 [.bool on] (rc x e on go (.slice va n vc)) hm fun h1 g2 zq=> ?_
 replace g0:=g0.trans g2
 replace hu:=hu.y g2
 replace hm:=zq
 refine sE [] fun a hF=> ?_
 refine n0 hF ?_
 exact⟨hm,g0⟩
noncomputable def b103:Code:=Tryz.f103.body.getD .skip
theorem delc_sat(h:Heap)(br:Nat)(x:RB)(e:Int)(ho go:Bool)(va:Option Addr)(n vc:Nat)(hm:h[br]? =some (.cells (rc x e ho go (.slice va n vc)).toArray 95)):Sat Tryz.prog 103 #[.pointer (some ⟨br,0,none⟩)] h fun _ h'=>h'[br]? =some (.cells (rc x e ho true (.slice none 0 0)).toArray 95)∧Grew (some br) h h':=by
 have g0:=Grew.refl (some br) h
 refine sat_in Tryz.func103 8 fun a hF=> ?_
 refine rS hF ?_
 refine tV 4 37 [.bool true] (rc x e ho true (.slice va n vc)) hm fun h1 g2 zq=> ?_
 replace g0:=g0.trans g2
 replace hm:=zq
 refine tV 7 38 [.slice none 0 0] (rc x e ho true (.slice none 0 0)) hm fun h3 g4 zq=> ?_
 replace g0:=g0.trans g4
 replace hm:=zq
 refine sE [] fun a hF=> ?_
 refine n0 hF ?_
 exact⟨hm,g0⟩
noncomputable def b100:Code:=Tryz.f100.body.getD .skip
theorem turned_lock(h:Heap)(x:RB)(e:Int)(ho go:Bool)(L:List Pl)(va:Option Addr)(vc:Nat)(hr:Row h (.slice va L.length vc) L.length 4 (prow L))(hL:L.length ≤1099511627776)(bu:Nat)(u:Int)(hu:h[bu]? =some (.cells #[.int .i64 u] 3)):Sat Tryz.prog 100 #[.agg (rc x e ho go (.slice va L.length vc)).toArray,.func (.func 101) #[] #[.pointer (some ⟨bu,0,none⟩)]] h fun v h'=>∃c,v= .agg (rc x (max e u) ho go c).toArray ∧PNew h h' 180 c L:=by
 have e0:=Ext.refl h
 have sep:Sep h.size h.size []:=Sep.nil _ _
 have hbu:=blk_lt hu
 refine sat_in Tryz.func100 12 fun a hF=> ?_
 refine qS hF ?_
 refine tN 0 (pV h.size) ((rc x e ho go (.slice va L.length vc)).toArray) 95 fun h1 g2 m3=> ?_
 replace sep:=sep.nw e0.size m3
 refine tN 1 (pV h1.size) ((rc rb0 (0:Int) false false (.slice none 0 0)).toArray) 95 fun h4 g5 m6=> ?_
 replace e0:=e0.ext g2
 replace sep:=sep.nw e0.size m6
 refine sT [(2,pV h.size),(4,pV h1.size)] fun a hF=> ?_
 refine qS hF ?_
 replace m3:=m3.x g5
 refine tO 1 38 m3 ?_
 replace e0:=e0.ext g5
 refine tG 2 (clone_sat _ L va vc (hr.ext e0) hL) ?_
 rintro _ h9 ⟨ad7,cap8,rfl,ownx,hge,g⟩
 have hlo:=e0.size
 have sepo:=sep
 replace hu:=(hu.x g2).x g5
 replace e0:=e0.ext g
 replace hu:=hu.x g
 replace m3:=m3.x g
 replace m6:=m6.x g
 replace sep:=sep.up g.size
 replace sep:=sepo.cons (x:=ad7.map (fun(x:Addr)=>x.block)) g.size hlo (fun k e=>⟨hge k e,ownx.lt (by rw[blkOf_slice];exact e)⟩)
 have own_c:Own h9 (.slice ad7 L.length cap8) 180 L.length 4 (prow L):=ownx;clear ownx sepo hlo hge g
 refine tV 4 38 [.slice ad7 L.length cap8] (rc x e ho go (.slice ad7 L.length cap8)) m3 fun h10 g11 zq=> ?_
 replace hu:=hu.y g11 (fun e=>by have:=sep.low 2 rfl _ e.symm;omega)
 replace m3:=zq
 refine sT [] fun a hF=> ?_
 refine qS hF ?_
 refine tF 1 (Does.call (f:=101) (args:= #[.pointer (some ⟨h.size,0,none⟩),.pointer (some ⟨bu,0,none⟩)]) (by kernel_rfl) (lockc_sat _ _ x e ho go _ _ _ m3 bu u hu (by have:=hbu;omega))) ?_
 rintro _ h12 ⟨hm2,g⟩
 replace e0:=e0.grew g11 (sep.l 2)
 replace own_c:=own_c.k g11 (sep.ap 0 2)
 replace m6:=m6.y g11 (sep.bp 1 2)
 replace sep:=sep.up g11.size
 replace e0:=e0.grew g (sep.l 2)
 replace own_c:=own_c.k g (sep.ap 0 2)
 replace hu:=hu.y g (fun e=>by have:=sep.low 2 rfl _ e.symm;omega)
 replace m6:=m6.y g (sep.bp 1 2)
 replace sep:=sep.up g.size
 clear m3;have m3:=hm2;clear hm2 g
 refine sT [] fun a hF=> ?_
 refine qS hF ?_
 refine tR 0 m3 ?_
 refine tV0 1 (rc x (max e u) ho go (.slice ad7 L.length cap8)) m6 fun h13 g14 zq=> ?_
 replace hu:=hu.y g14 (fun e=>by have:=sep.low 1 rfl _ e.symm;omega)
 replace m6:=zq
 refine sT [] fun a hF=> ?_
 refine cR ?_
 refine rB m6 hF ?_
 replace e0:=e0.grew g14 (sep.l 1)
 replace own_c:=own_c.k g14 (sep.ap 0 1)
 exact⟨_,rfl,⟨_,_,rfl,own_c,sep.low 0 rfl,e0⟩⟩
theorem turned_hold(h:Heap)(x:RB)(e:Int)(ho go:Bool)(L:List Pl)(va:Option Addr)(vc:Nat)(hr:Row h (.slice va L.length vc) L.length 4 (prow L))(hL:L.length ≤1099511627776)(bu:Nat)(on:Bool)(hu:h[bu]? =some (.cells #[.bool on] 4)):Sat Tryz.prog 100 #[.agg (rc x e ho go (.slice va L.length vc)).toArray,.func (.func 102) #[] #[.pointer (some ⟨bu,0,none⟩)]] h fun v h'=>∃c,v= .agg (rc x e on go c).toArray ∧PNew h h' 180 c L:=by
 have e0:=Ext.refl h
 have sep:Sep h.size h.size []:=Sep.nil _ _
 have hbu:=blk_lt hu
 refine sat_in Tryz.func100 12 fun a hF=> ?_
 refine qS hF ?_
 refine tN 0 (pV h.size) ((rc x e ho go (.slice va L.length vc)).toArray) 95 fun h1 g2 m3=> ?_
 replace sep:=sep.nw e0.size m3
 refine tN 1 (pV h1.size) ((rc rb0 (0:Int) false false (.slice none 0 0)).toArray) 95 fun h4 g5 m6=> ?_
 replace e0:=e0.ext g2
 replace sep:=sep.nw e0.size m6
 refine sT [(2,pV h.size),(4,pV h1.size)] fun a hF=> ?_
 refine qS hF ?_
 replace m3:=m3.x g5
 refine tO 1 38 m3 ?_
 replace e0:=e0.ext g5
 refine tG 2 (clone_sat _ L va vc (hr.ext e0) hL) ?_
 rintro _ h9 ⟨ad7,cap8,rfl,ownx,hge,g⟩
 have hlo:=e0.size
 have sepo:=sep
 replace hu:=(hu.x g2).x g5
 replace e0:=e0.ext g
 replace hu:=hu.x g
 replace m3:=m3.x g
 replace m6:=m6.x g
 replace sep:=sep.up g.size
 replace sep:=sepo.cons (x:=ad7.map (fun(x:Addr)=>x.block)) g.size hlo (fun k e=>⟨hge k e,ownx.lt (by rw[blkOf_slice];exact e)⟩)
 have own_c:Own h9 (.slice ad7 L.length cap8) 180 L.length 4 (prow L):=ownx;clear ownx sepo hlo hge g
 refine tV 4 38 [.slice ad7 L.length cap8] (rc x e ho go (.slice ad7 L.length cap8)) m3 fun h10 g11 zq=> ?_
 replace hu:=hu.y g11 (fun e=>by have:=sep.low 2 rfl _ e.symm;omega)
 replace m3:=zq
 refine sT [] fun a hF=> ?_
 refine qS hF ?_
 refine tF 1 (Does.call (f:=102) (args:= #[.pointer (some ⟨h.size,0,none⟩),.pointer (some ⟨bu,0,none⟩)]) (by kernel_rfl) (holdc_sat _ _ x e ho go _ _ _ m3 bu on hu (by have:=hbu;omega))) ?_
 rintro _ h12 ⟨hm2,g⟩
 replace e0:=e0.grew g11 (sep.l 2)
 replace own_c:=own_c.k g11 (sep.ap 0 2)
 replace m6:=m6.y g11 (sep.bp 1 2)
 replace sep:=sep.up g11.size
 replace e0:=e0.grew g (sep.l 2)
 replace own_c:=own_c.k g (sep.ap 0 2)
 replace hu:=hu.y g (fun e=>by have:=sep.low 2 rfl _ e.symm;omega)
 replace m6:=m6.y g (sep.bp 1 2)
 replace sep:=sep.up g.size
 clear m3;have m3:=hm2;clear hm2 g
 refine sT [] fun a hF=> ?_
 refine qS hF ?_
 refine tR 0 m3 ?_
 refine tV0 1 (rc x e on go (.slice ad7 L.length cap8)) m6 fun h13 g14 zq=> ?_
 replace hu:=hu.y g14 (fun e=>by have:=sep.low 1 rfl _ e.symm;omega)
 replace m6:=zq
 refine sT [] fun a hF=> ?_
 refine cR ?_
 refine rB m6 hF ?_
 replace e0:=e0.grew g14 (sep.l 1)
 replace own_c:=own_c.k g14 (sep.ap 0 1)
 exact⟨_,rfl,⟨_,_,rfl,own_c,sep.low 0 rfl,e0⟩⟩
theorem turned_del(h:Heap)(x:RB)(e:Int)(ho go:Bool)(L:List Pl)(va:Option Addr)(vc:Nat)(hr:Row h (.slice va L.length vc) L.length 4 (prow L))(hL:L.length ≤1099511627776):Sat Tryz.prog 100 #[.agg (rc x e ho go (.slice va L.length vc)).toArray,.func (.func 103) #[] #[]] h fun v h'=>v= .agg (rc x e ho true (.slice none 0 0)).toArray ∧Ext h h':=by
 have e0:=Ext.refl h
 have sep:Sep h.size h.size []:=Sep.nil _ _
 refine sat_in Tryz.func100 12 fun a hF=> ?_
 refine qS hF ?_
 refine tN 0 (pV h.size) ((rc x e ho go (.slice va L.length vc)).toArray) 95 fun h1 g2 m3=> ?_
 replace sep:=sep.nw e0.size m3
 refine tN 1 (pV h1.size) ((rc rb0 (0:Int) false false (.slice none 0 0)).toArray) 95 fun h4 g5 m6=> ?_
 replace e0:=e0.ext g2
 replace sep:=sep.nw e0.size m6
 refine sT [(2,pV h.size),(4,pV h1.size)] fun a hF=> ?_
 refine qS hF ?_
 replace m3:=m3.x g5
 refine tO 1 38 m3 ?_
 replace e0:=e0.ext g5
 refine tG 2 (clone_sat _ L va vc (hr.ext e0) hL) ?_
 rintro _ h9 ⟨ad7,cap8,rfl,ownx,hge,g⟩
 have hlo:=e0.size
 have sepo:=sep
 replace e0:=e0.ext g
 replace m3:=m3.x g
 replace m6:=m6.x g
 replace sep:=sep.up g.size
 replace sep:=sepo.cons (x:=ad7.map (fun(x:Addr)=>x.block)) g.size hlo (fun k e=>⟨hge k e,ownx.lt (by rw[blkOf_slice];exact e)⟩)
 have own_c:Own h9 (.slice ad7 L.length cap8) 180 L.length 4 (prow L):=ownx;clear ownx sepo hlo hge g
 refine tV 4 38 [.slice ad7 L.length cap8] (rc x e ho go (.slice ad7 L.length cap8)) m3 fun h10 g11 zq=> ?_
 replace m3:=zq
 refine sT [] fun a hF=> ?_
 refine qS hF ?_
 refine tF 1 (Does.call (f:=103) (args:= #[.pointer (some ⟨h.size,0,none⟩)]) (by kernel_rfl) (delc_sat _ _ x e ho go _ _ _ m3)) ?_
 rintro _ h12 ⟨hm2,g⟩
 replace e0:=e0.grew g11 (sep.l 2)
 replace own_c:=own_c.k g11 (sep.ap 0 2)
 replace m6:=m6.y g11 (sep.bp 1 2)
 replace sep:=sep.up g11.size
 replace e0:=e0.grew g (sep.l 2)
 replace own_c:=own_c.k g (sep.ap 0 2)
 replace m6:=m6.y g (sep.bp 1 2)
 replace sep:=sep.up g.size
 clear m3;have m3:=hm2;clear hm2 g
 refine sT [] fun a hF=> ?_
 refine qS hF ?_
 refine tR 0 m3 ?_
 refine tV0 1 (rc x e ho true (.slice none 0 0)) m6 fun h13 g14 zq=> ?_
 replace m6:=zq
 refine sT [] fun a hF=> ?_
 refine cR ?_
 refine rB m6 hF ?_
 replace e0:=e0.grew g14 (sep.l 1)
 exact⟨rfl,e0⟩
end Go.Proofs.YtegkejcglfgpmaaGreatDoor
end
section
namespace Go.Proofs.YtegkejcglfgpmaaGreatDoor
open Go Go.Lane Go.Sha
noncomputable def b68:Code:=Tryz.f68.body.getD .skip
theorem lock_gone(h:Heap)(x:RB)(e:Int)(ho:Bool)(L:List Pl)(va:Option Addr)(vc:Nat)(u:Int)(hu0:0≤u)(hu:u≤1099511627776):Sat Tryz.prog 68 #[.agg (rc x e ho true (.slice va L.length vc)).toArray,.int .i64 u] h fun v h'=>v= .tuple #[.agg (rc rb0 (0:Int) false false (.slice none 0 0)).toArray,.int .i64 213]∧Ext h h':=by
 have e0:=Ext.refl h
 have sep:Sep h.size h.size []:=Sep.nil _ _
 refine sat_in Tryz.func68 21 fun a hF=> ?_
 refine qS hF ?_
 refine tN 0 (pV h.size) ((rc x e ho true (.slice va L.length vc)).toArray) 95 fun h1 g2 m3=> ?_
 replace sep:=sep.nw e0.size m3
 refine tN 1 (pV h1.size) #[.int .i64 u] 3 fun h4 g5 m6=> ?_
 replace e0:=e0.ext g2
 replace sep:=sep.nw e0.size m6
 refine tN 2 (pV h4.size) ((rc rb0 (0:Int) false false (.slice none 0 0)).toArray) 95 fun h7 g8 m9=> ?_
 replace e0:=e0.ext g5
 replace sep:=sep.nw e0.size m9
 refine sT [(2,pV h.size),(3,pV h1.size),(4,pV h4.size)] fun a hF=> ?_
 refine cS ?_
 refine cB 0 ?_
 refine qS hF ?_
 replace m6:=m6.x g8
 refine tO 0 0 m6 ?_
 refine tX 1 (u<(0:Int)) ?_
 refine tO 3 0 m6 ?_
 refine tX 4 ((1099511627776:Int)<u) ?_
 refine sT [(6,.bool false)] fun a hF=> ?_
 refine cF 6 hF ?_
 refine qS hF ?_
 replace m3:=(m3.x g5).x g8
 refine tO 1 37 m3 ?_
 refine sT [(14,.bool true)] fun a hF=> ?_
 refine cT 14 hF ?_
 refine qS hF ?_
 refine tV0 1 (rc rb0 (0:Int) false false (.slice none 0 0)) m9 fun h10 g11 zq=> ?_
 replace m9:=zq
 refine sT [(5,.int .i64 213)] fun a hF=> ?_
 refine cR (yB (yT ?_))
 refine ret_ok [.cell 4 95,.tmp 5] [.agg (rc rb0 (0:Int) false false (.slice none 0 0)).toArray,.int .i64 213] (.tuple #[.agg (rc rb0 (0:Int) false false (.slice none 0 0)).toArray,.int .i64 213]) rfl hF ⟨⟨_,rfl,Loads.blk (vs:=rc rb0 (0:Int) false false (.slice none 0 0)) (by kernel_rfl) m9 rfl⟩,rfl,trivial⟩ rfl ?_
 replace e0:=(e0.ext g8).grew g11 (sep.l 0)
 exact⟨rfl,e0⟩
theorem lock_ok(h:Heap)(x:RB)(e:Int)(ho:Bool)(L:List Pl)(va:Option Addr)(vc:Nat)(hr:Row h (.slice va L.length vc) L.length 4 (prow L))(hL:L.length ≤1099511627776)(u:Int)(hu0:0≤u)(hu:u≤1099511627776):Sat Tryz.prog 68 #[.agg (rc x e ho false (.slice va L.length vc)).toArray,.int .i64 u] h fun v h'=>∃c,v= .tuple #[.agg (rc x (max e u) ho false c).toArray,.int .i64 0]∧PNew h h' 180 c L:=by
 have e0:=Ext.refl h
 have sep:Sep h.size h.size []:=Sep.nil _ _
 refine sat_in Tryz.func68 21 fun a hF=> ?_
 refine qS hF ?_
 refine tN 0 (pV h.size) ((rc x e ho false (.slice va L.length vc)).toArray) 95 fun h1 g2 m3=> ?_
 replace sep:=sep.nw e0.size m3
 refine tN 1 (pV h1.size) #[.int .i64 u] 3 fun h4 g5 m6=> ?_
 replace e0:=e0.ext g2
 replace sep:=sep.nw e0.size m6
 refine tN 2 (pV h4.size) ((rc rb0 (0:Int) false false (.slice none 0 0)).toArray) 95 fun h7 g8 m9=> ?_
 replace e0:=e0.ext g5
 replace sep:=sep.nw e0.size m9
 refine sT [(2,pV h.size),(3,pV h1.size),(4,pV h4.size)] fun a hF=> ?_
 refine cS ?_
 refine cB 0 ?_
 refine qS hF ?_
 replace m6:=m6.x g8
 refine tO 0 0 m6 ?_
 refine tX 1 (u<(0:Int)) ?_
 refine tO 3 0 m6 ?_
 refine tX 4 ((1099511627776:Int)<u) ?_
 refine sT [(6,.bool false)] fun a hF=> ?_
 refine cF 6 hF ?_
 refine qS hF ?_
 replace m3:=(m3.x g5).x g8
 refine tO 1 37 m3 ?_
 refine sT [(14,.bool false)] fun a hF=> ?_
 refine cF 14 hF ?_
 refine cN ?_
 refine bK ?_
 refine tK ?_
 refine qS hF ?_
 refine tR 0 m3 ?_
 replace e0:=e0.ext g8
 refine tG 2 (turned_lock _ x e ho false L va vc (hr.ext e0) hL _ u m6) ?_
 rintro _ h12 ⟨_,rfl,ad10,cap11,rfl,ownx,hge,g⟩
 have hlo:=e0.size
 have sepo:=sep
 replace e0:=e0.ext g
 replace m3:=m3.x g
 replace m6:=m6.x g
 replace m9:=m9.x g
 replace sep:=sep.up g.size
 replace sep:=sepo.cons (x:=ad10.map (fun(x:Addr)=>x.block)) g.size hlo (fun k e=>⟨hge k e,ownx.lt (by rw[blkOf_slice];exact e)⟩)
 have own_c:Own h12 (.slice ad10 L.length cap11) 180 L.length 4 (prow L):=ownx;clear ownx sepo hlo hge g
 refine tV0 3 (rc x (max e u) ho false (.slice ad10 L.length cap11)) m9 fun h13 g14 zq=> ?_
 replace m9:=zq
 refine sT [(5,.int .i64 0)] fun a hF=> ?_
 refine cR ?_
 refine ret_ok [.cell 4 95,.tmp 5] [.agg (rc x (max e u) ho false (.slice ad10 L.length cap11)).toArray,.int .i64 0] (.tuple #[.agg (rc x (max e u) ho false (.slice ad10 L.length cap11)).toArray,.int .i64 0]) rfl hF ⟨⟨_,rfl,Loads.blk (vs:=rc x (max e u) ho false (.slice ad10 L.length cap11)) (by kernel_rfl) m9 rfl⟩,rfl,trivial⟩ rfl ?_
 replace e0:=e0.grew g14 (sep.l 1)
 replace own_c:=own_c.k g14 (sep.ap 0 1)
 exact⟨_,rfl,⟨_,_,rfl,own_c,sep.low 0 rfl,e0⟩⟩
noncomputable def b69:Code:=Tryz.f69.body.getD .skip
theorem hold_gone(h:Heap)(x:RB)(e:Int)(ho:Bool)(L:List Pl)(va:Option Addr)(vc:Nat)(on:Bool):Sat Tryz.prog 69 #[.agg (rc x e ho true (.slice va L.length vc)).toArray,.bool on] h fun v h'=>v= .tuple #[.agg (rc rb0 (0:Int) false false (.slice none 0 0)).toArray,.int .i64 213]∧Ext h h':=by
 have e0:=Ext.refl h
 have sep:Sep h.size h.size []:=Sep.nil _ _
 refine sat_in Tryz.func69 12 fun a hF=> ?_
 refine qS hF ?_
 refine tN 0 (pV h.size) ((rc x e ho true (.slice va L.length vc)).toArray) 95 fun h1 g2 m3=> ?_
 replace sep:=sep.nw e0.size m3
 refine tN 1 (pV h1.size) #[.bool on] 4 fun h4 g5 m6=> ?_
 replace e0:=e0.ext g2
 replace sep:=sep.nw e0.size m6
 refine tN 2 (pV h4.size) ((rc rb0 (0:Int) false false (.slice none 0 0)).toArray) 95 fun h7 g8 m9=> ?_
 replace e0:=e0.ext g5
 replace sep:=sep.nw e0.size m9
 refine sT [(2,pV h.size),(3,pV h1.size),(4,pV h4.size)] fun a hF=> ?_
 refine cS ?_
 refine qS hF ?_
 replace m3:=(m3.x g5).x g8
 refine tO 1 37 m3 ?_
 refine sT [(7,.bool true)] fun a hF=> ?_
 refine cT 7 hF ?_
 refine qS hF ?_
 refine tV0 1 (rc rb0 (0:Int) false false (.slice none 0 0)) m9 fun h10 g11 zq=> ?_
 replace m9:=zq
 refine sT [(5,.int .i64 213)] fun a hF=> ?_
 refine cR (yT ?_)
 refine ret_ok [.cell 4 95,.tmp 5] [.agg (rc rb0 (0:Int) false false (.slice none 0 0)).toArray,.int .i64 213] (.tuple #[.agg (rc rb0 (0:Int) false false (.slice none 0 0)).toArray,.int .i64 213]) rfl hF ⟨⟨_,rfl,Loads.blk (vs:=rc rb0 (0:Int) false false (.slice none 0 0)) (by kernel_rfl) m9 rfl⟩,rfl,trivial⟩ rfl ?_
 replace e0:=(e0.ext g8).grew g11 (sep.l 0)
 exact⟨rfl,e0⟩
theorem hold_ok(h:Heap)(x:RB)(e:Int)(ho:Bool)(L:List Pl)(va:Option Addr)(vc:Nat)(hr:Row h (.slice va L.length vc) L.length 4 (prow L))(hL:L.length ≤1099511627776)(on:Bool):Sat Tryz.prog 69 #[.agg (rc x e ho false (.slice va L.length vc)).toArray,.bool on] h fun v h'=>∃c,v= .tuple #[.agg (rc x e on false c).toArray,.int .i64 0]∧PNew h h' 180 c L:=by
 have e0:=Ext.refl h
 have sep:Sep h.size h.size []:=Sep.nil _ _
 refine sat_in Tryz.func69 12 fun a hF=> ?_
 refine qS hF ?_
 refine tN 0 (pV h.size) ((rc x e ho false (.slice va L.length vc)).toArray) 95 fun h1 g2 m3=> ?_
 replace sep:=sep.nw e0.size m3
 refine tN 1 (pV h1.size) #[.bool on] 4 fun h4 g5 m6=> ?_
 replace e0:=e0.ext g2
 replace sep:=sep.nw e0.size m6
 refine tN 2 (pV h4.size) ((rc rb0 (0:Int) false false (.slice none 0 0)).toArray) 95 fun h7 g8 m9=> ?_
 replace e0:=e0.ext g5
 replace sep:=sep.nw e0.size m9
 refine sT [(2,pV h.size),(3,pV h1.size),(4,pV h4.size)] fun a hF=> ?_
 refine cS ?_
 refine qS hF ?_
 replace m3:=(m3.x g5).x g8
 refine tO 1 37 m3 ?_
 refine sT [(7,.bool false)] fun a hF=> ?_
 refine cF 7 hF ?_
 refine cN ?_
 refine tK ?_
 refine qS hF ?_
 refine tR 0 m3 ?_
 replace e0:=e0.ext g8
 replace m6:=m6.x g8
 refine tG 2 (turned_hold _ x e ho false L va vc (hr.ext e0) hL _ on m6) ?_
 rintro _ h12 ⟨_,rfl,ad10,cap11,rfl,ownx,hge,g⟩
 have hlo:=e0.size
 have sepo:=sep
 replace e0:=e0.ext g
 replace m3:=m3.x g
 replace m6:=m6.x g
 replace m9:=m9.x g
 replace sep:=sep.up g.size
 replace sep:=sepo.cons (x:=ad10.map (fun(x:Addr)=>x.block)) g.size hlo (fun k e=>⟨hge k e,ownx.lt (by rw[blkOf_slice];exact e)⟩)
 have own_c:Own h12 (.slice ad10 L.length cap11) 180 L.length 4 (prow L):=ownx;clear ownx sepo hlo hge g
 refine tV0 3 (rc x e on false (.slice ad10 L.length cap11)) m9 fun h13 g14 zq=> ?_
 replace m9:=zq
 refine sT [(5,.int .i64 0)] fun a hF=> ?_
 refine cR ?_
 refine ret_ok [.cell 4 95,.tmp 5] [.agg (rc x e on false (.slice ad10 L.length cap11)).toArray,.int .i64 0] (.tuple #[.agg (rc x e on false (.slice ad10 L.length cap11)).toArray,.int .i64 0]) rfl hF ⟨⟨_,rfl,Loads.blk (vs:=rc x e on false (.slice ad10 L.length cap11)) (by kernel_rfl) m9 rfl⟩,rfl,trivial⟩ rfl ?_
 replace e0:=e0.grew g14 (sep.l 1)
 replace own_c:=own_c.k g14 (sep.ap 0 1)
 exact⟨_,rfl,⟨_,_,rfl,own_c,sep.low 0 rfl,e0⟩⟩
noncomputable def b70:Code:=Tryz.f70.body.getD .skip
theorem del_gone(h:Heap)(x:RB)(e:Int)(ho:Bool)(L:List Pl)(va:Option Addr)(vc:Nat)(u:Int):Sat Tryz.prog 70 #[.agg (rc x e ho true (.slice va L.length vc)).toArray,.int .i64 u] h fun v h'=>v= .tuple #[.agg (rc rb0 (0:Int) false false (.slice none 0 0)).toArray,.int .i64 213]∧Ext h h':=by
 have e0:=Ext.refl h
 have sep:Sep h.size h.size []:=Sep.nil _ _
 refine sat_in Tryz.func70 22 fun a hF=> ?_
 refine qS hF ?_
 refine tN 0 (pV h.size) ((rc x e ho true (.slice va L.length vc)).toArray) 95 fun h1 g2 m3=> ?_
 replace sep:=sep.nw e0.size m3
 refine tN 1 (pV h1.size) ((rc rb0 (0:Int) false false (.slice none 0 0)).toArray) 95 fun h4 g5 m6=> ?_
 replace e0:=e0.ext g2
 replace sep:=sep.nw e0.size m6
 refine sT [(2,pV h.size),(4,pV h1.size)] fun a hF=> ?_
 refine cS ?_
 refine cB 0 ?_
 refine qS hF ?_
 replace m3:=m3.x g5
 refine tO 1 37 m3 ?_
 refine sT [(6,.bool true)] fun a hF=> ?_
 refine cT 6 hF ?_
 refine qS hF ?_
 refine tV0 1 (rc rb0 (0:Int) false false (.slice none 0 0)) m6 fun h7 g8 zq=> ?_
 replace m6:=zq
 refine sT [(5,.int .i64 213)] fun a hF=> ?_
 refine cR (yB (yT ?_))
 refine ret_ok [.cell 4 95,.tmp 5] [.agg (rc rb0 (0:Int) false false (.slice none 0 0)).toArray,.int .i64 213] (.tuple #[.agg (rc rb0 (0:Int) false false (.slice none 0 0)).toArray,.int .i64 213]) rfl hF ⟨⟨_,rfl,Loads.blk (vs:=rc rb0 (0:Int) false false (.slice none 0 0)) (by kernel_rfl) m6 rfl⟩,rfl,trivial⟩ rfl ?_
 replace e0:=(e0.ext g5).grew g8 (sep.l 0)
 exact⟨rfl,e0⟩
theorem del_held(h:Heap)(x:RB)(e:Int) (L:List Pl)(va:Option Addr)(vc:Nat)(u:Int):Sat Tryz.prog 70 #[.agg (rc x e true false (.slice va L.length vc)).toArray,.int .i64 u] h fun v h'=>v= .tuple #[.agg (rc rb0 (0:Int) false false (.slice none 0 0)).toArray,.int .i64 214]∧Ext h h':=by
 have e0:=Ext.refl h
 have sep:Sep h.size h.size []:=Sep.nil _ _
 refine sat_in Tryz.func70 22 fun a hF=> ?_
 refine qS hF ?_
 refine tN 0 (pV h.size) ((rc x e true false (.slice va L.length vc)).toArray) 95 fun h1 g2 m3=> ?_
 replace sep:=sep.nw e0.size m3
 refine tN 1 (pV h1.size) ((rc rb0 (0:Int) false false (.slice none 0 0)).toArray) 95 fun h4 g5 m6=> ?_
 replace e0:=e0.ext g2
 replace sep:=sep.nw e0.size m6
 refine sT [(2,pV h.size),(4,pV h1.size)] fun a hF=> ?_
 refine cS ?_
 refine cB 0 ?_
 refine qS hF ?_
 replace m3:=m3.x g5
 refine tO 1 37 m3 ?_
 refine sT [(6,.bool false)] fun a hF=> ?_
 refine cF 6 hF ?_
 refine qS hF ?_
 refine tO 1 36 m3 ?_
 refine sT [(10,.bool true)] fun a hF=> ?_
 refine cT 10 hF ?_
 refine qS hF ?_
 refine tV0 1 (rc rb0 (0:Int) false false (.slice none 0 0)) m6 fun h7 g8 zq=> ?_
 replace m6:=zq
 refine sT [(5,.int .i64 214)] fun a hF=> ?_
 refine cR (yB (yT ?_))
 refine ret_ok [.cell 4 95,.tmp 5] [.agg (rc rb0 (0:Int) false false (.slice none 0 0)).toArray,.int .i64 214] (.tuple #[.agg (rc rb0 (0:Int) false false (.slice none 0 0)).toArray,.int .i64 214]) rfl hF ⟨⟨_,rfl,Loads.blk (vs:=rc rb0 (0:Int) false false (.slice none 0 0)) (by kernel_rfl) m6 rfl⟩,rfl,trivial⟩ rfl ?_
 replace e0:=(e0.ext g5).grew g8 (sep.l 0)
 exact⟨rfl,e0⟩
theorem del_soon(h:Heap)(x:RB)(e:Int) (L:List Pl)(va:Option Addr)(vc:Nat)(u:Int)(hu:u<e):Sat Tryz.prog 70 #[.agg (rc x e false false (.slice va L.length vc)).toArray,.int .i64 u] h fun v h'=>v= .tuple #[.agg (rc rb0 (0:Int) false false (.slice none 0 0)).toArray,.int .i64 214]∧Ext h h':=by
 have e0:=Ext.refl h
 have sep:Sep h.size h.size []:=Sep.nil _ _
 refine sat_in Tryz.func70 22 fun a hF=> ?_
 refine qS hF ?_
 refine tN 0 (pV h.size) ((rc x e false false (.slice va L.length vc)).toArray) 95 fun h1 g2 m3=> ?_
 replace sep:=sep.nw e0.size m3
 refine tN 1 (pV h1.size) ((rc rb0 (0:Int) false false (.slice none 0 0)).toArray) 95 fun h4 g5 m6=> ?_
 replace e0:=e0.ext g2
 replace sep:=sep.nw e0.size m6
 refine sT [(2,pV h.size),(4,pV h1.size)] fun a hF=> ?_
 refine cS ?_
 refine cB 0 ?_
 refine qS hF ?_
 replace m3:=m3.x g5
 refine tO 1 37 m3 ?_
 refine sT [(6,.bool false)] fun a hF=> ?_
 refine cF 6 hF ?_
 refine qS hF ?_
 refine tO 1 36 m3 ?_
 refine tO 4 35 m3 ?_
 refine tT 6 (u<e) ?_
 refine sT [(10,.bool true)] fun a hF=> ?_
 refine cT 10 hF ?_
 refine qS hF ?_
 refine tV0 1 (rc rb0 (0:Int) false false (.slice none 0 0)) m6 fun h7 g8 zq=> ?_
 replace m6:=zq
 refine sT [(5,.int .i64 214)] fun a hF=> ?_
 refine cR (yB (yT ?_))
 refine ret_ok [.cell 4 95,.tmp 5] [.agg (rc rb0 (0:Int) false false (.slice none 0 0)).toArray,.int .i64 214] (.tuple #[.agg (rc rb0 (0:Int) false false (.slice none 0 0)).toArray,.int .i64 214]) rfl hF ⟨⟨_,rfl,Loads.blk (vs:=rc rb0 (0:Int) false false (.slice none 0 0)) (by kernel_rfl) m6 rfl⟩,rfl,trivial⟩ rfl ?_
 replace e0:=(e0.ext g5).grew g8 (sep.l 0)
 exact⟨rfl,e0⟩
theorem del_ok(h:Heap)(x:RB)(e:Int) (L:List Pl)(va:Option Addr)(vc:Nat)(hr:Row h (.slice va L.length vc) L.length 4 (prow L))(hL:L.length ≤1099511627776)(u:Int)(hu:e≤u):Sat Tryz.prog 70 #[.agg (rc x e false false (.slice va L.length vc)).toArray,.int .i64 u] h fun v h'=>v= .tuple #[.agg (rc x e false true (.slice none 0 0)).toArray,.int .i64 0]∧Ext h h':=by
 have e0:=Ext.refl h
 have sep:Sep h.size h.size []:=Sep.nil _ _
 refine sat_in Tryz.func70 22 fun a hF=> ?_
 refine qS hF ?_
 refine tN 0 (pV h.size) ((rc x e false false (.slice va L.length vc)).toArray) 95 fun h1 g2 m3=> ?_
 replace sep:=sep.nw e0.size m3
 refine tN 1 (pV h1.size) ((rc rb0 (0:Int) false false (.slice none 0 0)).toArray) 95 fun h4 g5 m6=> ?_
 replace e0:=e0.ext g2
 replace sep:=sep.nw e0.size m6
 refine sT [(2,pV h.size),(4,pV h1.size)] fun a hF=> ?_
 refine cS ?_
 refine cB 0 ?_
 refine qS hF ?_
 replace m3:=m3.x g5
 refine tO 1 37 m3 ?_
 refine sT [(6,.bool false)] fun a hF=> ?_
 refine cF 6 hF ?_
 refine qS hF ?_
 refine tO 1 36 m3 ?_
 refine tO 4 35 m3 ?_
 refine tX 6 (u<e) ?_
 refine sT [(10,.bool false)] fun a hF=> ?_
 refine cF 10 hF ?_
 refine cN ?_
 refine bK ?_
 refine tK ?_
 refine qS hF ?_
 refine tR 0 m3 ?_
 replace e0:=e0.ext g5
 refine tG 1 (turned_del _ x e false false L va vc (hr.ext e0) hL) ?_
 rintro _ h8 ⟨rfl,g7⟩
 replace m6:=m6.x g7
 refine tV0 2 (rc x e false true (.slice none 0 0)) m6 fun h9 g10 zq=> ?_
 replace m6:=zq
 refine sT [(5,.int .i64 0)] fun a hF=> ?_
 refine cR ?_
 refine ret_ok [.cell 4 95,.tmp 5] [.agg (rc x e false true (.slice none 0 0)).toArray,.int .i64 0] (.tuple #[.agg (rc x e false true (.slice none 0 0)).toArray,.int .i64 0]) rfl hF ⟨⟨_,rfl,Loads.blk (vs:=rc x e false true (.slice none 0 0)) (by kernel_rfl) m6 rfl⟩,rfl,trivial⟩ rfl ?_
 replace e0:=(e0.ext g7).grew g10 (sep.l 0)
 exact⟨rfl,e0⟩
end Go.Proofs.YtegkejcglfgpmaaGreatDoor
end
section
namespace Go.Proofs.YtegkejcglfgpmaaGreatDoor
open Go Go.Lane Go.Sha
noncomputable def b64:Code:=Tryz.f64.body.getD .skip
theorem cloneb_no(h:Heap):Sat Tryz.prog 64 #[.slice none 0 0] h fun v h'=>∃ad cap,v= .slice ad 0 cap∧Own h' (.slice ad 0 cap) 5 0 1 []∧(∀k,ad.map (fun(x:Addr)=>x.block)=some k→h.size ≤k)∧Ext h h':=by
 refine sat_in Tryz.func64 8 fun a hF=> ?_
 refine qP [] hF fun a hF=> ?_
 refine cS ?_
 refine qP [(4,.bool true)] hF fun a hF=> ?_
 refine cT 4 hF ?_
 refine qP [(2,.slice none 0 0)] hF fun a hF=> ?_
 refine cR (yT ?_)
 refine rT 2 (.slice none 0 0) hF ?_
 exact⟨none,0,rfl,Own.nil _ _ _,(fun k e=>by cases e),Ext.refl h⟩
theorem cloneb_yes(h:Heap)(l:List UInt8)(n:Nat)(aa:Addr)(vc:Nat)(hr:Row h (.slice (some aa) n vc) n 1 (l.map bv))(hn:n≤1099511627776):Sat Tryz.prog 64 #[.slice (some aa) n vc] h fun v h'=>∃ad cap,v= .slice ad n cap∧Own h' (.slice ad n cap) 5 n 1 (l.map bv)∧(∀k,ad.map (fun(x:Addr)=>x.block)=some k→h.size ≤k)∧Ext h h':=by
 have e0:=Ext.refl h
 have sep:Sep h.size h.size []:=Sep.nil _ _
 refine sat_in Tryz.func64 8 fun a hF=> ?_
 refine qP [] hF fun a hF=> ?_
 refine cS ?_
 refine qP [(4,.bool false)] hF fun a hF=> ?_
 refine cF 4 hF ?_
 refine cN ?_
 refine tK ?_
 refine qS hF ?_
 refine tN 0 (.slice (some ⟨h.size,0,none⟩) 0 0) #[] 5 fun h1 g2 m3=> ?_
 replace sep:=sep.nw e0.size m3
 have own_v:Own h1 (.slice (some ⟨h.size,0,none⟩) 0 0) 5 ([]:List UInt8).length 1 (([]:List UInt8).map bv):=Own.empty 1 m3
 replace sep:Sep h.size h1.size [(some ⟨h.size,0,none⟩:Option Addr).map (·.block)]:=sep
 replace e0:=e0.ext g2
 replace hr:=hr.ext g2
 clear m3
 refine tP 2 n 1 (l.map bv) own_v hr (ones_map _) (fun ad4 cap5 h6 own_v g7 hb8=> ?_)
 clear hr
 have s9:=sep
 replace sep:=sep.sa g7 0 hb8 own_v e0.size;clear hb8
 refine sT [(2,.slice ad4 n cap5)] fun a hF=> ?_
 refine cR ?_
 refine rT 2 (.slice ad4 n cap5) hF ?_
 replace e0:=e0.grew g7 (s9.l 0)
 exact⟨_,_,rfl,own_v,sep.low 0 rfl,e0⟩
theorem cloneb_sat(h:Heap)(l:List UInt8)(n:Nat)(va:Option Addr)(vc:Nat)(hr:Row h (.slice va n vc) n 1 (l.map bv))(hn:n≤1099511627776):Sat Tryz.prog 64 #[.slice va n vc] h fun v h'=>∃ad cap,v= .slice ad n cap∧Own h' (.slice ad n cap) 5 n 1 (l.map bv)∧(∀k,ad.map (fun(x:Addr)=>x.block)=some k→h.size ≤k)∧Ext h h':=by
 cases va with
 | none =>
  rcases hr.2 with⟨e,e1⟩|⟨a,cap,e,_⟩
  ·simp only[Value.slice.injEq,true_and] at e
   obtain⟨rfl,rfl⟩:=e
   obtain rfl:l=[]:=List.eq_nil_of_length_eq_zero (by have:=hr.1;simpa using this)
   exact cloneb_no h
  ·cases e
 |some aa=>exact cloneb_yes h l n aa vc hr hn
noncomputable def b44:Code:=Tryz.f44.body.getD .skip
theorem clonee_no(h:Heap):Sat Tryz.prog 44 #[.slice none 0 0] h fun v h'=>∃ad cap,v= .slice ad 0 cap∧Own h' (.slice ad 0 cap) 32 0 1 []∧(∀k,ad.map (fun(x:Addr)=>x.block)=some k→h.size ≤k)∧Ext h h':=by
 refine sat_in Tryz.func44 8 fun a hF=> ?_
 refine qP [] hF fun a hF=> ?_
 refine cS ?_
 refine qP [(4,.bool true)] hF fun a hF=> ?_
 refine cT 4 hF ?_
 refine qP [(2,.slice none 0 0)] hF fun a hF=> ?_
 refine cR (yT ?_)
 refine rT 2 (.slice none 0 0) hF ?_
 exact⟨none,0,rfl,Own.nil _ _ _,(fun k e=>by cases e),Ext.refl h⟩
theorem clonee_yes(h:Heap)(l:List Value)(n:Nat)(aa:Addr)(vc:Nat)(hr:Row h (.slice (some aa) n vc) n 1 l)(hn:n≤1099511627776)(hone:∀u∈l,u.oneCell' =true):Sat Tryz.prog 44 #[.slice (some aa) n vc] h fun v h'=>∃ad cap,v= .slice ad n cap∧Own h' (.slice ad n cap) 32 n 1 l∧(∀k,ad.map (fun(x:Addr)=>x.block)=some k→h.size ≤k)∧Ext h h':=by
 have e0:=Ext.refl h
 have sep:Sep h.size h.size []:=Sep.nil _ _
 refine sat_in Tryz.func44 8 fun a hF=> ?_
 refine qP [] hF fun a hF=> ?_
 refine cS ?_
 refine qP [(4,.bool false)] hF fun a hF=> ?_
 refine cF 4 hF ?_
 refine cN ?_
 refine tK ?_
 refine qS hF ?_
 refine tN 0 (.slice (some ⟨h.size,0,none⟩) 0 0) #[] 32 fun h1 g2 m3=> ?_
 replace sep:=sep.nw e0.size m3
 have own_v:Own h1 (.slice (some ⟨h.size,0,none⟩) 0 0) 32 ([]:List Value).length 1 ([]:List Value):=Own.empty 1 m3
 replace sep:Sep h.size h1.size [(some ⟨h.size,0,none⟩:Option Addr).map (·.block)]:=sep
 replace e0:=e0.ext g2
 replace hr:=hr.ext g2
 clear m3
 refine tP 2 n 24 l own_v hr hone (fun ad4 cap5 h6 own_v g7 hb8=> ?_) (ys:=l)
 clear hr
 have s9:=sep
 replace sep:=sep.sa g7 0 hb8 own_v e0.size;clear hb8
 refine sT [(2,.slice ad4 n cap5)] fun a hF=> ?_
 refine cR ?_
 refine rT 2 (.slice ad4 n cap5) hF ?_
 replace e0:=e0.grew g7 (s9.l 0)
 exact⟨_,_,rfl,own_v,sep.low 0 rfl,e0⟩
theorem clonee_sat(h:Heap)(l:List Value)(n:Nat)(va:Option Addr)(vc:Nat)(hr:Row h (.slice va n vc) n 1 l)(hn:n≤1099511627776)(hone:∀u∈l,u.oneCell' =true):Sat Tryz.prog 44 #[.slice va n vc] h fun v h'=>∃ad cap,v= .slice ad n cap∧Own h' (.slice ad n cap) 32 n 1 l∧(∀k,ad.map (fun(x:Addr)=>x.block)=some k→h.size ≤k)∧Ext h h':=by
 cases va with
 | none =>
  rcases hr.2 with⟨e,e1⟩|⟨a,cap,e,_⟩
  ·simp only[Value.slice.injEq,true_and] at e
   obtain⟨rfl,rfl⟩:=e
   obtain rfl:l=[]:=List.eq_nil_of_length_eq_zero (by have:=hr.1;simpa using this)
   exact clonee_no h
  ·cases e
 |some aa=>exact clonee_yes h l n aa vc hr hn hone
noncomputable def b66:Code:=Tryz.f66.body.getD .skip
theorem clipC{P:Program}{ops:Array Oper}{base:Nat→Value}{vals:Vals}{i:Nat}{va:Option Addr}{n vc sz:Nat}(h:Heap)(hx:slOp P ops base vals i=some (va,n,vc,sz,none,some ((n:Nat):Int),some ((n:Nat):Int)))(hc:n≤vc):Go.Lane.Calm P ops base vals i h (.slice va n n):=by
 have:=Go.Lane.Calm.slice 0 n n hx (.inr ⟨rfl,hc,rfl⟩) (.inr rfl) (.inl ⟨rfl,rfl⟩) (Nat.zero_le _) (Nat.le_refl _) h
 simp only[Nat.zero_mul,Nat.sub_zero] at this
 have e:(if n=0 then va else va.map (fun(x:Addr)=>x.add 0))=va:=by
  have ha:∀x:Addr,x.add 0=x:=fun x=>by simp[Addr.add]
  split
  ·rfl
  ·cases va<;>simp[ha]
 rwa [e] at this
theorem clip_sat(h:Heap)(n:Nat)(va:Option Addr)(vc:Nat)(hc:n≤vc):Sat Tryz.prog 66 #[.slice va n vc] h fun v h'=>v= .slice va n n∧h'=h:=by
 refine sat_in Tryz.func66 9 fun a hF=> ?_
 refine qP [] hF fun a hF=> ?_
 refine qS hF ?_
 refine tC 5 (.slice va n n) ((fun h=>clipC (sz:=1) h (by kernel_rfl) hc) _) ?_
 refine sT [(2,.slice va n n)] fun a hF=> ?_
 refine cR ?_
 refine rT 2 (.slice va n n) hF ?_
 exact⟨rfl,rfl⟩
noncomputable def b98:Code:=Tryz.f98.body.getD .skip
theorem within_sat(h:Heap)(n m:Nat)(hn:n≤1099511627776):Sat Tryz.prog 98 #[.int .i64 ((n:Nat):Int),.int .i64 ((m:Nat):Int)] h fun v h'=>v= .bool (decide (n≤m))∧h'=h:=by
 refine sat_in Tryz.func98 12 fun a hF=> ?_
 refine qP [] hF fun a hF=> ?_
 refine cS ?_
 rcases Nat.lt_or_ge m n with hm|hm
 ·skip
  refine rS hF ?_
  refine tT 1 ((0:Int)≤((n:Nat):Int)) ?_
  refine tX 5 (((n:Nat):Int)≤((m:Nat):Int)) ?_
  refine sE [(4,.bool false)] fun a hF=> ?_
  refine tK ?_
  refine cR ?_
  refine rT 4 (.bool false) hF ?_
  exact⟨congrArg Value.bool (by simp;omega),rfl⟩
 ·skip
  refine rS hF ?_
  refine tT 1 ((0:Int)≤((n:Nat):Int)) ?_
  refine tT 5 (((n:Nat):Int)≤((m:Nat):Int)) ?_
  refine sE [(4,.bool true)] fun a hF=> ?_
  refine tK ?_
  refine cR ?_
  refine rT 4 (.bool true) hF ?_
  exact⟨congrArg Value.bool (by simp;omega),rfl⟩
noncomputable def b62:Code:=Tryz.f62.body.getD .skip
theorem okc_eq(c:UInt8):okc c=decide (97≤c.toNat ∧c.toNat ≤122∨48≤c.toNat ∧c.toNat ≤57∨c.toNat =45∨c.toNat =46):=by
 unfold okc
 by_cases h1:97≤c.toNat ∧c.toNat ≤122<;>by_cases h2:48≤c.toNat ∧c.toNat ≤57<;>by_cases h3:c.toNat =45<;>by_cases h4:c.toNat =46<;>simp_all<;>omega
theorem name_sat(h:Heap)(s:ByteArray)(hsz:s.size ≤9223372036854775807):Sat Tryz.prog 62 #[.string s] h fun v h'=>v= .bool (nameOk s)∧h'=h:=by
 refine sat_in Tryz.func62 44 fun a hF=> ?_
 refine qP [] hF fun a hF=> ?_
 refine cS ?_
 refine qP [(6,nV s.size),(7,.int .i64 0)] hF fun a hF=> ?_
 refine cB 0 ?_
 refine cL (fun m a h'=>∃i:Nat,m=s.size - i∧(h'=h)∧(i≤s.size)∧((s.data.toList.take i).all okc=true)∧(Fr a 44 [(0,.string s),(6,.int .i64 ((s.size :Nat):Int)),(7,.int .i64 ((i:Nat):Int))])) (s.size - 0) ⟨0,rfl,rfl,(by omega),rfl,hF.to⟩ ?_
 clear hF a
 rintro m a h1 ⟨i,rfl,hh,hi,hall,hF⟩
 refine qP [(8,.bool (decide (((i:Nat):Int)<((s.size :Nat):Int))))] hF fun a hF=> ?_
 refine cS ?_
 refine cJ 8 hF (fun hc2=> ?_) fun hc2=> ?_
 ·skip
  have hia:i<s.size :=by omega
  obtain⟨c,hc⟩:=chr_at hia
  have hck:okc c=decide (97≤c.toNat ∧c.toNat ≤122∨48≤c.toNat ∧c.toNat ≤57∨c.toNat =45∨c.toNat =46):=okc_eq c
  refine cN ?_
  refine tK ?_
  refine cS ?_
  refine cB 1 ?_
  refine qP [(3,nV i)] hF fun a hF=> ?_
  refine qS hF ?_
  refine tC 2 (.int .u8 (c.toNat :Int)) ((fun h=>Calm.strIdx (by kernel_rfl) hc h) _) ?_
  refine sT [(4,.int .u8 (c.toNat :Int))] fun a hF=> ?_
  refine cS ?_
  rcases(by omega:(97≤c.toNat ∧c.toNat ≤122)∨(48≤c.toNat ∧c.toNat ≤57)∨c.toNat =45∨c.toNat =46∨(122<c.toNat)∨(57<c.toNat ∧c.toNat <97)∨(c.toNat <48∧c.toNat ≠45∧c.toNat ≠46)) with hq|hq|hq|hq|hq|hq|hq
  ·skip
   have hok:okc c=true:=by rw[hck];simp<;>omega
   have hall2:=all_next hall hc hok
   refine rS hF ?_
   refine tX 1 ((c.toNat :Int)<(97:Int)) ?_
   refine tX 4 ((122:Int)<(c.toNat :Int)) ?_
   refine sE [(34,.bool false)] fun a hF=> ?_
   refine tK ?_
   refine cF 34 hF ?_
   refine cN ?_
   refine bK ?_
   refine tK ?_
   refine rS hF ?_
   refine tA 0 i 1 ?_
   refine sE [(7,nV (i+1))] fun a hF=> ?_
   show ∃m',m'<_∧_
   refine⟨_,?_,(i+1),rfl,hh,(by omega),hall2,hF.to⟩
   omega
  ·skip
   have hok:okc c=true:=by rw[hck];simp<;>omega
   have hall2:=all_next hall hc hok
   refine rS hF ?_
   refine tT 1 ((c.toNat :Int)<(97:Int)) ?_
   refine tX 8 ((c.toNat :Int)<(48:Int)) ?_
   refine tX 11 ((57:Int)<(c.toNat :Int)) ?_
   refine sE [(34,.bool false)] fun a hF=> ?_
   refine tK ?_
   refine cF 34 hF ?_
   refine cN ?_
   refine bK ?_
   refine tK ?_
   refine rS hF ?_
   refine tA 0 i 1 ?_
   refine sE [(7,nV (i+1))] fun a hF=> ?_
   show ∃m',m'<_∧_
   refine⟨_,?_,(i+1),rfl,hh,(by omega),hall2,hF.to⟩
   omega
  ·skip
   have hok:okc c=true:=by rw[hck];simp<;>omega
   have hall2:=all_next hall hc hok
   refine rS hF ?_
   refine tT 1 ((c.toNat :Int)<(97:Int)) ?_
   refine tT 8 ((c.toNat :Int)<(48:Int)) ?_
   refine uF 16 (c.toNat :Int) 45 ?_
   refine sE [(34,.bool false)] fun a hF=> ?_
   refine tK ?_
   refine cF 34 hF ?_
   refine cN ?_
   refine bK ?_
   refine tK ?_
   refine rS hF ?_
   refine tA 0 i 1 ?_
   refine sE [(7,nV (i+1))] fun a hF=> ?_
   show ∃m',m'<_∧_
   refine⟨_,?_,(i+1),rfl,hh,(by omega),hall2,hF.to⟩
   omega
  ·skip
   have hok:okc c=true:=by rw[hck];simp<;>omega
   have hall2:=all_next hall hc hok
   refine rS hF ?_
   refine tT 1 ((c.toNat :Int)<(97:Int)) ?_
   refine tT 8 ((c.toNat :Int)<(48:Int)) ?_
   refine uT 16 (c.toNat :Int) 45 ?_
   refine uF 20 (c.toNat :Int) 46 ?_
   refine sE [(34,.bool false)] fun a hF=> ?_
   refine tK ?_
   refine cF 34 hF ?_
   refine cN ?_
   refine bK ?_
   refine tK ?_
   refine rS hF ?_
   refine tA 0 i 1 ?_
   refine sE [(7,nV (i+1))] fun a hF=> ?_
   show ∃m',m'<_∧_
   refine⟨_,?_,(i+1),rfl,hh,(by omega),hall2,hF.to⟩
   omega
  ·skip
   have hok:okc c=false:=by rw[hck];simp<;>omega
   have hno:=name_no hc hok
   refine rS hF ?_
   refine tX 1 ((c.toNat :Int)<(97:Int)) ?_
   refine tT 4 ((122:Int)<(c.toNat :Int)) ?_
   refine tX 8 ((c.toNat :Int)<(48:Int)) ?_
   refine tT 11 ((57:Int)<(c.toNat :Int)) ?_
   refine uT 16 (c.toNat :Int) 45 ?_
   refine uT 20 (c.toNat :Int) 46 ?_
   refine sE [(34,.bool true)] fun a hF=> ?_
   refine tK ?_
   refine cT 34 hF ?_
   refine qP [(2,.bool false)] hF fun a hF=> ?_
   refine cR (yB (yT (yT (yB (yT ?_)))))
   refine rT 2 (.bool false) hF ?_
   exact⟨congrArg Value.bool (by first|exact hno.symm | (unfold nameOk;rw[hall];simp<;>omega)),hh⟩
  ·skip
   have hok:okc c=false:=by rw[hck];simp<;>omega
   have hno:=name_no hc hok
   refine rS hF ?_
   refine tT 1 ((c.toNat :Int)<(97:Int)) ?_
   refine tX 8 ((c.toNat :Int)<(48:Int)) ?_
   refine tT 11 ((57:Int)<(c.toNat :Int)) ?_
   refine uT 16 (c.toNat :Int) 45 ?_
   refine uT 20 (c.toNat :Int) 46 ?_
   refine sE [(34,.bool true)] fun a hF=> ?_
   refine tK ?_
   refine cT 34 hF ?_
   refine qP [(2,.bool false)] hF fun a hF=> ?_
   refine cR (yB (yT (yT (yB (yT ?_)))))
   refine rT 2 (.bool false) hF ?_
   exact⟨congrArg Value.bool (by first|exact hno.symm | (unfold nameOk;rw[hall];simp<;>omega)),hh⟩
  ·skip
   have hok:okc c=false:=by rw[hck];simp<;>omega
   have hno:=name_no hc hok
   refine rS hF ?_
   refine tT 1 ((c.toNat :Int)<(97:Int)) ?_
   refine tT 8 ((c.toNat :Int)<(48:Int)) ?_
   refine uT 16 (c.toNat :Int) 45 ?_
   refine uT 20 (c.toNat :Int) 46 ?_
   refine sE [(34,.bool true)] fun a hF=> ?_
   refine tK ?_
   refine cT 34 hF ?_
   refine qP [(2,.bool false)] hF fun a hF=> ?_
   refine cR (yB (yT (yT (yB (yT ?_)))))
   refine rT 2 (.bool false) hF ?_
   exact⟨congrArg Value.bool (by first|exact hno.symm | (unfold nameOk;rw[hall];simp<;>omega)),hh⟩
 ·skip
  obtain rfl:i=s.size :=by omega
  rw[←size_toList,List.take_length] at hall
  refine cX 0 (xT (xT (xB ?_)))
  refine tK ?_
  refine cS ?_
  rcases(by omega:s.size =0∨(0<s.size ∧s.size ≤16)∨16<s.size) with hq|hq|hq
  ·skip
   refine rS hF ?_
   refine tX 2 ((0:Int)<((s.size :Nat):Int)) ?_
   refine sE [(2,.bool false)] fun a hF=> ?_
   refine tK ?_
   refine cR ?_
   refine rT 2 (.bool false) hF ?_
   exact⟨congrArg Value.bool (by first|exact hno.symm | (unfold nameOk;rw[hall];simp<;>omega)),hh⟩
  ·skip
   refine rS hF ?_
   refine tT 2 ((0:Int)<((s.size :Nat):Int)) ?_
   refine tT 6 (((s.size :Nat):Int)≤(16:Int)) ?_
   refine sE [(2,.bool true)] fun a hF=> ?_
   refine tK ?_
   refine cR ?_
   refine rT 2 (.bool true) hF ?_
   exact⟨congrArg Value.bool (by first|exact hno.symm | (unfold nameOk;rw[hall];simp<;>omega)),hh⟩
  ·skip
   refine rS hF ?_
   refine tT 2 ((0:Int)<((s.size :Nat):Int)) ?_
   refine tX 6 (((s.size :Nat):Int)≤(16:Int)) ?_
   refine sE [(2,.bool false)] fun a hF=> ?_
   refine tK ?_
   refine cR ?_
   refine rT 2 (.bool false) hF ?_
   exact⟨congrArg Value.bool (by first|exact hno.symm | (unfold nameOk;rw[hall];simp<;>omega)),hh⟩
end Go.Proofs.YtegkejcglfgpmaaGreatDoor
end
section
namespace Go.Lane
open Go Go.Sha
section
variable {P:Program} {ops:Array Oper} {base:Nat→Value} {vals:Vals} {i:Nat} {h:Heap}
def cbF (P : Program) (e : Operand → Value) (o : Oper) : Option (TypeId × ByteArray) :=
  match o.op with
  | .convert s d x => match e x, P.underlying s, P.underlying d with
    | .string b, some .string, some (.slice el) => match P.underlying el with
      |some (.int .u8)=>some (el,b)
      |_=>none
    |_,_,_=>none
  |_=>none
def cbOp(P:Program)(ops:Array Oper)(base:Nat→Value)(vals:Vals)(i:Nat):=(opE ops base vals i).bind (cbF P (env ops base vals i))
theorem Does.bytesOf{el:TypeId}{s:ByteArray}(hx:cbOp P ops base vals i=some (el,s)):
    Does P ops base vals i h fun v' h'=>∃cap,v'= .slice (some ⟨h.size,0,none⟩) s.size cap∧Row h' (.slice (some ⟨h.size,0,none⟩) s.size cap) s.size 1 (s.data.toList.map bv)∧Ext h h':=by
  refine does_split hx fun o ho w hw=> ?_
  subst hw
  unfold cbF at ho
  cases hop:o.op with
  | convert a d x =>
    simp only[hop] at ho
    split at ho<;>first| (cases ho;done)|skip
    rename_i b el' h1 h2 h3
    cases h4:P.underlying el' with
    |none=>simp[h4] at ho
    | some de =>
      cases de<;>simp only[h4] at ho<;>first| (cases ho;done)|skip
      rename_i k
      cases k<;>simp only[Option.some.injEq,Prod.mk.injEq] at ho<;>first| (cases ho;done)|skip
      obtain⟨rfl,rfl⟩:=ho
      have hrun:(execOp (env ops base vals i) o).run P w= .ok (.value (.slice (some ⟨w.heap.size,0,none⟩) b.size (grownCap w b.size 0 el'))) (Lib.bytesWorld w el' b):=by
        unfold execOp
        simp[hop,h1,Lib.run_convert_string_bytes w a d el' b h2 h3 h4]
      rw[hrun]
      refine⟨⟨rfl,rfl,rfl⟩,_,rfl,⟨by rw[List.length_map,Nat.mul_one];rfl, .inr ⟨_,_,rfl,grownCap_ge _ _ _ _,fun j u hu=> ?_⟩⟩,⟨by rw[Lib.bytesWorld_size];omega,fun k hk _=>Lib.bytesWorld_at_old w el' b k hk⟩⟩
      rw[List.getElem?_map] at hu
      cases hj:b.data.toList[j]? with
      |none=>rw[hj] at hu;cases hu
      | some c =>
        rw[hj] at hu
        simp only[Option.map_some,Option.some.injEq] at hu
        have hlt:j<b.size :=(List.getElem?_eq_some_iff.1 hj).1
        rw[←hcell_eq (w:=Lib.bytesWorld w el' b) rfl,add_lit,Nat.zero_add]
        rw[Lib.bytesWorld_cell w el' b j hlt, ←hu,List.getD_eq_getElem?_getD,hj]
        rfl
  |_=>simp[hop] at ho
end
theorem alwO{n:Nat}{o x:Option Nat}(h:x=o∨∃g,x=some g∧n≤g):∀i,x=some i→o=some i∨n≤i:=fun i e=>by
  rcases h with h|⟨g,h,k⟩
  · exact .inl (h▸e)
  · rw[h] at e;cases e;exact .inr k
end Go.Lane
end
section
namespace Go.Proofs.YtegkejcglfgpmaaGreatDoor
open Go Go.Lane Go.Sha
noncomputable def b27:Code:=Tryz.f27.body.getD .skip
theorem rname_sat(h:Heap)(s:ByteArray)(hsz:s.size ≤9223372036854775807):Sat Tryz.prog 27 #[.string s] h fun v h'=>v= .bool (nameOk s)∧h'=h:=by
 refine sat_in Tryz.func27 45 fun a hF=> ?_
 refine qP [] hF fun a hF=> ?_
 refine cS ?_
 refine cS ?_
 rcases(by omega:s.size <1∨16<s.size ∨(1≤s.size ∧s.size ≤16)) with hq|hq|hq
 ·skip
  have hno:nameOk s=false:=by unfold nameOk;rw[show(decide (0<s.size)&&decide (s.size ≤16))=false by simp<;>omega,Bool.and_false]
  refine rS hF ?_
  refine tT 2 (((s.size :Nat):Int)<(1:Int)) ?_
  refine sE [(12,.bool true)] fun a hF=> ?_
  refine tK ?_
  refine cT 12 hF ?_
  refine qP [(2,.bool false)] hF fun a hF=> ?_
  refine cR (yT ?_)
  refine rT 2 (.bool false) hF ?_
  exact⟨congrArg Value.bool hno.symm,rfl⟩
 ·skip
  have hno:nameOk s=false:=by unfold nameOk;rw[show(decide (0<s.size)&&decide (s.size ≤16))=false by simp<;>omega,Bool.and_false]
  refine rS hF ?_
  refine tX 2 (((s.size :Nat):Int)<(1:Int)) ?_
  refine tT 6 ((16:Int)<((s.size :Nat):Int)) ?_
  refine sE [(12,.bool true)] fun a hF=> ?_
  refine tK ?_
  refine cT 12 hF ?_
  refine qP [(2,.bool false)] hF fun a hF=> ?_
  refine cR (yT ?_)
  refine rT 2 (.bool false) hF ?_
  exact⟨congrArg Value.bool hno.symm,rfl⟩
 ·skip
  refine rS hF ?_
  refine tX 2 (((s.size :Nat):Int)<(1:Int)) ?_
  refine tX 6 ((16:Int)<((s.size :Nat):Int)) ?_
  refine sE [(12,.bool false)] fun a hF=> ?_
  refine tK ?_
  refine cF 12 hF ?_
  refine cN ?_
  refine tK ?_
  refine cS ?_
  refine qP [(3,.int .i64 0)] hF fun a hF=> ?_
  refine cB 0 ?_
  refine cL (fun m a h'=>∃i:Nat,m=s.size - i∧(h'=h)∧(i≤s.size)∧((s.data.toList.take i).all okc=true)∧(Fr a 45 [(0,.string s),(3,.int .i64 ((i:Nat):Int))])) (s.size - 0) ⟨0,rfl,rfl,(by omega),rfl,hF.to⟩ ?_
  clear hF a
  rintro m a h1 ⟨i,rfl,hh,hi,hall,hF⟩
  refine cS ?_
  refine qP [(16,.bool (decide (((i:Nat):Int)<((s.size :Nat):Int))))] hF fun a hF=> ?_
  refine cJ 16 hF (fun hc2=> ?_) fun hc2=> ?_
  ·skip
   have hia:i<s.size :=by omega
   obtain⟨c,hc⟩:=chr_at hia
   have hck:okc c=decide (97≤c.toNat ∧c.toNat ≤122∨48≤c.toNat ∧c.toNat ≤57∨c.toNat =45∨c.toNat =46):=okc_eq c
   refine cN ?_
   refine tK ?_
   refine cS ?_
   refine cB 1 ?_
   refine qS hF ?_
   refine tC 2 (.int .u8 (c.toNat :Int)) ((fun h=>Calm.strIdx (by kernel_rfl) hc h) _) ?_
   refine sT [(4,.int .u8 (c.toNat :Int))] fun a hF=> ?_
   refine cS ?_
   rcases(by omega:(97≤c.toNat ∧c.toNat ≤122)∨(48≤c.toNat ∧c.toNat ≤57)∨c.toNat =45∨c.toNat =46∨(122<c.toNat)∨(57<c.toNat ∧c.toNat <97)∨(c.toNat <48∧c.toNat ≠45∧c.toNat ≠46)) with hq|hq|hq|hq|hq|hq|hq
   ·skip
    have hok:okc c=true:=by rw[hck];simp<;>omega
    have hall2:=all_next hall hc hok
    refine rS hF ?_
    refine tT 1 ((97:Int)≤(c.toNat :Int)) ?_
    refine tT 4 ((c.toNat :Int)≤(122:Int)) ?_
    refine sE [(44,.bool false)] fun a hF=> ?_
    refine tK ?_
    refine cF 44 hF ?_
    refine cN ?_
    refine bK ?_
    refine tK ?_
    refine rS hF ?_
    refine tA 1 i 1 ?_
    refine sE [(3,nV (i+1))] fun a hF=> ?_
    show ∃m',m'<_∧_
    refine⟨_,?_,(i+1),rfl,hh,(by omega),hall2,hF.to⟩
    omega
   ·skip
    have hok:okc c=true:=by rw[hck];simp<;>omega
    have hall2:=all_next hall hc hok
    refine rS hF ?_
    refine tX 1 ((97:Int)≤(c.toNat :Int)) ?_
    refine tT 8 ((48:Int)≤(c.toNat :Int)) ?_
    refine tT 11 ((c.toNat :Int)≤(57:Int)) ?_
    refine sE [(44,.bool false)] fun a hF=> ?_
    refine tK ?_
    refine cF 44 hF ?_
    refine cN ?_
    refine bK ?_
    refine tK ?_
    refine rS hF ?_
    refine tA 1 i 1 ?_
    refine sE [(3,nV (i+1))] fun a hF=> ?_
    show ∃m',m'<_∧_
    refine⟨_,?_,(i+1),rfl,hh,(by omega),hall2,hF.to⟩
    omega
   ·skip
    have hok:okc c=true:=by rw[hck];simp<;>omega
    have hall2:=all_next hall hc hok
    refine rS hF ?_
    refine tX 1 ((97:Int)≤(c.toNat :Int)) ?_
    refine tX 8 ((48:Int)≤(c.toNat :Int)) ?_
    refine eT 16 (c.toNat :Int) 45 ?_
    refine sE [(44,.bool false)] fun a hF=> ?_
    refine tK ?_
    refine cF 44 hF ?_
    refine cN ?_
    refine bK ?_
    refine tK ?_
    refine rS hF ?_
    refine tA 1 i 1 ?_
    refine sE [(3,nV (i+1))] fun a hF=> ?_
    show ∃m',m'<_∧_
    refine⟨_,?_,(i+1),rfl,hh,(by omega),hall2,hF.to⟩
    omega
   ·skip
    have hok:okc c=true:=by rw[hck];simp<;>omega
    have hall2:=all_next hall hc hok
    refine rS hF ?_
    refine tX 1 ((97:Int)≤(c.toNat :Int)) ?_
    refine tX 8 ((48:Int)≤(c.toNat :Int)) ?_
    refine eF 16 (c.toNat :Int) 45 ?_
    refine eT 20 (c.toNat :Int) 46 ?_
    refine sE [(44,.bool false)] fun a hF=> ?_
    refine tK ?_
    refine cF 44 hF ?_
    refine cN ?_
    refine bK ?_
    refine tK ?_
    refine rS hF ?_
    refine tA 1 i 1 ?_
    refine sE [(3,nV (i+1))] fun a hF=> ?_
    show ∃m',m'<_∧_
    refine⟨_,?_,(i+1),rfl,hh,(by omega),hall2,hF.to⟩
    omega
   ·skip
    have hok:okc c=false:=by rw[hck];simp<;>omega
    have hno:=name_no hc hok
    refine rS hF ?_
    refine tT 1 ((97:Int)≤(c.toNat :Int)) ?_
    refine tX 4 ((c.toNat :Int)≤(122:Int)) ?_
    refine tT 8 ((48:Int)≤(c.toNat :Int)) ?_
    refine tX 11 ((c.toNat :Int)≤(57:Int)) ?_
    refine eF 16 (c.toNat :Int) 45 ?_
    refine eF 20 (c.toNat :Int) 46 ?_
    refine sE [(44,.bool true)] fun a hF=> ?_
    refine tK ?_
    refine cT 44 hF ?_
    refine qP [(2,.bool false)] hF fun a hF=> ?_
    refine cR (yB (yT (yT (yB (yT ?_)))))
    refine rT 2 (.bool false) hF ?_
    exact⟨congrArg Value.bool hno.symm,hh⟩
   ·skip
    have hok:okc c=false:=by rw[hck];simp<;>omega
    have hno:=name_no hc hok
    refine rS hF ?_
    refine tX 1 ((97:Int)≤(c.toNat :Int)) ?_
    refine tT 8 ((48:Int)≤(c.toNat :Int)) ?_
    refine tX 11 ((c.toNat :Int)≤(57:Int)) ?_
    refine eF 16 (c.toNat :Int) 45 ?_
    refine eF 20 (c.toNat :Int) 46 ?_
    refine sE [(44,.bool true)] fun a hF=> ?_
    refine tK ?_
    refine cT 44 hF ?_
    refine qP [(2,.bool false)] hF fun a hF=> ?_
    refine cR (yB (yT (yT (yB (yT ?_)))))
    refine rT 2 (.bool false) hF ?_
    exact⟨congrArg Value.bool hno.symm,hh⟩
   ·skip
    have hok:okc c=false:=by rw[hck];simp<;>omega
    have hno:=name_no hc hok
    refine rS hF ?_
    refine tX 1 ((97:Int)≤(c.toNat :Int)) ?_
    refine tX 8 ((48:Int)≤(c.toNat :Int)) ?_
    refine eF 16 (c.toNat :Int) 45 ?_
    refine eF 20 (c.toNat :Int) 46 ?_
    refine sE [(44,.bool true)] fun a hF=> ?_
    refine tK ?_
    refine cT 44 hF ?_
    refine qP [(2,.bool false)] hF fun a hF=> ?_
    refine cR (yB (yT (yT (yB (yT ?_)))))
    refine rT 2 (.bool false) hF ?_
    exact⟨congrArg Value.bool hno.symm,hh⟩
  ·skip
   obtain rfl:i=s.size :=by omega
   rw[←size_toList,List.take_length] at hall
   refine cX 0 (xT (xT (xB ?_)))
   refine tK ?_
   refine qP [(2,.bool true)] hF fun a hF=> ?_
   refine cR ?_
   refine rT 2 (.bool true) hF ?_
   exact⟨congrArg Value.bool (by unfold nameOk;rw[hall];simp<;>omega),hh⟩
noncomputable def b47:Code:=Tryz.f47.body.getD .skip
theorem rput11_sat(h:Heap)(l:List UInt8)(n x:Nat)(va:Option Addr)(vc:Nat)(own_b:Own h (.slice va n vc) 5 n 1 (l.map bv))(hn:n≤1099511627000):Sat Tryz.prog 47 #[.slice va n vc,.int .i64 ((x:Nat):Int),.int .i64 2] h fun v h'=>∃ad cap,v= .slice ad (n+1+1) cap∧Own h' (.slice ad (n+1+1) cap) 5 (n+1+1) 1 ((l++[UInt8.ofNat (x/2^8),UInt8.ofNat x]).map bv)∧(ad.map (fun(x:Addr)=>x.block)=va.map (fun(x:Addr)=>x.block)∨∃g,ad.map (fun(x:Addr)=>x.block)=some g∧h.size ≤g)∧Gr (fun k=>va.map (fun(x:Addr)=>x.block)=some k) h h':=by
 have sep:Sep 0 h.size [va.map (·.block)]:=own_b.blkSep
 have g0:=Gr.refl (fun k=>va.map (fun(x:Addr)=>x.block)=some k) h
 have hop_b:va.map (fun(x:Addr)=>x.block)=va.map (fun(x:Addr)=>x.block)∨∃g,va.map (fun(x:Addr)=>x.block)=some g∧h.size ≤g:= .inl rfl
 refine sat_in Tryz.func47 23 fun a hF=> ?_
 refine qP [] hF fun a hF=> ?_
 refine cS ?_
 refine qP [(7,.int .i64 1)] hF fun a hF=> ?_
 refine cB 0 ?_
 refine cU 3 ?_
 refine Cround.step ?_
 refine cS ?_
 refine qP [(11,.bool true)] hF fun a hF=> ?_
 refine cT 11 hF ?_
 refine cN ?_
 refine tK ?_
 refine cS ?_
 refine cB 1 ?_
 refine rS hF ?_
 refine t1 4 (.int .i64 ((x/2^8:Nat):Int)) (.int .i64 (Int.fdiv ((x:Nat):Int) (2^8))) (congrArg (Value.int .i64) (fdivN (x) 8)) ?_
 refine t1 5 (bv (UInt8.ofNat (x/2^8))) (.int .u8 (IntKind.u8.wrap ((x/2^8:Nat):Int))) (conv64 _) ?_
 refine tN 6 (.slice (some ⟨h.size,0,none⟩) 1 1) #[bv (UInt8.ofNat (x/2^8))] 5 fun h1 g2 m3=> ?_
 replace sep:=sep.nw (Nat.zero_le _) m3
 replace own_b:=own_b.ext g2
 refine tP 7 (n+1) 1 ((l++[UInt8.ofNat (x/2^8)]).map bv) own_b (Row.blk (n:=1) (sz:=1) (l:=[UInt8.ofNat (x/2^8)].map bv) m3 rfl) (ones_map _) (fun ad4 cap5 h6 own_b g7 hb8=> ?_) (ys:=(([UInt8.ofNat (x/2^8)]).map bv))
 replace g0:=g0.ext g2
 have hop_n:=grown hop_b hb8 g0.1
 replace g0:=g0.grew g7 (alwO hop_b)
 have s9:=sep
 replace sep:=sep.sa g7 1 hb8 own_b (Nat.zero_le _);clear hb8
 replace hop_b:=hop_n;clear hop_n
 replace m3:=m3.y g7 (s9.bp 0 1)
 clear m3
 replace sep:=sep.sub (l':=[ad4.map (·.block)]) (.cons _ (.cons_cons _ (.slnil)))
 refine sE [(0,.slice ad4 (n+1) cap5)] fun a hF=> ?_
 refine bK ?_
 refine tK ?_
 refine rP [(7,.int .i64 0)] hF fun a hF=> ?_
 refine tK (Cround.step ?_)
 refine cS ?_
 refine qP [(11,.bool true)] hF fun a hF=> ?_
 refine cT 11 hF ?_
 refine cN ?_
 refine tK ?_
 refine cS ?_
 refine cB 1 ?_
 refine rS hF ?_
 refine t1 4 (.int .i64 ((x/2^0:Nat):Int)) (.int .i64 (Int.fdiv ((x:Nat):Int) (2^0))) (congrArg (Value.int .i64) (fdivN (x) 0)) ?_
 refine t1 5 (bv (UInt8.ofNat (x/2^0))) (.int .u8 (IntKind.u8.wrap ((x/2^0:Nat):Int))) (conv64 _) ?_
 refine tN 6 (.slice (some ⟨h6.size,0,none⟩) 1 1) #[bv (UInt8.ofNat (x/2^0))] 5 fun h10 g11 m12=> ?_
 replace sep:=sep.nw (Nat.zero_le _) m12
 replace own_b:=own_b.ext g11
 refine tP 7 ((n+1)+1) 1 (((l++[UInt8.ofNat (x/2^8)])++[UInt8.ofNat (x/2^0)]).map bv) own_b (Row.blk (n:=1) (sz:=1) (l:=[UInt8.ofNat (x/2^0)].map bv) m12 rfl) (ones_map _) (fun ad13 cap14 h15 own_b g16 hb17=> ?_) (ys:=(([UInt8.ofNat (x/2^0)]).map bv))
 replace g0:=g0.ext g11
 have hop_n:=grown hop_b hb17 g0.1
 replace g0:=g0.grew g16 (alwO hop_b)
 have s18:=sep
 replace sep:=sep.sa g16 1 hb17 own_b (Nat.zero_le _);clear hb17
 replace hop_b:=hop_n;clear hop_n
 replace m12:=m12.y g16 (s18.bp 0 1)
 clear m12
 replace sep:=sep.sub (l':=[ad13.map (·.block)]) (.cons _ (.cons_cons _ (.slnil)))
 refine sE [(0,.slice ad13 ((n+1)+1) cap14)] fun a hF=> ?_
 refine bK ?_
 refine tK ?_
 refine rP [(7,.int .i64 (-1))] hF fun a hF=> ?_
 refine tK (Cround.step ?_)
 refine cS ?_
 refine qP [(11,.bool false)] hF fun a hF=> ?_
 refine cF 11 hF ?_
 refine cX 0 (xT (xT (xB ?_)))
 refine tK ?_
 refine qP [(6,.slice ad13 ((n+1)+1) cap14)] hF fun a hF=> ?_
 refine cR ?_
 refine rT 6 (.slice ad13 ((n+1)+1) cap14) hF ?_
 exact⟨_,_,rfl,by simpa only[Nat.pow_zero,Nat.div_one,List.append_assoc,List.singleton_append] using own_b,hop_b,g0⟩
theorem rname_yes(h:Heap)(s:ByteArray)(hs:nameOk s=true):Sat Tryz.prog 27 #[.string s] h fun v h'=>v= .bool true∧h'=h:=hs▸rname_sat h s (by have:=name_le hs;omega)
theorem rname_no(h:Heap)(s:ByteArray)(hz:s.size ≤9223372036854775807)(hs:nameOk s=false):Sat Tryz.prog 27 #[.string s] h fun v h'=>v= .bool false∧h'=h:=hs▸rname_sat h s hz
noncomputable def b28:Code:=Tryz.f28.body.getD .skip
theorem rentry_sat(h:Heap)(s:ByteArray)(n:Nat)(l:List UInt8)(hs:nameOk s=true)(hn:n≤512)(hl32:l.length =32):Sat Tryz.prog 28 #[.string s,.int .i64 ((n:Nat):Int),.agg (l.map bv).toArray] h fun v h'=>∃ad cap,v= .tuple #[.slice ad (entB s n l).length cap,.int .i64 0]∧Own h' (.slice ad (entB s n l).length cap) 5 (entB s n l).length 1 ((entB s n l).map bv)∧(∀k,ad.map (fun(x:Addr)=>x.block)=some k→h.size ≤k)∧Ext h h':=by
 have hsl:=name_le hs
 have hsp:=name_pos hs
 have e0:=Ext.refl h
 have sep:Sep h.size h.size []:=Sep.nil _ _
 refine sat_in Tryz.func28 33 fun a hF=> ?_
 refine qS hF ?_
 refine tN 0 (pV h.size) ((l.map bv).toArray) 39 fun h1 g2 m3=> ?_
 replace sep:=sep.nw e0.size m3
 refine sT [(5,pV h.size)] fun a hF=> ?_
 refine cS ?_
 refine qS hF ?_
 refine tC 1 (.bool true) (Does.call (f:=27) (args:= #[.string s]) (by kernel_rfl) (rname_yes _ s hs)) ?_
 refine tX 5 (((n:Nat):Int)<(0:Int)) ?_
 refine tX 9 ((512:Int)<((n:Nat):Int)) ?_
 refine sT [(19,.bool false)] fun a hF=> ?_
 refine cF 19 hF ?_
 refine cN ?_
 refine tK ?_
 refine qS hF ?_
 refine t1 2 (bv (UInt8.ofNat s.size)) (.int .u8 (IntKind.u8.wrap ((s.size :Nat):Int))) (conv64 _) ?_
 refine tN 3 (.slice (some ⟨h1.size,0,none⟩) 1 1) #[bv (UInt8.ofNat s.size)] 5 fun h4 g5 m6=> ?_
 replace e0:=e0.ext g2
 replace sep:=sep.nw e0.size m6
 have own_a:Own h4 (.slice (some ⟨h1.size,0,none⟩) 1 1) 5 1 1 (([UInt8.ofNat s.size]).map bv):=Own.blk m6 rfl (by unfold maxLen;decide)
 replace sep:Sep h.size h4.size [(some ⟨h1.size,0,none⟩:Option Addr).map (·.block),some (h.size)]:=sep
 replace e0:=e0.ext g5
 replace m3:=m3.x g5
 clear m6
 refine tF 5 (Does.bytesOf (el:=5) (s:=s) (by kernel_rfl)) ?_
 rintro _ h8 ⟨cap7,rfl,hrs,gs⟩
 replace e0:=e0.ext gs
 replace own_a:=own_a.ext gs
 replace m3:=m3.x gs
 replace sep:=sep.up gs.size
 clear gs
 refine tP 6 (1+s.size) 1 (([UInt8.ofNat s.size]++s.data.toList).map bv) own_a hrs (ones_map _) (fun ad9 cap10 h11 own_a g12 hb13=> ?_)
 have s14:=sep
 replace sep:=sep.sa g12 0 hb13 own_a e0.size;clear hb13
 refine sT [(8,.slice ad9 (1+s.size) cap10)] fun a hF=> ?_
 refine qS hF ?_
 refine tG 2 (rput11_sat _ ([UInt8.ofNat s.size]++s.data.toList) (1+s.size) n _ _ own_a (by omega)) ?_
 rintro _ h17 ⟨ad15,cap16,rfl,ownx,hbx,gx⟩
 replace e0:=e0.grew g12 (s14.l 0)
 replace m3:=m3.y g12 (s14.bp 1 0)
 have hlo:=e0.size
 replace e0:=Gr.toExt e0 gx (sep.low 0 rfl)
 replace m3:=gx.blk m3 (fun e=>(sep.bp 1 0) e.symm)
 replace sep:Sep h.size h17.size [ad15.map (·.block),some (h.size)]:=sep.set gx.1 hlo 0 (y:=ad15.map (fun(x:Addr)=>x.block)) rfl (hbx.imp id .inr) (fun k e=>ownx.lt (by rw[blkOf_slice];exact e))
 clear own_a;have own_a:=ownx;clear ownx hbx gx hlo
 refine sT [(8,.slice ad15 (1+s.size +1+1) cap16)] fun a hF=> ?_
 refine qS hF ?_
 refine tP 2 (1+s.size +1+1+32) 1 (((([UInt8.ofNat s.size]++s.data.toList)++[UInt8.ofNat (n/2^8),UInt8.ofNat n])++l).map bv) own_a (hrow hl32 m3) (ones_map _) (fun ad18 cap19 h20 own_a g21 hb22=> ?_)
 have s23:=sep
 replace sep:=sep.sa g21 0 hb22 own_a e0.size;clear hb22
 refine sT [(6,.slice ad18 (1+s.size +1+1+32) cap19),(7,.int .i64 0)] fun a hF=> ?_
 refine cR ?_
 refine ret_ok [.tmp 6,.tmp 7] [.slice ad18 (1+s.size +1+1+32) cap19,.int .i64 0] (.tuple #[.slice ad18 (1+s.size +1+1+32) cap19,.int .i64 0]) rfl hF ⟨rfl,rfl,trivial⟩ rfl ?_
 have hel:=entB_len s n hl32
 rw[show 1+s.size +1+1+32=(entB s n l).length by omega] at own_a
 replace e0:=e0.grew g21 (s23.l 0)
 exact⟨_,_,by rw[show 1+s.size +1+1+32=(entB s n l).length by omega],own_a,sep.low 0 rfl,e0⟩
end Go.Proofs.YtegkejcglfgpmaaGreatDoor
end
section
namespace Go.Proofs.YtegkejcglfgpmaaGreatDoor
open Go Go.Lane Go.Sha
noncomputable def b99:Code:=Tryz.f99.body.getD .skip
theorem Row.off{h:Heap}{b off n m:Nat}{cs:Array Value}{E:TypeId}{fr:Nat×Nat}{xs:List Value}(m1:h[b]? =some (.cells cs E fr))(hx:(cs.toList.drop off).take n=xs)(hl:xs.length =n)(hn:n≤m):Row h (.slice (some ⟨b,off,none⟩) n m) n 1 xs:=by
 refine⟨by rw[hl,Nat.mul_one],.inr ⟨_,m,rfl,hn,fun j u hu=> ?_⟩⟩
 rw[add_lit,hcell_blk m1]
 rw[←hx,List.getElem?_take] at hu
 split at hu
 ·rw[List.getElem?_drop] at hu;simpa using hu
 ·cases hu
theorem number_sat(h:Heap)(l:List UInt8)(n x:Nat)(va:Option Addr)(vc:Nat)(hr:Row h (.slice va n vc) n 1 (l.map bv))(hn:n≤1099511627000):Sat Tryz.prog 99 #[.slice va n vc,.int .u64 ((x:Nat):Int),.int .i64 2] h fun v h'=>∃ad cap,v= .slice ad (n+2) cap∧Own h' (.slice ad (n+2) cap) 5 (n+2) 1 ((l++[UInt8.ofNat (x/2^8),UInt8.ofNat x]).map bv)∧(∀k,ad.map (fun(x:Addr)=>x.block)=some k→h.size ≤k)∧Ext h h':=by
 have e0:=Ext.refl h
 have sep:Sep h.size h.size []:=Sep.nil _ _
 refine sat_in Tryz.func99 36 fun a hF=> ?_
 refine qP [] hF fun a hF=> ?_
 refine qS hF ?_
 refine tG 1 (cloneb_sat _ l n _ _ (hr.ext e0) (by omega)) ?_
 rintro _ h5 ⟨ad1,cap2,rfl,own_c,hg4,g3⟩
 replace sep:=sep.co g3 hg4 own_c e0.size
 refine sT [(7,.slice ad1 n cap2)] fun a hF=> ?_
 refine cS ?_
 refine qP [(17,.bool false)] hF fun a hF=> ?_
 refine cF 17 hF ?_
 refine cN ?_
 refine tK ?_
 refine qS hF ?_
 refine tN 0 (pV h5.size) #[.int .u8 0,.int .u8 0,.int .u8 0,.int .u8 0,.int .u8 0,.int .u8 0,.int .u8 0,.int .u8 0] 177 fun h6 g7 m8=> ?_
 replace e0:=e0.ext g3
 replace sep:=sep.nw e0.size m8
 refine sT [(8,pV h5.size)] fun a hF=> ?_
 refine cS ?_
 refine qP [(19,.int .i64 0)] hF fun a hF=> ?_
 refine cB 0 ?_
 refine cU 9 ?_
 refine Cround.step ?_
 refine qP [(20,.bool true)] hF fun a hF=> ?_
 refine cS ?_
 refine cT 20 hF ?_
 refine cN ?_
 refine tK ?_
 refine cS ?_
 refine cB 1 ?_
 refine qP [(9,.int .i64 0)] hF fun a hF=> ?_
 refine rS hF ?_
 refine t1 5 (.int .u64 ((x/2^56:Nat):Int)) (.int .u64 (Int.fdiv ((x:Nat):Int) (2^56))) (congrArg (Value.int .u64) (fdivN (x) 56)) ?_
 refine t1 6 (bv (UInt8.ofNat (x/2^56))) (.int .u8 (IntKind.u8.wrap ((x/2^56:Nat):Int))) (conv64 _) ?_
 refine tV 8 0 [bv (UInt8.ofNat (x/2^56))] [bv (UInt8.ofNat (x/2^56)),.int .u8 0,.int .u8 0,.int .u8 0,.int .u8 0,.int .u8 0,.int .u8 0,.int .u8 0] m8 fun h9 g10 zq=> ?_
 replace m8:=zq
 refine sE [] fun a hF=> ?_
 refine bK ?_
 refine tK ?_
 refine rP [(19,.int .i64 1)] hF fun a hF=> ?_
 refine tK (Cround.step ?_)
 refine qP [(20,.bool true)] hF fun a hF=> ?_
 refine cS ?_
 refine cT 20 hF ?_
 refine cN ?_
 refine tK ?_
 refine cS ?_
 refine cB 1 ?_
 refine qP [(9,.int .i64 1)] hF fun a hF=> ?_
 refine rS hF ?_
 refine t1 5 (.int .u64 ((x/2^48:Nat):Int)) (.int .u64 (Int.fdiv ((x:Nat):Int) (2^48))) (congrArg (Value.int .u64) (fdivN (x) 48)) ?_
 refine t1 6 (bv (UInt8.ofNat (x/2^48))) (.int .u8 (IntKind.u8.wrap ((x/2^48:Nat):Int))) (conv64 _) ?_
 refine tV 8 1 [bv (UInt8.ofNat (x/2^48))] [bv (UInt8.ofNat (x/2^56)),bv (UInt8.ofNat (x/2^48)),.int .u8 0,.int .u8 0,.int .u8 0,.int .u8 0,.int .u8 0,.int .u8 0] m8 fun h11 g12 zq=> ?_
 replace m8:=zq
 refine sE [] fun a hF=> ?_
 refine bK ?_
 refine tK ?_
 refine rP [(19,.int .i64 2)] hF fun a hF=> ?_
 refine tK (Cround.step ?_)
 refine qP [(20,.bool true)] hF fun a hF=> ?_
 refine cS ?_
 refine cT 20 hF ?_
 refine cN ?_
 refine tK ?_
 refine cS ?_
 refine cB 1 ?_
 refine qP [(9,.int .i64 2)] hF fun a hF=> ?_
 refine rS hF ?_
 refine t1 5 (.int .u64 ((x/2^40:Nat):Int)) (.int .u64 (Int.fdiv ((x:Nat):Int) (2^40))) (congrArg (Value.int .u64) (fdivN (x) 40)) ?_
 refine t1 6 (bv (UInt8.ofNat (x/2^40))) (.int .u8 (IntKind.u8.wrap ((x/2^40:Nat):Int))) (conv64 _) ?_
 refine tV 8 2 [bv (UInt8.ofNat (x/2^40))] [bv (UInt8.ofNat (x/2^56)),bv (UInt8.ofNat (x/2^48)),bv (UInt8.ofNat (x/2^40)),.int .u8 0,.int .u8 0,.int .u8 0,.int .u8 0,.int .u8 0] m8 fun h13 g14 zq=> ?_
 replace m8:=zq
 refine sE [] fun a hF=> ?_
 refine bK ?_
 refine tK ?_
 refine rP [(19,.int .i64 3)] hF fun a hF=> ?_
 refine tK (Cround.step ?_)
 refine qP [(20,.bool true)] hF fun a hF=> ?_
 refine cS ?_
 refine cT 20 hF ?_
 refine cN ?_
 refine tK ?_
 refine cS ?_
 refine cB 1 ?_
 refine qP [(9,.int .i64 3)] hF fun a hF=> ?_
 refine rS hF ?_
 refine t1 5 (.int .u64 ((x/2^32:Nat):Int)) (.int .u64 (Int.fdiv ((x:Nat):Int) (2^32))) (congrArg (Value.int .u64) (fdivN (x) 32)) ?_
 refine t1 6 (bv (UInt8.ofNat (x/2^32))) (.int .u8 (IntKind.u8.wrap ((x/2^32:Nat):Int))) (conv64 _) ?_
 refine tV 8 3 [bv (UInt8.ofNat (x/2^32))] [bv (UInt8.ofNat (x/2^56)),bv (UInt8.ofNat (x/2^48)),bv (UInt8.ofNat (x/2^40)),bv (UInt8.ofNat (x/2^32)),.int .u8 0,.int .u8 0,.int .u8 0,.int .u8 0] m8 fun h15 g16 zq=> ?_
 replace m8:=zq
 refine sE [] fun a hF=> ?_
 refine bK ?_
 refine tK ?_
 refine rP [(19,.int .i64 4)] hF fun a hF=> ?_
 refine tK (Cround.step ?_)
 refine qP [(20,.bool true)] hF fun a hF=> ?_
 refine cS ?_
 refine cT 20 hF ?_
 refine cN ?_
 refine tK ?_
 refine cS ?_
 refine cB 1 ?_
 refine qP [(9,.int .i64 4)] hF fun a hF=> ?_
 refine rS hF ?_
 refine t1 5 (.int .u64 ((x/2^24:Nat):Int)) (.int .u64 (Int.fdiv ((x:Nat):Int) (2^24))) (congrArg (Value.int .u64) (fdivN (x) 24)) ?_
 refine t1 6 (bv (UInt8.ofNat (x/2^24))) (.int .u8 (IntKind.u8.wrap ((x/2^24:Nat):Int))) (conv64 _) ?_
 refine tV 8 4 [bv (UInt8.ofNat (x/2^24))] [bv (UInt8.ofNat (x/2^56)),bv (UInt8.ofNat (x/2^48)),bv (UInt8.ofNat (x/2^40)),bv (UInt8.ofNat (x/2^32)),bv (UInt8.ofNat (x/2^24)),.int .u8 0,.int .u8 0,.int .u8 0] m8 fun h17 g18 zq=> ?_
 replace m8:=zq
 refine sE [] fun a hF=> ?_
 refine bK ?_
 refine tK ?_
 refine rP [(19,.int .i64 5)] hF fun a hF=> ?_
 refine tK (Cround.step ?_)
 refine qP [(20,.bool true)] hF fun a hF=> ?_
 refine cS ?_
 refine cT 20 hF ?_
 refine cN ?_
 refine tK ?_
 refine cS ?_
 refine cB 1 ?_
 refine qP [(9,.int .i64 5)] hF fun a hF=> ?_
 refine rS hF ?_
 refine t1 5 (.int .u64 ((x/2^16:Nat):Int)) (.int .u64 (Int.fdiv ((x:Nat):Int) (2^16))) (congrArg (Value.int .u64) (fdivN (x) 16)) ?_
 refine t1 6 (bv (UInt8.ofNat (x/2^16))) (.int .u8 (IntKind.u8.wrap ((x/2^16:Nat):Int))) (conv64 _) ?_
 refine tV 8 5 [bv (UInt8.ofNat (x/2^16))] [bv (UInt8.ofNat (x/2^56)),bv (UInt8.ofNat (x/2^48)),bv (UInt8.ofNat (x/2^40)),bv (UInt8.ofNat (x/2^32)),bv (UInt8.ofNat (x/2^24)),bv (UInt8.ofNat (x/2^16)),.int .u8 0,.int .u8 0] m8 fun h19 g20 zq=> ?_
 replace m8:=zq
 refine sE [] fun a hF=> ?_
 refine bK ?_
 refine tK ?_
 refine rP [(19,.int .i64 6)] hF fun a hF=> ?_
 refine tK (Cround.step ?_)
 refine qP [(20,.bool true)] hF fun a hF=> ?_
 refine cS ?_
 refine cT 20 hF ?_
 refine cN ?_
 refine tK ?_
 refine cS ?_
 refine cB 1 ?_
 refine qP [(9,.int .i64 6)] hF fun a hF=> ?_
 refine rS hF ?_
 refine t1 5 (.int .u64 ((x/2^8:Nat):Int)) (.int .u64 (Int.fdiv ((x:Nat):Int) (2^8))) (congrArg (Value.int .u64) (fdivN (x) 8)) ?_
 refine t1 6 (bv (UInt8.ofNat (x/2^8))) (.int .u8 (IntKind.u8.wrap ((x/2^8:Nat):Int))) (conv64 _) ?_
 refine tV 8 6 [bv (UInt8.ofNat (x/2^8))] [bv (UInt8.ofNat (x/2^56)),bv (UInt8.ofNat (x/2^48)),bv (UInt8.ofNat (x/2^40)),bv (UInt8.ofNat (x/2^32)),bv (UInt8.ofNat (x/2^24)),bv (UInt8.ofNat (x/2^16)),bv (UInt8.ofNat (x/2^8)),.int .u8 0] m8 fun h21 g22 zq=> ?_
 replace m8:=zq
 refine sE [] fun a hF=> ?_
 refine bK ?_
 refine tK ?_
 refine rP [(19,.int .i64 7)] hF fun a hF=> ?_
 refine tK (Cround.step ?_)
 refine qP [(20,.bool true)] hF fun a hF=> ?_
 refine cS ?_
 refine cT 20 hF ?_
 refine cN ?_
 refine tK ?_
 refine cS ?_
 refine cB 1 ?_
 refine qP [(9,.int .i64 7)] hF fun a hF=> ?_
 refine rS hF ?_
 refine t1 5 (.int .u64 ((x/2^0:Nat):Int)) (.int .u64 (Int.fdiv ((x:Nat):Int) (2^0))) (congrArg (Value.int .u64) (fdivN (x) 0)) ?_
 refine t1 6 (bv (UInt8.ofNat (x/2^0))) (.int .u8 (IntKind.u8.wrap ((x/2^0:Nat):Int))) (conv64 _) ?_
 refine tV 8 7 [bv (UInt8.ofNat (x/2^0))] [bv (UInt8.ofNat (x/2^56)),bv (UInt8.ofNat (x/2^48)),bv (UInt8.ofNat (x/2^40)),bv (UInt8.ofNat (x/2^32)),bv (UInt8.ofNat (x/2^24)),bv (UInt8.ofNat (x/2^16)),bv (UInt8.ofNat (x/2^8)),bv (UInt8.ofNat (x/2^0))] m8 fun h23 g24 zq=> ?_
 replace m8:=zq
 refine sE [] fun a hF=> ?_
 refine bK ?_
 refine tK ?_
 refine rP [(19,.int .i64 8)] hF fun a hF=> ?_
 refine tK (Cround.step ?_)
 refine qP [(20,.bool false)] hF fun a hF=> ?_
 refine cS ?_
 refine cF 20 hF ?_
 refine cX 0 (xT (xT (xB ?_)))
 refine tK ?_
 refine qS hF ?_
 have hro:Row h23 (.slice (some ⟨h5.size,6,none⟩) 2 2) 2 1 (([UInt8.ofNat (x/2^8),UInt8.ofNat (x/2^0)]:List UInt8).map bv):=Row.off m8 (by rfl) rfl (Nat.le_refl _)
 replace own_c:=((((((((own_c.ext g7).k g10 (sep.ap 1 0)).k g12 (sep.ap 1 0)).k g14 (sep.ap 1 0)).k g16 (sep.ap 1 0)).k g18 (sep.ap 1 0)).k g20 (sep.ap 1 0)).k g22 (sep.ap 1 0)).k g24 (sep.ap 1 0)
 refine tP 4 (n+2) 1 ((l++[UInt8.ofNat (x/2^8),UInt8.ofNat (x/2^0)]).map bv) own_c hro (ones_map _) (fun ad25 cap26 h27 own_c g28 hb29=> ?_) (ys:=(([UInt8.ofNat (x/2^8),UInt8.ofNat (x/2^0)]).map bv))
 replace e0:=((((((((e0.ext g7).grew g10 (sep.l 0)).grew g12 (sep.l 0)).grew g14 (sep.l 0)).grew g16 (sep.l 0)).grew g18 (sep.l 0)).grew g20 (sep.l 0)).grew g22 (sep.l 0)).grew g24 (sep.l 0)
 replace sep:=(((((((sep.up g10.size).up g12.size).up g14.size).up g16.size).up g18.size).up g20.size).up g22.size).up g24.size
 have s30:=sep
 replace sep:=sep.sa g28 1 hb29 own_c e0.size;clear hb29
 refine sT [(6,.slice ad25 (n+2) cap26)] fun a hF=> ?_
 refine cR ?_
 refine rT 6 (.slice ad25 (n+2) cap26) hF ?_
 replace e0:=e0.grew g28 (s30.l 1)
 exact⟨_,_,rfl,by simpa only[Nat.pow_zero,Nat.div_one] using own_c,sep.low 1 rfl,e0⟩
theorem name_yes(h:Heap)(s:ByteArray)(hs:nameOk s=true):Sat Tryz.prog 62 #[.string s] h fun v h'=>v= .bool true∧h'=h:=hs▸name_sat h s (by have:=name_le hs;omega)
theorem name_no'(h:Heap)(s:ByteArray)(hz:s.size ≤9223372036854775807)(hs:nameOk s=false):Sat Tryz.prog 62 #[.string s] h fun v h'=>v= .bool false∧h'=h:=hs▸name_sat h s hz
theorem within_yes(h:Heap)(n m:Nat)(hm:m≤1099511627776)(hn:n≤m):Sat Tryz.prog 98 #[.int .i64 ((n:Nat):Int),.int .i64 ((m:Nat):Int)] h fun v h'=>v= .bool true∧h'=h:=(decide_eq_true hn)▸within_sat h n m (by omega)
noncomputable def b65:Code:=Tryz.f65.body.getD .skip
theorem entry_sat(h:Heap)(s:ByteArray)(n:Nat)(l:List UInt8)(hs:nameOk s=true)(hn:n≤512)(hl32:l.length =32):Sat Tryz.prog 65 #[.string s,.int .i64 ((n:Nat):Int),.agg (l.map bv).toArray] h fun v h'=>∃ad cap,v= .tuple #[.slice ad (entB s n l).length cap,.int .i64 0]∧Own h' (.slice ad (entB s n l).length cap) 5 (entB s n l).length 1 ((entB s n l).map bv)∧(∀k,ad.map (fun(x:Addr)=>x.block)=some k→h.size ≤k)∧Ext h h':=by
 have hsl:=name_le hs
 have hsp:=name_pos hs
 have e0:=Ext.refl h
 have sep:Sep h.size h.size []:=Sep.nil _ _
 refine sat_in Tryz.func65 29 fun a hF=> ?_
 refine qS hF ?_
 refine tN 0 (pV h.size) ((l.map bv).toArray) 39 fun h1 g2 m3=> ?_
 replace sep:=sep.nw e0.size m3
 refine sT [(5,pV h.size)] fun a hF=> ?_
 refine cS ?_
 refine qS hF ?_
 refine tC 1 (.bool true) (Does.call (f:=62) (args:= #[.string s]) (by kernel_rfl) (name_yes _ s hs)) ?_
 refine tC 5 (.bool true) (Does.call (f:=98) (args:= #[nV n,.int .i64 512]) (by kernel_rfl) (within_yes _ n 512 (by decide) (by omega))) ?_
 refine sT [(16,.bool false)] fun a hF=> ?_
 refine cF 16 hF ?_
 refine cN ?_
 refine tK ?_
 refine qS hF ?_
 refine t1 2 (bv (UInt8.ofNat s.size)) (.int .u8 (IntKind.u8.wrap ((s.size :Nat):Int))) (conv64 _) ?_
 refine tN 3 (.slice (some ⟨h1.size,0,none⟩) 1 1) #[bv (UInt8.ofNat s.size)] 5 fun h4 g5 m6=> ?_
 replace e0:=e0.ext g2
 replace sep:=sep.nw e0.size m6
 refine tF 5 (Does.appendStr (t:=32) (u:=9) (E:=5) (n:=1) (xs:=([UInt8.ofNat s.size]:List UInt8).map bv) (by kernel_rfl) (by kernel_rfl) (by kernel_rfl) (Row.blk m6 rfl) (by omega) (by omega)) ?_
 rintro _ h9 ⟨ad7,cap8,rfl,ownx,hb,g⟩
 replace e0:=e0.ext g5
 have hlo:=e0.size
 have sepo:=sep
 replace m3:=m3.x g5
 replace e0:=e0.ext g
 replace m3:=m3.x g
 replace m6:=m6.x g
 replace sep:=sep.up g.size
 replace sep:=sepo.cons (x:=some ad7.block) g.size hlo (fun k e=>by cases e;exact⟨Nat.le_of_eq hb.symm,ownx.lt (by rfl)⟩)
 have own_a:Own h9 (.slice (some ad7) (1+s.size) cap8) 5 (1+s.size) 1 (([UInt8.ofNat s.size]++s.data.toList).map bv):=by rw[List.map_append];exact ownx
 clear ownx sepo hlo hb g
 refine t1 7 (.int .u64 ((n:Nat):Int)) (.int .u64 (IntKind.u64.wrap ((n:Nat):Int))) (congrArg (Value.int .u64) (u64n (by omega))) ?_
 refine tG 8 (number_sat _ ([UInt8.ofNat s.size]++s.data.toList) (1+s.size) n _ _ own_a.row (by omega)) ?_
 rintro _ h14 ⟨ad10,cap11,rfl,own_b,hg13,g12⟩
 replace sep:=sep.co g12 hg13 own_b e0.size
 refine sT [(8,.slice ad10 (1+s.size +2) cap11)] fun a hF=> ?_
 refine qS hF ?_
 replace m3:=m3.x g12
 refine tP 2 (1+s.size +2+32) 1 (((([UInt8.ofNat s.size]++s.data.toList)++[UInt8.ofNat (n/2^8),UInt8.ofNat n])++l).map bv) own_b (hrow hl32 m3) (ones_map _) (fun ad15 cap16 h17 own_b g18 hb19=> ?_)
 replace e0:=e0.ext g12
 have s20:=sep
 replace sep:=sep.sa g18 0 hb19 own_b e0.size;clear hb19
 refine sT [(6,.slice ad15 (1+s.size +2+32) cap16),(7,.int .i64 0)] fun a hF=> ?_
 refine cR ?_
 refine ret_ok [.tmp 6,.tmp 7] [.slice ad15 (1+s.size +2+32) cap16,.int .i64 0] (.tuple #[.slice ad15 (1+s.size +2+32) cap16,.int .i64 0]) rfl hF ⟨rfl,rfl,trivial⟩ rfl ?_
 have hel:=entB_len s n hl32
 rw[show 1+s.size +2+32=(entB s n l).length by omega] at own_b
 replace e0:=e0.grew g18 (s20.l 0)
 exact⟨_,_,by rw[show 1+s.size +2+32=(entB s n l).length by omega],own_b,sep.low 0 rfl,e0⟩
end Go.Proofs.YtegkejcglfgpmaaGreatDoor
end
