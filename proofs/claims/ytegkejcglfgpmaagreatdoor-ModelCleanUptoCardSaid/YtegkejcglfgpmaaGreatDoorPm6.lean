/- The walks and the plain laws, part 6: RN, ModelCleanCard. Conditions: those that each theorem names. -/
import Derived.Test.YtegkejcglfgpmaaGreatDoorPm5
section
namespace Go.Proofs.YtegkejcglfgpmaaGreatDoor
open Go Go.aj Go.aN
noncomputable def b3:Code:=Tryz.f3.body.getD .skip
set_option maxHeartbeats 1000000 in
theorem vj(h:Heap)(L:List e9)(la:Option Addr)(lc:Nat)(hll:Row h (.slice la L.length lc) L.length 5 (iA L))(ho:∀o∈L,me h o∧o.l.length ≤1048576)(hlb:L.length ≤1048576)(V:List Lk)(va:Option Addr)(vc:Nat)(hvv:Row h (.slice va V.length vc) V.length 3 (tn V))(hv:∀x∈V,lV x)(kt:bl h):Sat Tryz.prog 3 #[.slice la L.length lc,.slice va V.length vc] h fun v h'=>v= .bool true∧Ext h h':=by
 have b:=Ext.refl h
 refine ag Tryz.func3 21 fun a c=>qP [] c fun a c=>qS c<|tG 0 (u2 _ kt) ?_
 rintro _ j ⟨rfl,f⟩
 refine sT [(5,.bool true)] fun a c=>cS<|qP [(9,.bool false)] c fun a c=>cF 9 c<|cN<|tK<|qS c ?_
 replace b:=b.ext f
 replace kt:=kt.ext f
 refine tG 3 (rW _ L la lc (hll.ext b) (fun o hm=>⟨⟨(ho o hm).1.1.1.ext b,(ho o hm).1.2⟩,(ho o hm).2⟩) hlb V va vc (hvv.ext b) hv kt) ?_
 rintro _ k ⟨Out,ad,cap,rfl,hol,hon,d,e,_,_,g⟩
 replace b:=b.ext g
 replace kt:=kt.ext g
 refine tG 4 (gJ _ L Out L.length _ _ _ _ (DS L V) (fun _=>0) (hll.ext b) rfl d.row hol kt (by omega) rfl (DT hol hon e (fun o hm=>(ho o hm).1.ext b) hlb) [] (yx _)) ?_
 rintro _ m ⟨jd,jc,rfl,_,i⟩
 refine sT [(6,.slice jd 0 jc)] fun a c=>qP [(4,.bool true)] c fun a c=>cR<|rT 4 (.bool true) c ?_
 replace b:=b.ext i
 exact⟨rfl,b⟩
end Go.Proofs.YtegkejcglfgpmaaGreatDoor
end
section
namespace Go.Proofs.YtegkejcglfgpmaaGreatDoor.modelClean
open Go.ChangeShapes Go.WideShapes Go.ChangeAt Go.RowKit
set_option maxRecDepth 100000 in
/-- WHAT THE WALK GIVES, for every argument and every world that holds the table. -/
theorem contract(H:Type)(enc:TypeId×Value→H)(W:World)(base:Nat)(args:Array Value)(ds gs:List (DataW H))(before:List MemPlace)
    (hval:∀(j:Nat) t v,Tryz.f3.params[j]? =some t→args[j]? =some v→Value.okWide Tryz.prog W .any base t v)
    (hW:DataW.Whole enc Tryz.prog Tryz.f3.params.toList Rows.modelCleanSpec.vars false W args.toList ds gs before) (hk:Rows.uptoSmall H (ds++gs)=true) (hL:laidMetH Tryz.prog Rows.modelCleanUptoRow.laid W):
    Calls Tryz.prog 3 args W fun e W'=>∃v,e= .returned v∧Rows.modelCleanSpec.post enc Tryz.prog Tryz.f3 false true false false W args v W':=by
  have hW':=hW
  obtain⟨p,q,hA0,hV,rfl,hfz,hnd⟩:=hW
  have hA:DataW.TrodAll enc Tryz.prog W 0 (fun _=>true) true Tryz.f3.params.toList args.toList ds p:=hA0
  rw[show Tryz.f3.params.toList =[22,23] from rfl] at hA
  obtain⟨v0,vs0,d0,ds0,p0,q0,hargs,rfl,rfl,h0,r0⟩:=trodAll_cons hA
  obtain⟨v1,vs1,d1,ds1,p1,q1,rfl,rfl,rfl,h1,r1⟩:=trodAll_cons r0
  obtain⟨rfl,rfl,rfl⟩:=trodAll_nil r1
  obtain rfl:args= #[v0,v1]:=by cases args;simp_all
  obtain⟨rfl,rfl⟩:=trodVars_none hV
  have Hh:=sq.bound hk
  simp only[List.append_nil,Rows.uptoBulkAll] at Hh
  have kt:aN.bl W.heap :=zF hL
  have hO:C8 Tryz.prog 35 3 9 32 5 33:=⟨by kernel_rfl,by kernel_rfl,by kernel_rfl,by kernel_rfl,by kernel_rfl,by kernel_rfl,by kernel_rfl,by kernel_rfl,by kernel_rfl,by kernel_rfl,by kernel_rfl,by kernel_rfl⟩
  obtain⟨la,lc,L,rfl,hl,ho,hlb⟩:=vi hO (by kernel_rfl) (hval 0 22 v0 rfl rfl) h0
  have hQ:DU Tryz.prog 80 3:=⟨by kernel_rfl,by kernel_rfl,by kernel_rfl,by kernel_rfl⟩
  obtain⟨va,vc,V,rfl,hv,hk'⟩:=yz hQ (by kernel_rfl) (hval 1 23 v1 rfl rfl) h1
  refine(vj W.heap L la lc hl (fun o h=>⟨(ho o h).1,by have:=(ho o h).2;omega⟩) (by omega) V va vc hv hk' kt W rfl).mono fun e W' ⟨v,he,sm,hv,ex⟩=> ?_
  subst hv
  exact⟨_,he,vY laidOut rfl (by kernel_rfl) (fun t ht=>by
    simp only[show Tryz.f3.params.toList =[22,23] from rfl,List.mem_cons,List.not_mem_nil,or_false] at ht
    rcases ht with rfl|rfl
    · exact⟨by kernel_rfl,of_decide_eq_true (by kernel_rfl)⟩
    · exact⟨by kernel_rfl,of_decide_eq_true (by kernel_rfl)⟩) rfl rfl rfl rfl hW' (vX sm ex)⟩
noncomputable def laidWorld(os:Os):World:=
  {World.holding Tryz.prog os ⟨#[], #[],[]⟩ with heap:=(World.holding Tryz.prog os ⟨#[], #[],[]⟩).heap.modify 0 fun
      | .cells _ t frozen=> .cells (aN.fw.map aN.wv).toArray t frozen
      |o=>o}
theorem laid_met(os:Os):laidMet Tryz.prog Rows.modelCleanUptoRow.laid ((laidWorld os).forCall (fun _ _=>0) ⟨#[], #[.slice none 0 0, .slice none 0 0],[]⟩).memory :=
  laidMet_of_run' 8 (by kernel_rfl) (by kernel_rfl)
theorem reads(os:Os){H:Type}(enc:TypeId×Value→H):∃places,DataW.whole enc Tryz.prog ((laidWorld os).forCall (fun _ _=>0) ⟨#[], #[.slice none 0 0, .slice none 0 0],[]⟩).memory Tryz.f3.params.toList Rows.modelCleanSpec.vars false (#[.slice none 0 0, .slice none 0 0]:Array Value).toList 8=some ([.nil, .nil],[],places):=
  ⟨[],by kernel_rfl⟩
set_option maxRecDepth 100000 in
theorem rX(os:Os)(started:os.Started)(H:Type)(enc:TypeId×Value→H)(F:Stop.Interp):
    ReturnsInHanded {} Tryz.checked os 3 .any ((Rows.OpenSpec.upto Rows.modelCleanSpec).preRow enc Tryz.prog Tryz.f3 Rows.modelCleanUptoRow.domain false Rows.modelCleanUptoRow.laid) (((Rows.OpenSpec.upto Rows.modelCleanSpec).at F).post enc Tryz.prog Tryz.f3 false true false false):=by
  obtain⟨places,hx⟩:=reads os enc
  refine returnsInHanded_of_row (C:=Tryz.checked) (s:=Rows.OpenSpec.upto Rows.modelCleanSpec) own started (by kernel_rfl) Tryz.func3
    (witness_row_at (enc:=enc) (C:=Tryz.checked) false (laidWorld os) #[.slice none 0 0, .slice none 0 0] rfl (by kernel_rfl) (by kernel_rfl) (by kernel_rfl)
      (OpenSpec.preRow_of_cond 8 hx (by kernel_rfl) (fun k hk=>by cases hk;kernel_rfl) (by kernel_rfl) (laid_met os))) ?_
  intro W base args ds gs before hval hW _ hc _ hL _ _
  exact contract H enc W base args ds gs before hval hW (hc _ rfl) hL
theorem yY:Rows.ModelCleanUptoSaid :=
  OpenClaim.holds_of_cond 3 Tryz.f3 rfl rfl rfl rfl rfl rfl rfl ⟨rfl,rfl,rfl,rfl,rfl⟩ rfl rfl rfl rfl rfl (by kernel_rfl) Tryz.func3 (by kernel_rfl)
    (of_decide_eq_true (by kernel_rfl)) (by unfold Func.isWrapper;first| (rw[if_pos (by decide+kernel)];kernel_rfl)| (rw[if_neg (by decide+kernel)];exact⟨rfl,rfl⟩))
    (fun os started H enc _ F=>by rw[OpenClaim.pre_eq_preRow];exact rX os started H enc F)
theorem plain(f:FuncId)(fn:Func)(hf:Tryz.pinned.checked.prog.funcNamed "muniment/munimentlaw23.ModelClean" =some f)(hfn:Tryz.pinned.checked.prog.funcs[f]? =some fn):
    false=Tryz.pinned.checked.prog.looks []∧∀(j:Nat) t,fn.params[j]? =some t→Tryz.pinned.checked.prog.wantsStandIn t=false:=by
  obtain rfl:f=3:=Option.some.inj ((show Tryz.prog.funcNamed "muniment/munimentlaw23.ModelClean" =some 3 by kernel_rfl).symm.trans hf) |>.symm
  obtain rfl:fn=Tryz.f3 :=(Option.some.inj (Tryz.func3.symm.trans hfn)).symm
  refine⟨by kernel_rfl,fun j t ht=> ?_⟩
  rw[show Tryz.f3.params = #[22,23] from rfl] at ht
  have hm:=Array.mem_of_getElem? ht
  simp only[List.mem_toArray,List.mem_cons,List.not_mem_nil,or_false] at hm
  rcases hm with rfl|rfl
  · exact(show Tryz.prog.wantsStandIn 22=false by kernel_rfl)
  · exact(show Tryz.prog.wantsStandIn 23=false by kernel_rfl)
theorem cardUpto:Rows.ModelCleanUptoCardSaid :=
  Claim7.holds_tied_plain_at .later [] _ _ _ _ yY (fun _ h=>by cases h) (by kernel_rfl) (fun _ h=>by cases h) modelCleanUpto_row_tie rfl ⟨rfl,rfl⟩ (by kernel_rfl) rfl plain (by kernel_rfl)
end Go.Proofs.YtegkejcglfgpmaaGreatDoor.modelClean
end
