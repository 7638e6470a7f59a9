/- Parts of the proof. -/
import Derived.Test.YtlpempbeenpilaaGreatDoorZRgW
import Derived.Test.YtlpempbeenpilaaGreatDoorZRgQ8
import Derived.Test.YtlpempbeenpilaaGreatDoorZRg4
set_option linter.unusedSimpArgs false
set_option linter.unusedVariables false
set_option linter.unusedSectionVars false
namespace Go.Proofs.YtlpempbeenpilaaGreatDoor
open Go Go.ChangeShapes Go.WideShapes Go.ChangeAt Go.RowKit
set_option maxRecDepth 100000 in
theorem registryRefusesLifted (os:Os)(started:os.Started)(H:Type)(enc:TypeId×Value→H) :
  ReturnsInHanded {} Tryz.checked os 7 .any (fun w args=>(Rows.registryRefusesSpec.pre enc Tryz.prog Tryz.f7 [] false w args∧laidMetH Tryz.prog Rows.registryRefusesRow.laid w)∧sizedMet enc Tryz.prog Tryz.f7 (OpenSpec.ofChange Rows.registryRefusesSpec) false w args)
   (Rows.registryRefusesSpec.post enc Tryz.prog Tryz.f7 false true false false):=by
 refine returnsInHanded_of_change_and (C:=Tryz.checked) (X:=fun w _=>laidMetH Tryz.prog Rows.registryRefusesRow.laid w) (fun _ _ _ hh h=>h.of_heap hh) SX.Rg.ownN started (by kernel_rfl) Tryz.func7
  (ChangeSpec.witness_shaped (enc:=enc) (C:=Tryz.checked) (os:=os) (X:=fun w _=>laidMetH Tryz.prog Rows.registryRefusesRow.laid w) false (laidW os) #[.int .u8 0,.slice none 0 0,.agg #[.int .i64 0,.int .i64 0,.int .i64 0,.string ⟨#[]⟩,.slice none 0 0]] 8 (World.laidAll_os _ _ _) (door_shaped os) (by kernel_rfl) (by kernel_rfl) (by kernel_rfl) (door_met os _)) ?_
 intro W base args ds gs before hval0 hW _ hwt hL _
 have hval:∀ (j:Nat) t v,Tryz.f7.params[j]?=some t→args[j]?=some v→Value.okWide Tryz.prog W .any base t v:=hval0
 have hT:SX.Tabs.ok (SX.memF W):=tabs_of hL
 have hW':=hW
 obtain⟨p,q,hA0,hV,rfl,hfz,hnd⟩:=hW
 have hA:DataW.TrodAll enc Tryz.prog W 0 (fun _=>true) true Tryz.f7.params.toList args.toList ds p:=hA0
 rw[Tryz.params7] at hA hval
 clear hA0 hval0
 obtain⟨v0,vs0,d0,ds0,p0,q0,hvs,rfl,rfl,h0,hA0⟩:=trodAll_cons hA
 obtain⟨v1,vs1,d1,ds1,p1,q1,rfl,rfl,rfl,h1,hA1⟩:=trodAll_cons hA0
 obtain⟨v2,vs2,d2,ds2,p2,q2,rfl,rfl,rfl,h2,hA2⟩:=trodAll_cons hA1
 obtain⟨rfl,rfl,rfl⟩:=trodAll_nil hA2
 have hargs:args=#[v0,v1,v2]:=Array.ext' hvs
 subst hargs
 obtain⟨rfl,rfl⟩:=trodVars_none hV
 obtain⟨a,r0,hY⟩:=SX.Rg.openByte (hval 0 5 v0 rfl rfl) h0
 obtain⟨l,r1,hl1,hl2⟩:=SX.Rg.openOpsL (hval 1 22 v1 rfl rfl) h1 (fun n hn=>by
  have hwt:(DataW.weightsEach Tryz.prog ([5,22,32]++[]) ([d0,d1,d2]++[])).all (·≤reachBytes)=true:=hwt
  have:=List.all_eq_true.1 hwt n (List.mem_append_right _ (List.mem_append_left _ hn))
  exact of_decide_eq_true this)
 obtain⟨x,r2,hx⟩:=SX.Rg.openOp (hval 2 32 v2 rfl rfl) h2
 simp only[List.append_nil] at hW'
 have hfn:SX.Fn1 Tryz.prog 7 [SX.Rg.vIu8 a,SX.Rg.vLOp l,SX.Rg.vOp x] (SX.Rg.vB true):=SX.Rg.law32_RegistryRefuses_R rfl a l x true (SX.Rg.refuses_eq hY.1 hY.2 l x hl1 hl2 hx)
 have hcall:=SX.Rg.lawCalls (w:=W) (us:=[v0,v1,v2]) hT hfn (.cons r0 (.cons r1 (.cons r2 .nil)))
 refine hcall.mono fun e W' ⟨he,hb⟩=>?_
 subst he
 exact⟨_,rfl,lawPost rfl hW' (fun t ht=>by
  rw[Tryz.params7] at ht
  simp only[List.mem_cons,List.mem_toArray,List.not_mem_nil,or_false] at ht
  rcases ht with rfl | rfl | rfl<;>exact⟨by kernel_rfl,of_decide_eq_true (by kernel_rfl)⟩) (by kernel_rfl) rfl hb⟩
theorem registryRefuses_holds : Rows.RegistryRefusesSaid :=
 OpenClaim.holds_of_wide 7 Tryz.f7 rfl rfl rfl rfl rfl rfl rfl ⟨rfl,rfl,rfl,rfl,rfl⟩ rfl rfl rfl rfl rfl (by kernel_rfl) Tryz.func7 (by kernel_rfl)
  (of_decide_eq_true (by kernel_rfl)) (by unfold Func.isWrapper;first | (rw[if_pos (by decide +kernel)];kernel_rfl) | (rw[if_neg (by decide +kernel)];exact⟨rfl,rfl⟩))
  (fun os started H enc _=>registryRefusesLifted os started H enc)
theorem registryRefusesCard_holds : Rows.RegistryRefusesCardSaid :=
 Claim7.holds_tied_plain_at .later [] [.data,.data,.data,.data,.data,.pinned] true Rows.registryRefusesCard.stood.harness false
  registryRefuses_holds (fun _ h=>by cases h) (by kernel_rfl) (fun _ h=>by cases h) registryRefuses_row_tie rfl ⟨rfl,rfl⟩ (by kernel_rfl) rfl
  (fun f fn hf hfn=>by
   obtain rfl:f=7:=Option.some.inj ((show Tryz.prog.funcNamed Rows.registryRefusesRow.func=some 7 by kernel_rfl).symm.trans hf) |>.symm
   obtain rfl:fn=Tryz.f7:=(Option.some.inj (Tryz.func7.symm.trans hfn)).symm
   exact⟨by kernel_rfl,fun j t ht=>by
    rw[Tryz.params7] at ht
    have hm:t∈[5,22,32]:=by simpa using Array.mem_of_getElem? ht
    have hall:([5,22,32].all fun u=>!Tryz.prog.wantsStandIn u)=true:=by kernel_rfl
    exact(show Tryz.prog.wantsStandIn t=false by simpa using List.all_eq_true.1 hall t hm)⟩)
  (by kernel_rfl)
#print axioms registryRefusesCard_holds
end Go.Proofs.YtlpempbeenpilaaGreatDoor
