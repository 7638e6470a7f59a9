/- Parts of the proof. -/
import Derived.Test.YtlpempbeenpilaaGreatDoorZRgW
import Derived.Test.YtlpempbeenpilaaGreatDoorZRgQ5
import Derived.Test.YtlpempbeenpilaaGreatDoorZRg3
set_option linter.unusedSimpArgs false
set_option linter.unusedVariables false
set_option linter.unusedSectionVars false
namespace Go.Proofs.YtlpempbeenpilaaGreatDoor
open Go Go.ChangeShapes Go.WideShapes Go.ChangeAt Go.RowKit
set_option maxRecDepth 100000 in
theorem registryMatchesReferenceLifted (os:Os)(started:os.Started)(H:Type)(enc:TypeId×Value→H) :
  ReturnsInHanded {} Tryz.checked os 3 .any (fun w args=>(Rows.registryMatchesReferenceSpec.pre enc Tryz.prog Tryz.f3 [] false w args∧laidMetH Tryz.prog Rows.registryMatchesReferenceRow.laid w)∧sizedMet enc Tryz.prog Tryz.f3 (OpenSpec.ofChange Rows.registryMatchesReferenceSpec) false w args)
   (Rows.registryMatchesReferenceSpec.post enc Tryz.prog Tryz.f3 false true false false):=by
 refine returnsInHanded_of_change_and (C:=Tryz.checked) (X:=fun w _=>laidMetH Tryz.prog Rows.registryMatchesReferenceRow.laid w) (fun _ _ _ hh h=>h.of_heap hh) SX.Rg.ownN started (by kernel_rfl) Tryz.func3
  (ChangeSpec.witness_shaped (enc:=enc) (C:=Tryz.checked) (os:=os) (X:=fun w _=>laidMetH Tryz.prog Rows.registryMatchesReferenceRow.laid w) false (laidW os) #[.int .i64 0,.int .i64 0,.slice none 0 0] 8 (World.laidAll_os _ _ _) (door_shaped os) (by kernel_rfl) (by kernel_rfl) (by kernel_rfl) (door_met os _)) ?_
 intro W base args ds gs before hval0 hW _ _ hL _;have hval:∀ (j:Nat) t v,Tryz.f3.params[j]?=some t→args[j]?=some v→Value.okWide Tryz.prog W .any base t v:=hval0;have hT:SX.Tabs.ok (SX.memF W):=tabs_of hL;have hW':=hW;obtain⟨p,q,hA0,hV,rfl,hfz,hnd⟩:=hW;have hA:DataW.TrodAll enc Tryz.prog W 0 (fun _=>true) true Tryz.f3.params.toList args.toList ds p:=hA0;rw[Tryz.params3] at hA hval;clear hA0 hval0;obtain⟨v0,vs0,d0,ds0,p0,q0,hvs,rfl,rfl,h0,hA0⟩:=trodAll_cons hA;obtain⟨v1,vs1,d1,ds1,p1,q1,rfl,rfl,rfl,h1,hA1⟩:=trodAll_cons hA0;obtain⟨v2,vs2,d2,ds2,p2,q2,rfl,rfl,rfl,h2,hA2⟩:=trodAll_cons hA1;obtain⟨rfl,rfl,rfl⟩:=trodAll_nil hA2;have hargs:args=#[v0,v1,v2]:=Array.ext' hvs;subst hargs;obtain⟨rfl,rfl⟩:=trodVars_none hV;obtain⟨n,r0⟩:=SX.Rg.openInt (hval 0 3 v0 rfl rfl) h0;obtain⟨m,r1⟩:=SX.Rg.openInt (hval 1 3 v1 rfl rfl) h1;obtain⟨l,r2,hl1,hl2⟩:=SX.Rg.openOps (hval 2 22 v2 rfl rfl) h2;simp only[List.append_nil] at hW';have hfn:SX.Fn1 Tryz.prog 3 [SX.Rg.vIi64 n,SX.Rg.vIi64 m,SX.Rg.vLOp l] (SX.Rg.vB true):=SX.Rg.law32_RegistryMatchesReference_R rfl n m l true (SX.Rg.matches_eq n m l hl1 hl2);have hcall:=SX.Rg.lawCalls (w:=W) (us:=[v0,v1,v2]) hT hfn (.cons r0 (.cons r1 (.cons r2 .nil)));refine hcall.mono fun e W' ⟨he,hb⟩=>?_
 subst he;exact⟨_,rfl,lawPost rfl hW' (fun t ht=>by
  rw[Tryz.params3] at ht;simp only[List.mem_cons,List.mem_toArray,List.not_mem_nil,or_false] at ht;rcases ht with rfl | rfl | rfl<;>exact⟨by kernel_rfl,of_decide_eq_true (by kernel_rfl)⟩) (by kernel_rfl) rfl hb⟩
theorem registryMatchesReference_holds : Rows.RegistryMatchesReferenceSaid :=
 OpenClaim.holds_of_wide 3 Tryz.f3 rfl rfl rfl rfl rfl rfl rfl ⟨rfl,rfl,rfl,rfl,rfl⟩ rfl rfl rfl rfl rfl (by kernel_rfl) Tryz.func3 (by kernel_rfl)
  (of_decide_eq_true (by kernel_rfl)) (by unfold Func.isWrapper;first | (rw[if_pos (by decide +kernel)];kernel_rfl) | (rw[if_neg (by decide +kernel)];exact⟨rfl,rfl⟩))
  (fun os started H enc _=>registryMatchesReferenceLifted os started H enc)
theorem registryMatchesReferenceCard_holds : Rows.RegistryMatchesReferenceCardSaid :=
 Claim7.holds_tied_plain_at .later [] [.data,.data,.data,.data,.data,.pinned] true Rows.registryMatchesReferenceCard.stood.harness false
  registryMatchesReference_holds (fun _ h=>by cases h) (by kernel_rfl) (fun _ h=>by cases h) registryMatchesReference_row_tie rfl ⟨rfl,rfl⟩ (by kernel_rfl) rfl
  (fun f fn hf hfn=>by
   obtain rfl:f=3:=Option.some.inj ((show Tryz.prog.funcNamed Rows.registryMatchesReferenceRow.func=some 3 by kernel_rfl).symm.trans hf) |>.symm
   obtain rfl:fn=Tryz.f3:=(Option.some.inj (Tryz.func3.symm.trans hfn)).symm;exact⟨by kernel_rfl,fun j t ht=>by
    rw[Tryz.params3] at ht;have hm:t∈[3,3,22]:=by simpa using Array.mem_of_getElem? ht
    have hall:([3,3,22].all fun u=>!Tryz.prog.wantsStandIn u)=true:=by kernel_rfl
    exact(show Tryz.prog.wantsStandIn t=false by simpa using List.all_eq_true.1 hall t hm)⟩)
  (by kernel_rfl)
#print axioms registryMatchesReferenceCard_holds
end Go.Proofs.YtlpempbeenpilaaGreatDoor
