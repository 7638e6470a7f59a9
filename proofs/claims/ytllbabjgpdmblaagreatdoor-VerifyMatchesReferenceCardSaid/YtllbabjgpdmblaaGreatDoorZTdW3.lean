/- Parts of the proof. -/
import Derived.Test.YtllbabjgpdmblaaGreatDoorZTdWt
import Derived.Test.YtllbabjgpdmblaaGreatDoorZTzQ4
import Derived.Test.YtllbabjgpdmblaaGreatDoorZTz13
set_option linter.unusedSimpArgs false
set_option linter.unusedVariables false
set_option linter.unusedSectionVars false
namespace Go.Proofs.YtllbabjgpdmblaaGreatDoor
open Go Go.ChangeShapes Go.WideShapes Go.ChangeAt Go.RowKit
set_option maxRecDepth 100000 in
theorem uc0 (os:Os)(started:os.Started)(H:Type)(enc:TypeId×Value->H) :
  ReturnsInHanded {} Tryz.checked os 3 .any (fun w args=>(Rows.verifyMatchesReferenceSpec.pre enc Tryz.prog Tryz.f3 [] false w args/\laidMetH Tryz.prog Rows.verifyMatchesReferenceRow.laid w)/\sizedMet enc Tryz.prog Tryz.f3 (OpenSpec.ofChange Rows.verifyMatchesReferenceSpec) false w args)
   (Rows.verifyMatchesReferenceSpec.post enc Tryz.prog Tryz.f3 false true false false):=by
 refine returnsInHanded_of_change_and (C:=Tryz.checked) (X:=fun w _=>laidMetH Tryz.prog Rows.verifyMatchesReferenceRow.laid w) (fun _ _ _ hh h=>h.of_heap hh) SX.Td.ownN started (by kernel_rfl) Tryz.func3
  (ChangeSpec.witness_shaped (enc:=enc) (C:=Tryz.checked) (os:=os) (X:=fun w _=>laidMetH Tryz.prog Rows.verifyMatchesReferenceRow.laid w) false (World.doorLaid Tryz.prog 24 os) #[.agg #[.slice none 0 0],.agg #[.slice none 0 0,.slice none 0 0]] 8 rfl (World.shaped_of_RefB (by kernel_rfl) (by kernel_rfl)) (by kernel_rfl) (by kernel_rfl) (by kernel_rfl) (door_met os _)) ?_
 intro W base args ds gs before hval0 hW _ _ hL _;have hval:∀ (j:Nat) t v,Tryz.f3.params[j]?=some t->args[j]?=some v->Value.okWide Tryz.prog W .any base t v:=hval0;have hT:SX.Tabs.ok (SX.GV W):=jg2 hL;have hW':=hW;obtain⟨p,q,hA0,hV,rfl,hfz,hnd⟩:=hW;have hA:DataW.TrodAll enc Tryz.prog W 0 (fun _=>true) true Tryz.f3.params.toList args.toList ds p:=hA0;rw[Tryz.params3] at hA hval;clear hA0 hval0;obtain⟨v0,vs0,d0,ds0,p0,q0,hvs,rfl,rfl,h0,hA0⟩:=trodAll_cons hA;obtain⟨v1,vs1,d1,ds1,p1,q1,rfl,rfl,rfl,h1,hA1⟩:=trodAll_cons hA0;obtain⟨rfl,rfl,rfl⟩:=trodAll_nil hA1;have hargs:args=#[v0,v1]:=Array.ext' hvs;subst hargs;obtain⟨rfl,rfl⟩:=trodVars_none hV;obtain⟨p,r0,hP⟩:=SX.Td.ai1 (hval 0 24 v0 rfl rfl) h0;obtain⟨T,r1,hTb⟩:=SX.Td.bv1 (hval 1 28 v1 rfl rfl) h1;simp only[List.append_nil] at hW';have hfn:SX.Fn1 Tryz.prog 3 [SX.Td.BA p,SX.Td.BR T] (SX.Td.vB true):=SX.Td.uw0 rfl p T true (SX.Td.bk0 hP hTb);have hcall:=SX.Td.oa1 (w:=W) (us:=[v0,v1]) hT hfn (.cons r0 (.cons r1 .nil));refine hcall.mono fun e W' ⟨he,hb⟩=>?_
 subst he;exact⟨_,rfl,ky2 rfl hW' (fun t ht=>by
  rw[Tryz.params3] at ht;simp only[List.mem_cons,List.mem_toArray,List.not_mem_nil,or_false] at ht;rcases ht with rfl|rfl<;>exact⟨by kernel_rfl,of_decide_eq_true (by kernel_rfl)⟩) (by kernel_rfl) rfl hb⟩
theorem verifyMatchesReference_holds : Rows.VerifyMatchesReferenceSaid :=
 OpenClaim.holds_of_wide 3 Tryz.f3 rfl rfl rfl rfl rfl rfl rfl ⟨rfl,rfl,rfl,rfl,rfl⟩ rfl rfl rfl rfl rfl (by kernel_rfl) Tryz.func3 (by kernel_rfl)
  (of_decide_eq_true (by kernel_rfl)) (by unfold Func.isWrapper;first|(rw[if_pos (by decide +kernel)];kernel_rfl)|(rw[if_neg (by decide +kernel)];exact⟨rfl,rfl⟩))
  (fun os started H enc _=>uc0 os started H enc)
theorem verifyMatchesReferenceCard_holds : Rows.VerifyMatchesReferenceCardSaid :=
 Claim7.holds_tied_plain_at .later [] [.data,.data,.data] true Rows.verifyMatchesReferenceCard.stood.harness false
  verifyMatchesReference_holds (fun _ h=>by cases h) (by kernel_rfl) (fun _ h=>by cases h) verifyMatchesReference_row_tie rfl ⟨rfl,rfl⟩ (by kernel_rfl) rfl
  (fun f fn hf hfn=>by
   obtain rfl:f=3:=Option.some.inj ((show Tryz.prog.funcNamed Rows.verifyMatchesReferenceRow.func=some 3 by kernel_rfl).symm.trans hf) |>.symm
   obtain rfl:fn=Tryz.f3:=(Option.some.inj (Tryz.func3.symm.trans hfn)).symm;exact⟨by kernel_rfl,fun j t ht=>by
    rw[Tryz.params3] at ht;have hm:t∈[24,28]:=by simpa using Array.mem_of_getElem? ht
    have hall:([24,28].all fun u=>!Tryz.prog.wantsStandIn u)=true:=by kernel_rfl
    exact(show Tryz.prog.wantsStandIn t=false by simpa using List.all_eq_true.1 hall t hm)⟩)
  (by kernel_rfl)
#print axioms verifyMatchesReferenceCard_holds
end Go.Proofs.YtllbabjgpdmblaaGreatDoor
