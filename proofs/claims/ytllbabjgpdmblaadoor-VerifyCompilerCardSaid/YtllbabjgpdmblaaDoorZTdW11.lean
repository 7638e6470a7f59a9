/- Parts of the proof. -/
import Derived.Test.YtllbabjgpdmblaaDoorZTdWt
import Derived.Test.YtllbabjgpdmblaaDoorZTdFew
import Derived.Test.YtllbabjgpdmblaaDoorZTd25
set_option linter.unusedSimpArgs false
set_option linter.unusedVariables false
set_option linter.unusedSectionVars false
namespace Go.Proofs.YtllbabjgpdmblaaDoor
open Go Go.ChangeShapes Go.WideShapes Go.ChangeAt Go.RowKit
set_option maxRecDepth 100000 in
theorem xd0 (os:Os)(started:os.Started)(H:Type)(enc:TypeId×Value→H) :
  ReturnsInHanded {} Tryd.checked os 11 .any (fun w args=>(Rows.verifyCompilerSpec.pre enc Tryd.prog Tryd.f11 [] false w args∧laidMetH Tryd.prog Rows.verifyCompilerRow.laid w)∧sizedMet enc Tryd.prog Tryd.f11 (OpenSpec.ofChange Rows.verifyCompilerSpec) false w args)
   (Rows.verifyCompilerSpec.post enc Tryd.prog Tryd.f11 false true false false):=by
 refine returnsInHanded_of_change_and (C:=Tryd.checked) (X:=fun w _=>laidMetH Tryd.prog Rows.verifyCompilerRow.laid w) (fun _ _ _ hh h=>h.of_heap hh) SX.Td.ownN started (by kernel_rfl) Tryd.func11
  (ChangeSpec.witness_shaped (enc:=enc) (C:=Tryd.checked) (os:=os) (X:=fun w _=>laidMetH Tryd.prog Rows.verifyCompilerRow.laid w) false (World.doorLaid Tryd.prog 24 os) #[.agg #[.slice none 0 0],.agg #[.slice none 0 0,.slice none 0 0]] 8 rfl (World.shaped_of_RefB (by kernel_rfl) (by kernel_rfl)) (by kernel_rfl) (by kernel_rfl) (by kernel_rfl) (door_met os _)) ?_
 intro W base args ds gs before hval0 hW _ _ hL _
 have hval:∀ (j:Nat) t v,Tryd.f11.params[j]?=some t→args[j]?=some v→Value.okWide Tryd.prog W .any base t v:=hval0
 have hT:SX.Tabs.ok (SX.memF W):=tabs_of hL
 have hW':=hW
 obtain⟨p,q,hA0,hV,rfl,hfz,hnd⟩:=hW
 have hA:DataW.TrodAll enc Tryd.prog W 0 (fun _=>true) true Tryd.f11.params.toList args.toList ds p:=hA0
 rw[Tryd.params11] at hA hval
 clear hA0 hval0
 obtain⟨v0,vs0,d0,ds0,p0,q0,hvs,rfl,rfl,h0,hA0⟩:=trodAll_cons hA
 obtain⟨v1,vs1,d1,ds1,p1,q1,rfl,rfl,rfl,h1,hA1⟩:=trodAll_cons hA0
 obtain⟨rfl,rfl,rfl⟩:=trodAll_nil hA1
 have hargs:args=#[v0,v1]:=Array.ext' hvs
 subst hargs
 obtain⟨rfl,rfl⟩:=trodVars_none hV
 obtain⟨p,r0,hP⟩:=SX.Td.openPolicy (hval 0 24 v0 rfl rfl) h0
 obtain⟨T,r1,hTb⟩:=SX.Td.openTable (hval 1 28 v1 rfl rfl) h1
 simp only[List.append_nil] at hW'
 have hfn:SX.Fn1 Tryd.prog 11 [SX.Td.vPolicy p,SX.Td.vTable T] (SX.Td.vB true):=SX.Td.vw0 rfl p T true (SX.Td.dz0 hP hTb)
 have hcall:=SX.Td.lawCalls (w:=W) (us:=[v0,v1]) hT hfn (.cons r0 (.cons r1 .nil))
 refine hcall.mono fun e W' ⟨he,hb⟩=>?_
 subst he
 exact⟨_,rfl,lawPost rfl hW' (fun t ht=>by
  rw[Tryd.params11] at ht
  simp only[List.mem_cons,List.mem_toArray,List.not_mem_nil,or_false] at ht
  rcases ht with rfl | rfl<;>exact⟨by kernel_rfl,of_decide_eq_true (by kernel_rfl)⟩) (by kernel_rfl) rfl hb⟩
theorem verifyCompiler_holds : Rows.VerifyCompilerSaid :=
 OpenClaim.holds_of_wide 11 Tryd.f11 rfl rfl rfl rfl rfl rfl rfl ⟨rfl,rfl,rfl,rfl,rfl⟩ rfl rfl rfl rfl rfl (by kernel_rfl) Tryd.func11 (by kernel_rfl)
  (of_decide_eq_true (by kernel_rfl)) (by unfold Func.isWrapper;first | (rw[if_pos (by decide +kernel)];kernel_rfl) | (rw[if_neg (by decide +kernel)];exact⟨rfl,rfl⟩))
  (fun os started H enc _=>xd0 os started H enc)
theorem verifyCompilerCard_holds : Rows.VerifyCompilerCardSaid :=
 Claim7.holds_tied_plain_at .later [] [.data,.data,.data] true Rows.verifyCompilerCard.stood.harness false
  verifyCompiler_holds (fun _ h=>by cases h) (by kernel_rfl) (fun _ h=>by cases h) verifyCompiler_row_tie rfl ⟨rfl,rfl⟩ (by kernel_rfl) rfl
  (fun f fn hf hfn=>by
   obtain rfl:f=11:=Option.some.inj ((show Tryd.prog.funcNamed Rows.verifyCompilerRow.func=some 11 by kernel_rfl).symm.trans hf) |>.symm
   obtain rfl:fn=Tryd.f11:=(Option.some.inj (Tryd.func11.symm.trans hfn)).symm
   exact⟨by kernel_rfl,fun j t ht=>by
    rw[Tryd.params11] at ht
    have hm:t∈[24,28]:=by simpa using Array.mem_of_getElem? ht
    have hall:([24,28].all fun u=>!Tryd.prog.wantsStandIn u)=true:=by kernel_rfl
    exact(show Tryd.prog.wantsStandIn t=false by simpa using List.all_eq_true.1 hall t hm)⟩)
  (by kernel_rfl)
#print axioms verifyCompilerCard_holds
end Go.Proofs.YtllbabjgpdmblaaDoor
