/- Parts of the proof. -/
import Derived.Test.YtllbabjgpdmblaaDoorZTdW
import Derived.Test.YtllbabjgpdmblaaDoorZTdV10
import Derived.Test.YtllbabjgpdmblaaDoorZTd12d
set_option linter.unusedSimpArgs false
set_option linter.unusedVariables false
set_option linter.unusedSectionVars false
namespace Go.Proofs.YtllbabjgpdmblaaDoor
open Go Go.ChangeShapes Go.WideShapes Go.ChangeAt Go.RowKit
set_option maxRecDepth 100000 in
theorem ux0 (os:Os)(started:os.Started)(H:Type)(enc:TypeId×Value→H) :
  ReturnsInHanded {} Tryd.checked os 12 .any (fun w args=>(Rows.verifyChangesSpec.pre enc Tryd.prog Tryd.f12 [] false w args∧laidMetH Tryd.prog Rows.verifyChangesRow.laid w)∧sizedMet enc Tryd.prog Tryd.f12 (OpenSpec.ofChange Rows.verifyChangesSpec) false w args)
   (Rows.verifyChangesSpec.post enc Tryd.prog Tryd.f12 false true false false):=by
 refine returnsInHanded_of_change_and (C:=Tryd.checked) (X:=fun w _=>laidMetH Tryd.prog Rows.verifyChangesRow.laid w) (fun _ _ _ hh h=>h.of_heap hh) SX.Td.ownN started (by kernel_rfl) Tryd.func12
  (ChangeSpec.witness_shaped (enc:=enc) (C:=Tryd.checked) (os:=os) (X:=fun w _=>laidMetH Tryd.prog Rows.verifyChangesRow.laid w) false (World.doorLaid Tryd.prog 24 os) #[.agg #[.slice none 0 0],.int .u8 0,.agg #[.int .i64 0,.int .i64 0,.int .i64 0,.int .i64 0,.int .i64 0,.int .i64 0,.int .i64 0,.int .i64 0,.int .i64 0,.int .i64 0]] 8 rfl (World.shaped_of_RefB (by kernel_rfl) (by kernel_rfl)) (by kernel_rfl) (by kernel_rfl) (by kernel_rfl) (door_met os _)) ?_
 intro W base args ds gs before hval0 hW _ _ hL _
 have hval:∀ (j:Nat) t v,Tryd.f12.params[j]?=some t→args[j]?=some v→Value.okWide Tryd.prog W .any base t v:=hval0
 have hT:SX.Tabs.ok (SX.memF W):=tabs_of hL
 have hW':=hW
 obtain⟨p,q,hA0,hV,rfl,hfz,hnd⟩:=hW
 have hA:DataW.TrodAll enc Tryd.prog W 0 (fun _=>true) true Tryd.f12.params.toList args.toList ds p:=hA0
 rw[Tryd.params12] at hA hval
 clear hA0 hval0
 obtain⟨v0,vs0,d0,ds0,p0,q0,hvs,rfl,rfl,h0,hA0⟩:=trodAll_cons hA
 obtain⟨v1,vs1,d1,ds1,p1,q1,rfl,rfl,rfl,h1,hA1⟩:=trodAll_cons hA0
 obtain⟨v2,vs2,d2,ds2,p2,q2,rfl,rfl,rfl,h2,hA2⟩:=trodAll_cons hA1
 obtain⟨rfl,rfl,rfl⟩:=trodAll_nil hA2
 have hargs:args=#[v0,v1,v2]:=Array.ext' hvs
 subst hargs
 obtain⟨rfl,rfl⟩:=trodVars_none hV
 obtain⟨p,r0,hP⟩:=SX.Td.openPolicy (hval 0 24 v0 rfl rfl) h0
 obtain⟨a,r1,hY⟩:=SX.Td.openByte (hval 1 5 v1 rfl rfl) h1
 obtain⟨f,r2⟩:=SX.Td.openFacts (hval 2 38 v2 rfl rfl) h2
 simp only[List.append_nil] at hW'
 have hfn:SX.Fn1 Tryd.prog 12 [SX.Td.vPolicy p,SX.Td.vIu8 a,SX.Td.vA10Ii64 f] (SX.Td.vB true):=SX.Td.vn0 rfl p a f true (SX.Td.di0 hP hY f)
 have hcall:=SX.Td.lawCalls (w:=W) (us:=[v0,v1,v2]) hT hfn (.cons r0 (.cons r1 (.cons r2 .nil)))
 refine hcall.mono fun e W' ⟨he,hb⟩=>?_
 subst he
 exact⟨_,rfl,lawPost rfl hW' (fun t ht=>by
  rw[Tryd.params12] at ht
  simp only[List.mem_cons,List.mem_toArray,List.not_mem_nil,or_false] at ht
  rcases ht with rfl | rfl | rfl<;>exact⟨by kernel_rfl,of_decide_eq_true (by kernel_rfl)⟩) (by kernel_rfl) rfl hb⟩
theorem verifyChanges_holds : Rows.VerifyChangesSaid :=
 OpenClaim.holds_of_wide 12 Tryd.f12 rfl rfl rfl rfl rfl rfl rfl ⟨rfl,rfl,rfl,rfl,rfl⟩ rfl rfl rfl rfl rfl (by kernel_rfl) Tryd.func12 (by kernel_rfl)
  (of_decide_eq_true (by kernel_rfl)) (by unfold Func.isWrapper;first | (rw[if_pos (by decide +kernel)];kernel_rfl) | (rw[if_neg (by decide +kernel)];exact⟨rfl,rfl⟩))
  (fun os started H enc _=>ux0 os started H enc)
theorem verifyChangesCard_holds : Rows.VerifyChangesCardSaid :=
 Claim7.holds_tied_plain_at .later [] [.data,.data,.data] true Rows.verifyChangesCard.stood.harness false
  verifyChanges_holds (fun _ h=>by cases h) (by kernel_rfl) (fun _ h=>by cases h) verifyChanges_row_tie rfl ⟨rfl,rfl⟩ (by kernel_rfl) rfl
  (fun f fn hf hfn=>by
   obtain rfl:f=12:=Option.some.inj ((show Tryd.prog.funcNamed Rows.verifyChangesRow.func=some 12 by kernel_rfl).symm.trans hf) |>.symm
   obtain rfl:fn=Tryd.f12:=(Option.some.inj (Tryd.func12.symm.trans hfn)).symm
   exact⟨by kernel_rfl,fun j t ht=>by
    rw[Tryd.params12] at ht
    have hm:t∈[24,5,38]:=by simpa using Array.mem_of_getElem? ht
    have hall:([24,5,38].all fun u=>!Tryd.prog.wantsStandIn u)=true:=by kernel_rfl
    exact(show Tryd.prog.wantsStandIn t=false by simpa using List.all_eq_true.1 hall t hm)⟩)
  (by kernel_rfl)
#print axioms verifyChangesCard_holds
end Go.Proofs.YtllbabjgpdmblaaDoor
