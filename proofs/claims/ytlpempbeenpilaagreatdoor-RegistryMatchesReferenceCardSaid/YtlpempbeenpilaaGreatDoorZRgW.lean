/- Parts of the proof. -/
import Derived.Test.YtlpempbeenpilaaGreatDoorZSyO
import Derived.Test.YtlpempbeenpilaaGreatDoorZRgT
import Derived.Test.YtlpempbeenpilaaGreatDoorZRgQ5
import Derived.Test.YtlpempbeenpilaaGreatDoorTie
import Derived.Test.YtlpempbeenpilaaGreatDoorCards
import Derived.ProofKit
import Derived.LaidMore
import Derived.Lay
import Derived.OpenShut
import Derived.Stop.Joined
set_option linter.unusedSimpArgs false
set_option linter.unusedVariables false
set_option linter.unusedSectionVars false
namespace Go.SX.Rg
open Go Go.SX Go.Proofs Go.ChangeShapes Go.WideShapes Go.ChangeAt Go.RowKit
set_option maxRecDepth 1000000
theorem laidOut : laidOutB Tryz.prog=true:=by kernel_rfl
theorem ownN : ownKnob Tryz.prog.godebug=none:=by kernel_rfl
theorem inK_i64 {x:Int}(h:InK .i64 x):-9223372036854775808≤x∧x≤9223372036854775807:=by
 simp only[InK,Lit.wf,Bool.and_eq_true,decide_eq_true_eq] at h
 simpa [IntKind.min,IntKind.max,IntKind.signed,IntKind.bits] using h
theorem oI : Opens Tryz.prog 3 1 eIi64 (InK .i64):=Opens.int Tryz.underlying3
theorem oS : Opens Tryz.prog 9 1 eS (fun x=>x.size≤maxLen):=Opens.str Tryz.underlying9
theorem oStrs : Opens Tryz.prog 29 1 eLS (fun l=>∀ x∈l,x.size≤maxLen):=Opens.slice Tryz.underlying29 (by kernel_rfl) (by omega) oS
theorem oOp : Opens Tryz.prog 32 5 eOp OpIn :=
 ⟨fun _=>rfl,fun hx=>by
  obtain⟨k,_,r0⟩:=field_open Tryz.underlying32 hx 0 _ rfl oI;obtain⟨s,hs,r1⟩:=field_open Tryz.underlying32 hx 1 _ rfl oI;obtain⟨a,ha,r2⟩:=field_open Tryz.underlying32 hx 2 _ rfl oI;obtain⟨y,_,r3⟩:=field_open Tryz.underlying32 hx 3 _ rfl oS;obtain⟨g,_,r4⟩:=field_open Tryz.underlying32 hx 4 _ rfl oStrs;exact⟨⟨k,s,a,y,g⟩,⟨(inK_i64 ha).1,(inK_i64 ha).2,(inK_i64 hs).2⟩,Reads.append (a:=eIi64 k) (b:=eIi64 s++(eIi64 a++(eS y++eLS g))) r0 (Reads.append (a:=eIi64 s) (b:=eIi64 a++(eS y++eLS g)) r1 (Reads.append (a:=eIi64 a) (b:=eS y++eLS g) r2 (Reads.append (a:=eS y) (b:=eLS g) r3 r4)))⟩⟩
theorem oOps : Opens Tryz.prog 22 1 (fun l:List Op=>[.sl (W eOp l)]) (fun l=>l.length≤maxLen∧∀ x∈l,OpIn x):=Opens.sliceL Tryz.underlying22 (by kernel_rfl) (by omega) oOp
section
variable {H:Type}{enc:TypeId×Value→H}{w:World}{ps:List MemPlace}{d:DataW H}{b0:Nat}{v:Value}
theorem openInt (hv:Value.okWide Tryz.prog w .any b0 3 v)(h:DataW.Trod enc Tryz.prog w 0 (fun _=>true) true 3 v d ps):∃ n:Int,Rel (cx0 w) (vIi64 n) v:=by
 obtain⟨n,rfl⟩:=okWide_int Tryz.underlying3 hv;obtain⟨fuel,h⟩:=h;obtain⟨m,hm,hr⟩:=oI.op h;exact⟨m,rel_cell hr⟩
theorem openOps (hv:Value.okWide Tryz.prog w .any b0 22 v)(h:DataW.Trod enc Tryz.prog w 0 (fun _=>true) true 22 v d ps):∃ l:List Op,Rel (cx0 w) (vLOp l) v∧l.length≤maxLen∧∀ x∈l,OpIn x:=by
 obtain⟨a,len,cap,rfl⟩:=okWide_slice Tryz.underlying22 hv;obtain⟨fuel,h⟩:=h;obtain⟨l,hl,hr⟩:=oOps.op h;exact⟨l,rel_cell hr,hl⟩
end
theorem lawCalls {f:FuncId}{args:List SV}{us:List Value}{w:World}(ht:Tabs.ok (memF w))(h:Fn1 Tryz.prog f args (vB true))(hr:RelL (cx0 w) args us) :
  Calls Tryz.prog f us.toArray w fun e w'=>e=.returned (.bool true)∧Below w.heap.size w w':=by
 refine(h.2 (cx0 w) w us (sat0 ht) hr).mono ?_;rintro e w' ⟨c',own',sv,u,rfl,h1,_,_,h5,rfl⟩;obtain rfl:=h1.of_val;exact⟨rfl,h5.os,h5.tape,h5.output,h5.size,fun b hb=>h5.keep b hb (fun ⟨r,x,hx,_⟩=>by simp at hx)⟩
end Go.SX.Rg
namespace Go.Proofs.YtlpempbeenpilaaGreatDoor
open Go Go.ChangeShapes Go.WideShapes Go.ChangeAt Go.RowKit
set_option maxRecDepth 1000000
noncomputable abbrev laidW (os:Os):World:=World.laidAll Tryz.prog os Rows.registryOnesRow.laid
theorem door_met (os:Os)(args:Array Value):laidMetH Tryz.prog Rows.registryOnesRow.laid ((laidW os).forCall (fun _ _=>0) ⟨#[],args,[]⟩).memory:=by
 rw[MakeChecks.laidMetH_plain _ _ _ (by kernel_rfl)];exact laidMet_laidAll _ (by kernel_rfl) (by kernel_rfl)
theorem door_shaped (os:Os):(laidW os).Shaped Tryz.prog:=World.shaped_of_ZipB (by kernel_rfl) (by kernel_rfl)
theorem gTab : (Tryz.prog.globals[1]?).map (·.type)=some 187:=by kernel_rfl
theorem gTab2 : (Tryz.prog.globals[0]?).map (·.type)=some 140:=by kernel_rfl
theorem block_of {W:World}{n:String}{g:Nat}{cs cs2:Array Value}(hg:Tryz.prog.globalNamed n=some g)(hv:W.var? Tryz.prog n=some cs)(hc:cs=cs2):∃ ty fr,SX.memF W g=some (.cells cs2 ty fr):=by
 simp only[World.var?,hg,Option.bind_some] at hv;split at hv
 ·rename_i c ty fr e;obtain rfl:=Option.some.inj hv;refine⟨ty,fr,?_⟩;show W.heap[g]?=_;rw[e,← hc]
 ·cases hv
theorem tabs_of {W:World}(h:laidMetH Tryz.prog Rows.registryOnesRow.laid W):SX.Tabs.ok (SX.memF W):=by
 rw[MakeChecks.laidMetH_plain _ _ _ (by kernel_rfl)] at h;obtain⟨ps,⟨g0,t0,cs0,f0,p0,q0,_,_,_,_,⟨g1,t1,cs1,f1,p1,q1,_,_,_,_,⟨g2,t2,cs2,f2,p2,q2,hg2,ht2,hv2,hd2,⟨g3,t3,cs3,f3,p3,q3,_,_,_,_,⟨g4,t4,cs4,f4,p4,q4,hg4,ht4,hv4,hd4,_,_⟩,_⟩,_⟩,_⟩,_⟩,_,_⟩:=h;obtain rfl:=Option.some.inj (SX.Rg.gPow_eq.symm.trans hg2);obtain rfl:=Option.some.inj (gTab.symm.trans ht2);obtain rfl:=Option.some.inj (SX.Rg.gHex_eq.symm.trans hg4);obtain rfl:=Option.some.inj (gTab2.symm.trans ht4);have hc:=Lib.cells_of_tab (k:=.u64) (zs:=Lib.pow10Tab) Tryz.underlying187 Tryz.underlying107 (by kernel_rfl) (by kernel_rfl) hd2;have hc2:=Lib.cells_of_tab (k:=.u8) (zs:=SX.Rg.hexTab) Tryz.underlying140 Tryz.underlying5 (by kernel_rfl) (by kernel_rfl) hd4;exact⟨block_of SX.Rg.gPow_eq hv2 (by rw[← hc]),block_of SX.Rg.gHex_eq hv4 (by rw[← hc2])⟩
section
variable {H:Type}{enc:TypeId×Value→H}{W W':World}
theorem allStay {sp:Nat→Bool}:∀ {ts:List TypeId}{vs:List Value}{ds:List (DataW H)}{ps:List MemPlace},(∀ t∈ts,Tryz.prog.readableRec t=true∧t<Tryz.prog.types.size) →
  DataW.TrodAll enc Tryz.prog W 0 (fun _=>true) true ts vs ds ps→(∀ x∈ps,W.sameAt W' x)→(∀ x∈ps,sp x.block=true)→DataW.TrodAll enc Tryz.prog W' 0 sp true ts vs ds ps
 | [],vs,ds,ps,_,h,_,_=>by
  obtain⟨rfl,rfl,rfl⟩:=trodAll_nil h;exact rfl
 | t::ts,vs,ds,ps,ht,h,hs,hp=>by
  obtain⟨v,vs',d,ds',p,q,rfl,rfl,rfl,h1,h2⟩:=trodAll_cons h;obtain⟨k1,k2⟩:=ht t (by simp);exact⟨p,q,WideElems.Trod_stays SX.Rg.laidOut k1 k2 h1 (fun x hx=>hs x (List.mem_append_left _ hx)) (fun x hx=>hp x (List.mem_append_left _ hx)),
   allStay (fun t' ht'=>ht t' (by simp[ht'])) h2 (fun x hx=>hs x (List.mem_append_right _ hx)) (fun x hx=>hp x (List.mem_append_right _ hx)),rfl⟩
theorem lawPost {f:Func}{s:ChangeSpec}{args:Array Value}{ds:List (DataW H)}{ps:List MemPlace}(hvars:s.vars=[])(hW:DataW.Whole enc Tryz.prog f.params.toList s.vars false W args.toList ds [] ps)
  (hts:∀ t∈f.params.toList,Tryz.prog.readableRec t=true∧t<Tryz.prog.types.size) (hres:f.resultTypes=#[4]) (hfn:s.fn H (ds++[])={ results:=[.lit (.bool true)],args:=ds }) (hb:Below W.heap.size W W') :
  s.post enc Tryz.prog f false true false false W args (.bool true) W':=by
 have hlt:∀ x∈ps,x.block<W.heap.size:=fun x hx=>hW.lt x hx
 have hW0:=hW;obtain⟨p,q,hA,hV,rfl,hz,hn⟩:=hW0;rw[hvars] at hV;obtain⟨_,rfl⟩:=trodVars_none hV;simp only[List.append_nil] at hW hlt hz;have stay:∀ sp:Nat→Bool,(∀ x∈p,sp x.block=true)→DataW.TrodAll enc Tryz.prog W' 0 sp true f.params.toList args.toList ds p:=fun sp hsp=>allStay hts hA (fun x hx=>hb.same (hlt x hx)) hsp
 have res:∀ (b:Nat)(sp:Nat→Bool)(hd:Bool),DataW.TrodAll enc Tryz.prog W' b sp hd f.resultTypes.toList ((Value.bool true).resultList f.resultTypes.size) [.lit (.bool true)] []:=fun b sp hd=>by
  rw[hres];exact trodAll_mk1 (shut_bool Tryz.underlying4 _)
 have vars:∀ sp:Nat→Bool,DataW.TrodVars enc Tryz.prog W' sp s.vars (s.fn H (ds++[])).vars []:=fun sp=>by rw[hvars,hfn];rfl
 refine⟨ds,[],p,[],p,[],hW,by rw[hfn];exact res _ _ _,by rw[hfn];exact stay _ (fun x hx=>by simpa using hlt x hx),vars _,hb.frame _,fun _=>⟨?_,_,_,([]++p)++[],⟨[]++p,[],trodAll_append (stay _ fun _ _=>rfl) (res _ _ _),vars _,rfl,?_,fun h=>by cases h⟩,fun x hx _=>by simpa using hx⟩⟩
 ·rw[hres];exact ok_one (f:={ f with resultTypes:=#[4] }) rfl rfl (okWide_bool_mk Tryz.underlying4 _)
 ·intro b off hx;have hx':MemPlace.cell b off∈p:=by simpa using hx
  rw[hb.frozen (p:=⟨b,off,none⟩) (hlt _ hx')];exact hz b off hx'
end
end Go.Proofs.YtlpempbeenpilaaGreatDoor
