/- Parts of the proof. -/
import Derived.Test.YtllbabjgpdmblaaDoorZSyO
import Derived.Test.YtllbabjgpdmblaaDoorZTdT
import Derived.Test.YtllbabjgpdmblaaDoorTie
import Derived.Test.YtllbabjgpdmblaaDoorCards
import Derived.ProofKit
import Derived.LaidMore
import Derived.OpenShut
import Derived.Stop.Joined
set_option linter.unusedSimpArgs false
set_option linter.unusedVariables false
set_option linter.unusedSectionVars false
namespace Go.SX.Td
open Go Go.SX Go.Proofs Go.ChangeShapes Go.WideShapes Go.ChangeAt Go.RowKit
set_option maxRecDepth 1000000
theorem laidOut : laidOutB Tryd.prog=true:=by kernel_rfl
theorem ownN : ownKnob Tryd.prog.godebug=none:=by kernel_rfl
theorem oI : Opens Tryd.prog 3 1 eIi64 (InK .i64):=Opens.int Tryd.underlying3
theorem oS : Opens Tryd.prog 9 1 eS (fun x=>x.size≤maxLen):=Opens.str Tryd.underlying9
theorem xi0 : Opens Tryd.prog 55 2 qf0 (fun _=>True) :=
 ⟨fun _=>rfl,fun hx=>by
  obtain⟨a,_,ra⟩:=field_open Tryd.underlying55 hx 0 _ rfl oI
  obtain⟨b,_,rb⟩:=field_open Tryd.underlying55 hx 1 _ rfl oI
  exact⟨⟨a,b⟩,trivial,Reads.append (a:=eIi64 a) (b:=eIi64 b) ra rb⟩⟩
theorem oRatio : Opens Tryd.prog 34 2 eRatio (fun _=>True) :=
 ⟨fun _=>rfl,fun hx=>by
  obtain⟨a,_,ra⟩:=field_open Tryd.underlying34 hx 0 _ rfl oI
  obtain⟨b,_,rb⟩:=field_open Tryd.underlying34 hx 1 _ rfl oI
  exact⟨⟨a,b⟩,trivial,Reads.append (a:=eIi64 a) (b:=eIi64 b) ra rb⟩⟩
theorem oZone : Opens Tryd.prog 57 20 eA10Range (fun _=>True) :=
 ⟨fun _=>rfl,fun hx=>by
  have hn:Tryd.prog.cellsOf 55=2:=by kernel_rfl
  obtain⟨y0,h0,r0⟩:=elem_open Tryd.underlying57 hx hn 0 (by omega) xi0
  obtain⟨y1,h1,r1⟩:=elem_open Tryd.underlying57 hx hn 1 (by omega) xi0
  obtain⟨y2,h2,r2⟩:=elem_open Tryd.underlying57 hx hn 2 (by omega) xi0
  obtain⟨y3,h3,r3⟩:=elem_open Tryd.underlying57 hx hn 3 (by omega) xi0
  obtain⟨y4,h4,r4⟩:=elem_open Tryd.underlying57 hx hn 4 (by omega) xi0
  obtain⟨y5,h5,r5⟩:=elem_open Tryd.underlying57 hx hn 5 (by omega) xi0
  obtain⟨y6,h6,r6⟩:=elem_open Tryd.underlying57 hx hn 6 (by omega) xi0
  obtain⟨y7,h7,r7⟩:=elem_open Tryd.underlying57 hx hn 7 (by omega) xi0
  obtain⟨y8,h8,r8⟩:=elem_open Tryd.underlying57 hx hn 8 (by omega) xi0
  obtain⟨y9,h9,r9⟩:=elem_open Tryd.underlying57 hx hn 9 (by omega) xi0
  exact⟨⟨y0,y1,y2,y3,y4,y5,y6,y7,y8,y9⟩,trivial,Reads.append (a:=qf0 y0) (b:=qf0 y1++(qf0 y2++(qf0 y3++(qf0 y4++(qf0 y5++(qf0 y6++(qf0 y7++(qf0 y8++(qf0 y9))))))))) r0 (Reads.append (a:=qf0 y1) (b:=qf0 y2++(qf0 y3++(qf0 y4++(qf0 y5++(qf0 y6++(qf0 y7++(qf0 y8++(qf0 y9)))))))) r1 (Reads.append (a:=qf0 y2) (b:=qf0 y3++(qf0 y4++(qf0 y5++(qf0 y6++(qf0 y7++(qf0 y8++(qf0 y9))))))) r2 (Reads.append (a:=qf0 y3) (b:=qf0 y4++(qf0 y5++(qf0 y6++(qf0 y7++(qf0 y8++(qf0 y9)))))) r3 (Reads.append (a:=qf0 y4) (b:=qf0 y5++(qf0 y6++(qf0 y7++(qf0 y8++(qf0 y9))))) r4 (Reads.append (a:=qf0 y5) (b:=qf0 y6++(qf0 y7++(qf0 y8++(qf0 y9)))) r5 (Reads.append (a:=qf0 y6) (b:=qf0 y7++(qf0 y8++(qf0 y9))) r6 (Reads.append (a:=qf0 y7) (b:=qf0 y8++(qf0 y9)) r7 (Reads.append (a:=qf0 y8) (b:=qf0 y9) r8 r9))))))))⟩⟩
theorem oFacts : Opens Tryd.prog 38 10 eA10Ii64 (fun _=>True) :=
 ⟨fun _=>rfl,fun hx=>by
  have hn:Tryd.prog.cellsOf 3=1:=by kernel_rfl
  obtain⟨y0,h0,r0⟩:=elem_open Tryd.underlying38 hx hn 0 (by omega) oI
  obtain⟨y1,h1,r1⟩:=elem_open Tryd.underlying38 hx hn 1 (by omega) oI
  obtain⟨y2,h2,r2⟩:=elem_open Tryd.underlying38 hx hn 2 (by omega) oI
  obtain⟨y3,h3,r3⟩:=elem_open Tryd.underlying38 hx hn 3 (by omega) oI
  obtain⟨y4,h4,r4⟩:=elem_open Tryd.underlying38 hx hn 4 (by omega) oI
  obtain⟨y5,h5,r5⟩:=elem_open Tryd.underlying38 hx hn 5 (by omega) oI
  obtain⟨y6,h6,r6⟩:=elem_open Tryd.underlying38 hx hn 6 (by omega) oI
  obtain⟨y7,h7,r7⟩:=elem_open Tryd.underlying38 hx hn 7 (by omega) oI
  obtain⟨y8,h8,r8⟩:=elem_open Tryd.underlying38 hx hn 8 (by omega) oI
  obtain⟨y9,h9,r9⟩:=elem_open Tryd.underlying38 hx hn 9 (by omega) oI
  exact⟨⟨y0,y1,y2,y3,y4,y5,y6,y7,y8,y9⟩,trivial,Reads.append (a:=eIi64 y0) (b:=eIi64 y1++(eIi64 y2++(eIi64 y3++(eIi64 y4++(eIi64 y5++(eIi64 y6++(eIi64 y7++(eIi64 y8++(eIi64 y9))))))))) r0 (Reads.append (a:=eIi64 y1) (b:=eIi64 y2++(eIi64 y3++(eIi64 y4++(eIi64 y5++(eIi64 y6++(eIi64 y7++(eIi64 y8++(eIi64 y9)))))))) r1 (Reads.append (a:=eIi64 y2) (b:=eIi64 y3++(eIi64 y4++(eIi64 y5++(eIi64 y6++(eIi64 y7++(eIi64 y8++(eIi64 y9))))))) r2 (Reads.append (a:=eIi64 y3) (b:=eIi64 y4++(eIi64 y5++(eIi64 y6++(eIi64 y7++(eIi64 y8++(eIi64 y9)))))) r3 (Reads.append (a:=eIi64 y4) (b:=eIi64 y5++(eIi64 y6++(eIi64 y7++(eIi64 y8++(eIi64 y9))))) r4 (Reads.append (a:=eIi64 y5) (b:=eIi64 y6++(eIi64 y7++(eIi64 y8++(eIi64 y9)))) r5 (Reads.append (a:=eIi64 y6) (b:=eIi64 y7++(eIi64 y8++(eIi64 y9))) r6 (Reads.append (a:=eIi64 y7) (b:=eIi64 y8++(eIi64 y9)) r7 (Reads.append (a:=eIi64 y8) (b:=eIi64 y9) r8 r9))))))))⟩⟩
theorem oZones : Opens Tryd.prog 32 1 ft0 (fun l=>∀ z∈l,True):=Opens.slice Tryd.underlying32 (by kernel_rfl) (by omega) oZone
theorem oRule : Opens Tryd.prog 36 8 eRule (fun _=>True) :=
 ⟨fun _=>rfl,fun hx=>by
  obtain⟨k,_,r0⟩:=field_open Tryd.underlying36 hx 0 _ rfl oI
  obtain⟨s,_,r1⟩:=field_open Tryd.underlying36 hx 1 _ rfl oS
  obtain⟨zs,hz,r2⟩:=field_open Tryd.underlying36 hx 2 _ rfl oZones
  obtain⟨n,_,r3⟩:=field_open Tryd.underlying36 hx 3 _ rfl oI
  obtain⟨a,_,r4⟩:=field_open Tryd.underlying36 hx 4 _ rfl oRatio
  obtain⟨b,_,r5⟩:=field_open Tryd.underlying36 hx 5 _ rfl oRatio
  exact⟨⟨k,s,zs,n,a,b⟩,trivial,Reads.append (a:=eIi64 k) (b:=eS s++(ft0 zs++(eIi64 n++(eRatio a++eRatio b)))) r0 (Reads.append (a:=eS s) r1 (Reads.append (a:=ft0 zs) r2 (Reads.append (a:=eIi64 n) r3 (Reads.append (a:=eRatio a) r4 r5))))⟩⟩
theorem oRules : Opens Tryd.prog 22 1 (fun l:List Rule=>[.sl (W eRule l)]) (fun l=>l.length≤maxLen∧∀ r∈l,True):=Opens.sliceL Tryd.underlying22 (by kernel_rfl) (by omega) oRule
theorem oPolicy : Opens Tryd.prog 24 1 ePolicy (fun p=>p.Rules.length≤maxLen) :=
 ⟨fun _=>rfl,fun hx=>by
  obtain⟨l,hl,r0⟩:=field_open Tryd.underlying24 hx 0 _ rfl oRules
  exact⟨⟨l⟩,hl.1,r0⟩⟩
theorem inK_i64 {x:Int}(h:InK .i64 x):-9223372036854775808≤x∧x≤9223372036854775807:=by
 simp only[InK,Lit.wf,Bool.and_eq_true,decide_eq_true_eq] at h
 simpa [IntKind.min,IntKind.max,IntKind.signed,IntKind.bits] using h
theorem inK_u8 {x:Int}(h:InK .u8 x):0≤x∧x≤255:=by
 simp only[InK,Lit.wf,Bool.and_eq_true,decide_eq_true_eq] at h
 simpa [IntKind.min,IntKind.max,IntKind.signed,IntKind.bits] using h
theorem maxLen_eq : maxLen=9223372036854775807:=by decide +kernel
section
variable {H:Type}{enc:TypeId×Value→H}{w:World}{ps:List MemPlace}{d:DataW H}{b0:Nat}{v:Value}
theorem openPolicy (hv:Value.okWide Tryd.prog w .any b0 24 v)(h:DataW.Trod enc Tryd.prog w 0 (fun _=>true) true 24 v d ps):∃ p:Policy,Rel (cx0 w) (vPolicy p) v∧p.Rules.length≤9223372036854775807:=by
 obtain⟨cs,rfl,hs⟩:=okWide_struct Tryd.underlying24 hv
 obtain⟨fuel,h⟩:=h
 obtain⟨p,hp,hr⟩:=oPolicy.op h
 have hc:Tryd.prog.cellsOf 24=1:=by kernel_rfl
 exact⟨p,rel_agg (ds:=ePolicy p) (by rw[hs,hc];rfl) hr,by rw[← maxLen_eq];exact hp⟩
theorem openFacts (hv:Value.okWide Tryd.prog w .any b0 38 v)(h:DataW.Trod enc Tryd.prog w 0 (fun _=>true) true 38 v d ps):∃ p:A10 Int,Rel (cx0 w) (vA10Ii64 p) v:=by
 unfold Value.okWide at hv
 rw[Tryd.underlying38] at hv
 obtain⟨cs,rfl,hs,_⟩:=hv
 obtain⟨fuel,h⟩:=h
 obtain⟨p,hp,hr⟩:=oFacts.op h
 have hc:Tryd.prog.cellsOf 38=10:=by kernel_rfl
 exact⟨p,rel_agg (ds:=eA10Ii64 p) (by rw[hs,hc];rfl) hr⟩
theorem openByte (hv:Value.okWide Tryd.prog w .any b0 5 v)(h:DataW.Trod enc Tryd.prog w 0 (fun _=>true) true 5 v d ps):∃ n:Int,Rel (cx0 w) (vIu8 n) v∧0≤n∧n≤255:=by
 obtain⟨n,rfl⟩:=okWide_int Tryd.underlying5 hv
 obtain⟨fuel,h⟩:=h
 obtain⟨m,hm,hr⟩:=(Opens.int (k:=.u8) Tryd.underlying5).op h
 exact⟨m,rel_cell hr,inK_u8 hm⟩
theorem openInt (hv:Value.okWide Tryd.prog w .any b0 3 v)(h:DataW.Trod enc Tryd.prog w 0 (fun _=>true) true 3 v d ps):∃ n:Int,Rel (cx0 w) (vIi64 n) v∧-9223372036854775808≤n∧n≤9223372036854775807:=by
 obtain⟨n,rfl⟩:=okWide_int Tryd.underlying3 hv
 obtain⟨fuel,h⟩:=h
 obtain⟨m,hm,hr⟩:=oI.op h
 exact⟨m,rel_cell hr,inK_i64 hm⟩
end
theorem lawCalls {f:FuncId}{args:List SV}{us:List Value}{w:World}(ht:Tabs.ok (memF w))(h:Fn1 Tryd.prog f args (vB true))(hr:zg0 (cx0 w) args us) :
  Calls Tryd.prog f us.toArray w fun e w'=>e=.returned (.bool true)∧Below w.heap.size w w':=by
 refine(h.2 (cx0 w) w us (sat0 ht) hr).mono ?_
 rintro e w' ⟨c',own',sv,u,rfl,h1,_,_,h5,rfl⟩
 obtain rfl:=h1.qw0
 exact⟨rfl,h5.os,h5.tape,h5.output,h5.size,fun b hb=>h5.keep b hb (fun ⟨r,x,hx,_⟩=>by simp at hx)⟩
end Go.SX.Td
namespace Go.Proofs.YtllbabjgpdmblaaDoor
open Go Go.ChangeShapes Go.WideShapes Go.ChangeAt Go.RowKit
set_option maxRecDepth 1000000
theorem door_met (os:Os)(args:Array Value):laidMetH Tryd.prog Rows.tableMeansRow.laid ((World.doorLaid Tryd.prog 24 os).forCall (fun _ _=>0) ⟨#[],args,[]⟩).memory :=
 laidMetH_of_parts3 (fuel:=8) (laidMet_of_run' 8 (by kernel_rfl) (by kernel_rfl)) (by kernel_rfl) (by kernel_rfl)
theorem gTab : (Tryd.prog.globals[0]?).map (·.type)=some 166:=by kernel_rfl
theorem tabs_of {W:World}(h:laidMetH Tryd.prog Rows.tableMeansRow.laid W):SX.Tabs.ok (SX.memF W):=by
 rw[MakeChecks.laidMetH_plain _ _ _ (by kernel_rfl)] at h
 obtain⟨ps,⟨g0,t0,cs0,f0,p0,q0,_,_,_,_,⟨g1,t1,cs1,f1,p1,q1,_,_,_,_,⟨g2,t2,cs2,f2,p2,q2,hg2,ht2,hv2,hd2,_,_⟩,_⟩,_⟩,_,_⟩:=h
 obtain rfl:=Option.some.inj (SX.Td.bg0.symm.trans hg2)
 obtain rfl:=Option.some.inj (gTab.symm.trans ht2)
 have hc:=Lib.cells_of_tab (k:=.u64) (zs:=Lib.pow10Tab) Tryd.underlying166 Tryd.underlying147 (by kernel_rfl) (by kernel_rfl) hd2
 have hv:W.var? Tryd.prog SX.Td.powName=some cs2:=hv2
 simp only[World.var?,SX.Td.bg0,Option.bind_some] at hv
 split at hv
 ·rename_i c ty fr e
  obtain rfl:=Option.some.inj hv
  refine⟨ty,fr,?_⟩
  show W.heap[SX.Td.gPow]?=_
  rw[e,← hc]
 ·cases hv
section
variable {H:Type}{enc:TypeId×Value→H}{W W':World}
theorem allStay {sp:Nat→Bool}:∀ {ts:List TypeId}{vs:List Value}{ds:List (DataW H)}{ps:List MemPlace},(∀ t∈ts,Tryd.prog.readableRec t=true∧t<Tryd.prog.types.size) →
  DataW.TrodAll enc Tryd.prog W 0 (fun _=>true) true ts vs ds ps→(∀ x∈ps,W.sameAt W' x)→(∀ x∈ps,sp x.block=true)→DataW.TrodAll enc Tryd.prog W' 0 sp true ts vs ds ps
 | [],vs,ds,ps,_,h,_,_=>by
  obtain⟨rfl,rfl,rfl⟩:=trodAll_nil h
  exact rfl
 | t::ts,vs,ds,ps,ht,h,hs,hp=>by
  obtain⟨v,vs',d,ds',p,q,rfl,rfl,rfl,h1,h2⟩:=trodAll_cons h
  obtain⟨k1,k2⟩:=ht t (by simp)
  exact⟨p,q,WideElems.Trod_stays SX.Td.laidOut k1 k2 h1 (fun x hx=>hs x (List.mem_append_left _ hx)) (fun x hx=>hp x (List.mem_append_left _ hx)),
   allStay (fun t' ht'=>ht t' (by simp[ht'])) h2 (fun x hx=>hs x (List.mem_append_right _ hx)) (fun x hx=>hp x (List.mem_append_right _ hx)),rfl⟩
theorem lawPost {f:Func}{s:ChangeSpec}{args:Array Value}{ds:List (DataW H)}{ps:List MemPlace}(hvars:s.vars=[])(hW:DataW.Whole enc Tryd.prog f.params.toList s.vars false W args.toList ds [] ps)
  (hts:∀ t∈f.params.toList,Tryd.prog.readableRec t=true∧t<Tryd.prog.types.size) (hres:f.resultTypes=#[4]) (hfn:s.fn H (ds++[])={ results:=[.lit (.bool true)],args:=ds }) (hb:Below W.heap.size W W') :
  s.post enc Tryd.prog f false true false false W args (.bool true) W':=by
 have hlt:∀ x∈ps,x.block<W.heap.size:=fun x hx=>hW.lt x hx
 have hW0:=hW
 obtain⟨p,q,hA,hV,rfl,hz,hn⟩:=hW0
 rw[hvars] at hV
 obtain⟨_,rfl⟩:=trodVars_none hV
 simp only[List.append_nil] at hW hlt hz
 have stay:∀ sp:Nat→Bool,(∀ x∈p,sp x.block=true)→DataW.TrodAll enc Tryd.prog W' 0 sp true f.params.toList args.toList ds p:=fun sp hsp=>allStay hts hA (fun x hx=>hb.same (hlt x hx)) hsp
 have res:∀ (b:Nat)(sp:Nat→Bool)(hd:Bool),DataW.TrodAll enc Tryd.prog W' b sp hd f.resultTypes.toList ((Value.bool true).resultList f.resultTypes.size) [.lit (.bool true)] []:=fun b sp hd=>by
  rw[hres]
  exact trodAll_mk1 (shut_bool Tryd.underlying4 _)
 have vars:∀ sp:Nat→Bool,DataW.TrodVars enc Tryd.prog W' sp s.vars (s.fn H (ds++[])).vars []:=fun sp=>by rw[hvars,hfn];rfl
 refine⟨ds,[],p,[],p,[],hW,by rw[hfn];exact res _ _ _,by rw[hfn];exact stay _ (fun x hx=>by simpa using hlt x hx),vars _,hb.frame _,fun _=>⟨?_,_,_,([]++p)++[],⟨[]++p,[],trodAll_append (stay _ fun _ _=>rfl) (res _ _ _),vars _,rfl,?_,fun h=>by cases h⟩,fun x hx _=>by simpa using hx⟩⟩
 ·rw[hres]
  exact ok_one (f:={ f with resultTypes:=#[4] }) rfl rfl (okWide_bool_mk Tryd.underlying4 _)
 ·intro b off hx
  have hx':MemPlace.cell b off∈p:=by simpa using hx
  rw[hb.frozen (p:=⟨b,off,none⟩) (hlt _ hx')]
  exact hz b off hx'
end
end Go.Proofs.YtllbabjgpdmblaaDoor
