/- Parts of the proof. -/
import Derived.Test.YtllbabjgpdmblaaGreatDoorZSyO
import Derived.Test.YtllbabjgpdmblaaGreatDoorZTdT
import Derived.Test.YtllbabjgpdmblaaGreatDoorTie
import Derived.Test.YtllbabjgpdmblaaGreatDoorCards
import Derived.ProofKit
import Derived.LaidMore
import Derived.OpenShut
import Derived.Stop.Joined
set_option linter.unusedSimpArgs false
set_option linter.unusedVariables false
set_option linter.unusedSectionVars false
namespace Go.SX.Td
open Go Go.SX Go.Proofs Go.ChangeShapes Go.WideShapes Go.ChangeAt Go.RowKit
set_option maxRecDepth 1000000
theorem laidOut : laidOutB Tryz.prog=true:=by kernel_rfl
theorem ownN : ownKnob Tryz.prog.godebug=none:=by kernel_rfl
theorem oI : Opens Tryz.prog 3 1 aH (Du .i64):=Opens.int Tryz.underlying3
theorem oS : Opens Tryz.prog 9 1 eS (fun x=>x.size<=maxLen):=Opens.str Tryz.underlying9
theorem Hl : Opens Tryz.prog 52 2 iP (fun _=>True) :=
 ⟨fun _=>rfl,fun hx=>by
  obtain⟨a,_,ra⟩:=pV Tryz.underlying52 hx 0 _ rfl oI;obtain⟨b,_,rb⟩:=pV Tryz.underlying52 hx 1 _ rfl oI;exact⟨⟨a,b⟩,trivial,Reads.append (a:=aH a) (b:=aH b) ra rb⟩⟩
theorem Lu : Opens Tryz.prog 42 2 jS (fun _=>True) :=
 ⟨fun _=>rfl,fun hx=>by
  obtain⟨a,_,ra⟩:=pV Tryz.underlying42 hx 0 _ rfl oI;obtain⟨b,_,rb⟩:=pV Tryz.underlying42 hx 1 _ rfl oI;exact⟨⟨a,b⟩,trivial,Reads.append (a:=aH a) (b:=aH b) ra rb⟩⟩
theorem oi2 : Opens Tryz.prog 54 20 dD (fun _=>True) :=
 ⟨fun _=>rfl,fun hx=>by
  have hn:Tryz.prog.cellsOf 52=2:=by kernel_rfl
  obtain⟨y0,h0,r0⟩:=elem_open Tryz.underlying54 hx hn 0 (by omega) Hl;obtain⟨y1,h1,r1⟩:=elem_open Tryz.underlying54 hx hn 1 (by omega) Hl;obtain⟨y2,h2,r2⟩:=elem_open Tryz.underlying54 hx hn 2 (by omega) Hl;obtain⟨y3,h3,r3⟩:=elem_open Tryz.underlying54 hx hn 3 (by omega) Hl;obtain⟨y4,h4,r4⟩:=elem_open Tryz.underlying54 hx hn 4 (by omega) Hl;obtain⟨y5,h5,r5⟩:=elem_open Tryz.underlying54 hx hn 5 (by omega) Hl;obtain⟨y6,h6,r6⟩:=elem_open Tryz.underlying54 hx hn 6 (by omega) Hl;obtain⟨y7,h7,r7⟩:=elem_open Tryz.underlying54 hx hn 7 (by omega) Hl;obtain⟨y8,h8,r8⟩:=elem_open Tryz.underlying54 hx hn 8 (by omega) Hl;obtain⟨y9,h9,r9⟩:=elem_open Tryz.underlying54 hx hn 9 (by omega) Hl;exact⟨⟨y0,y1,y2,y3,y4,y5,y6,y7,y8,y9⟩,trivial,Reads.append (a:=iP y0) (b:=iP y1++(iP y2++(iP y3++(iP y4++(iP y5++(iP y6++(iP y7++(iP y8++(iP y9))))))))) r0 (Reads.append (a:=iP y1) (b:=iP y2++(iP y3++(iP y4++(iP y5++(iP y6++(iP y7++(iP y8++(iP y9)))))))) r1 (Reads.append (a:=iP y2) (b:=iP y3++(iP y4++(iP y5++(iP y6++(iP y7++(iP y8++(iP y9))))))) r2 (Reads.append (a:=iP y3) (b:=iP y4++(iP y5++(iP y6++(iP y7++(iP y8++(iP y9)))))) r3 (Reads.append (a:=iP y4) (b:=iP y5++(iP y6++(iP y7++(iP y8++(iP y9))))) r4 (Reads.append (a:=iP y5) (b:=iP y6++(iP y7++(iP y8++(iP y9)))) r5 (Reads.append (a:=iP y6) (b:=iP y7++(iP y8++(iP y9))) r6 (Reads.append (a:=iP y7) (b:=iP y8++(iP y9)) r7 (Reads.append (a:=iP y8) (b:=iP y9) r8 r9))))))))⟩⟩
theorem un2 : Opens Tryz.prog 56 1 ma0 (fun l=>∀ z∈l,True):=Opens.slice Tryz.underlying56 (by kernel_rfl) (by omega) oi2
theorem oo2 : Opens Tryz.prog 58 8 aZ (fun _=>True) :=
 ⟨fun _=>rfl,fun hx=>by
  obtain⟨k,_,r0⟩:=pV Tryz.underlying58 hx 0 _ rfl oI;obtain⟨s,_,r1⟩:=pV Tryz.underlying58 hx 1 _ rfl oS;obtain⟨zs,hz,r2⟩:=pV Tryz.underlying58 hx 2 _ rfl un2;obtain⟨n,_,r3⟩:=pV Tryz.underlying58 hx 3 _ rfl oI;obtain⟨a,_,r4⟩:=pV Tryz.underlying58 hx 4 _ rfl Lu;obtain⟨b,_,r5⟩:=pV Tryz.underlying58 hx 5 _ rfl Lu;exact⟨⟨k,s,zs,n,a,b⟩,trivial,Reads.append (a:=aH k) (b:=eS s++(ma0 zs++(aH n++(jS a++jS b)))) r0 (Reads.append (a:=eS s) r1 (Reads.append (a:=ma0 zs) r2 (Reads.append (a:=aH n) r3 (Reads.append (a:=jS a) r4 r5))))⟩⟩
theorem ua2 : Opens Tryz.prog 22 1 (fun l:List Rule=>[.sl (W aZ l)]) (fun l=>l.length<=maxLen/\∀ r∈l,True):=Opens.X5 Tryz.underlying22 (by kernel_rfl) (by omega) oo2
theorem je2 : Opens Tryz.prog 24 1 tw1 (fun p=>p.Rules.length<=maxLen) :=
 ⟨fun _=>rfl,fun hx=>by
  obtain⟨l,hl,r0⟩:=pV Tryz.underlying24 hx 0 _ rfl ua2;exact⟨⟨l⟩,hl.1,r0⟩⟩
theorem V3 {x:Int}(h:Du .i64 x):-9223372036854775808<=x/\x<=9223372036854775807:=by
 simp only[Du,Lit.wf,Bool.and_eq_true,decide_eq_true_eq] at h
 simpa [IntKind.min,IntKind.max,IntKind.signed,IntKind.bits] using h
theorem maxLen_eq : maxLen=9223372036854775807:=by decide +kernel
section
variable {H:Type}{enc:TypeId×Value->H}{w:World}{ps:List MemPlace}{d:DataW H}{b0:Nat}{v:Value}
theorem ai1 (hv:Value.okWide Tryz.prog w .any b0 24 v)(h:DataW.Trod enc Tryz.prog w 0 (fun _=>true) true 24 v d ps):∃ p:au,Rel (Qr w) (BA p) v/\p.Rules.length<=9223372036854775807:=by
 obtain⟨cs,rfl,hs⟩:=okWide_struct Tryz.underlying24 hv;obtain⟨fuel,h⟩:=h;obtain⟨p,hp,hr⟩:=je2.op h;have hc:Tryz.prog.cellsOf 24=1:=by kernel_rfl
 exact⟨p,ni1 (ds:=tw1 p) (by rw[hs,hc];rfl) hr,by rw[<- maxLen_eq];exact hp⟩
end
theorem oa1 {f:FuncId}{args:List SV}{us:List Value}{w:World}(ht:Tabs.ok (GV w))(h:Fn1 Tryz.prog f args (vB true))(hr:dP (Qr w) args us) :
  Calls Tryz.prog f us.toArray w fun e w'=>e=.returned (.bool true)/\Below w.heap.size w w':=by
 refine(h.2 (Qr w) w us (ZK ht) hr).mono ?_;rintro e w' ⟨c',own',sv,u,rfl,h1,_,_,h5,rfl⟩;obtain rfl:=h1.gB;exact⟨rfl,h5.os,h5.tape,h5.output,h5.size,fun b hb=>h5.keep b hb (fun ⟨r,x,hx,_⟩=>by simp at hx)⟩
end Go.SX.Td
namespace Go.Proofs.YtllbabjgpdmblaaGreatDoor
open Go Go.ChangeShapes Go.WideShapes Go.ChangeAt Go.RowKit
set_option maxRecDepth 1000000
theorem door_met (os:Os)(args:Array Value):laidMetH Tryz.prog Rows.tableMatchesReferenceRow.laid ((World.doorLaid Tryz.prog 24 os).forCall (fun _ _=>0) ⟨#[],args,[]⟩).memory :=
 laidMetH_of_parts3 (fuel:=8) (laidMet_of_run' 8 (by kernel_rfl) (by kernel_rfl)) (by kernel_rfl) (by kernel_rfl)
theorem gTab : (Tryz.prog.globals[0]?).map (·.type)=some 170:=by kernel_rfl
theorem jg2 {W:World}(h:laidMetH Tryz.prog Rows.tableMatchesReferenceRow.laid W):SX.Tabs.ok (SX.GV W):=by
 rw[MakeChecks.laidMetH_plain _ _ _ (by kernel_rfl)] at h;obtain⟨ps,⟨g0,t0,cs0,f0,p0,q0,_,_,_,_,⟨g1,t1,cs1,f1,p1,q1,_,_,_,_,⟨g2,t2,cs2,f2,p2,q2,hg2,ht2,hv2,hd2,_,_⟩,_⟩,_⟩,_,_⟩:=h;obtain rfl:=Option.some.inj (SX.Td.VY.symm.trans hg2);obtain rfl:=Option.some.inj (gTab.symm.trans ht2);have hc:=Lib.cells_of_tab (k:=.u64) (zs:=Lib.pow10Tab) Tryz.underlying170 Tryz.underlying149 (by kernel_rfl) (by kernel_rfl) hd2;have hv:W.var? Tryz.prog SX.Td.LM=some cs2:=hv2;simp only[World.var?,SX.Td.VY,Option.bind_some] at hv;split at hv
 ·rename_i c ty fr e;obtain rfl:=Option.some.inj hv;refine⟨ty,fr,?_⟩;show W.heap[SX.Td.U5]?=_;rw[e,<- hc]
 ·cases hv
section
variable {H:Type}{enc:TypeId×Value->H}{W W':World}
theorem cz1 {sp:Nat->Bool}:∀ {ts:List TypeId}{vs:List Value}{ds:List (DataW H)}{ps:List MemPlace},(∀ t∈ts,Tryz.prog.readableRec t=true/\t<Tryz.prog.types.size) ->
  DataW.TrodAll enc Tryz.prog W 0 (fun _=>true) true ts vs ds ps->(∀ x∈ps,W.sameAt W' x)->(∀ x∈ps,sp x.block=true)->DataW.TrodAll enc Tryz.prog W' 0 sp true ts vs ds ps
 |[],vs,ds,ps,_,h,_,_=>by
  obtain⟨rfl,rfl,rfl⟩:=trodAll_nil h;exact rfl
 |t::ts,vs,ds,ps,ht,h,hs,hp=>by
  obtain⟨v,vs',d,ds',p,q,rfl,rfl,rfl,h1,h2⟩:=trodAll_cons h;obtain⟨k1,k2⟩:=ht t (by simp);exact⟨p,q,WideElems.Trod_stays SX.Td.laidOut k1 k2 h1 (fun x hx=>hs x (List.mem_append_left _ hx)) (fun x hx=>hp x (List.mem_append_left _ hx)),
   cz1 (fun t' ht'=>ht t' (by simp[ht'])) h2 (fun x hx=>hs x (List.mem_append_right _ hx)) (fun x hx=>hp x (List.mem_append_right _ hx)),rfl⟩
theorem ky2 {f:Func}{s:ChangeSpec}{args:Array Value}{ds:List (DataW H)}{ps:List MemPlace}(hvars:s.vars=[])(hW:DataW.Whole enc Tryz.prog f.params.toList s.vars false W args.toList ds [] ps)
  (hts:∀ t∈f.params.toList,Tryz.prog.readableRec t=true/\t<Tryz.prog.types.size) (hres:f.resultTypes=#[4]) (hfn:s.fn H (ds++[])={ results:=[.lit (.bool true)],args:=ds }) (hb:Below W.heap.size W W') :
  s.post enc Tryz.prog f false true false false W args (.bool true) W':=by
 have hlt:∀ x∈ps,x.block<W.heap.size:=fun x hx=>hW.lt x hx
 have hW0:=hW;obtain⟨p,q,hA,hV,rfl,hz,hn⟩:=hW0;rw[hvars] at hV;obtain⟨_,rfl⟩:=trodVars_none hV;simp only[List.append_nil] at hW hlt hz;have stay:∀ sp:Nat->Bool,(∀ x∈p,sp x.block=true)->DataW.TrodAll enc Tryz.prog W' 0 sp true f.params.toList args.toList ds p:=fun sp hsp=>cz1 hts hA (fun x hx=>hb.same (hlt x hx)) hsp
 have res:∀ (b:Nat)(sp:Nat->Bool)(hd:Bool),DataW.TrodAll enc Tryz.prog W' b sp hd f.resultTypes.toList ((Value.bool true).resultList f.resultTypes.size) [.lit (.bool true)] []:=fun b sp hd=>by
  rw[hres];exact trodAll_mk1 (shut_bool Tryz.underlying4 _)
 have vars:∀ sp:Nat->Bool,DataW.TrodVars enc Tryz.prog W' sp s.vars (s.fn H (ds++[])).vars []:=fun sp=>by rw[hvars,hfn];rfl
 refine⟨ds,[],p,[],p,[],hW,by rw[hfn];exact res _ _ _,by rw[hfn];exact stay _ (fun x hx=>by simpa using hlt x hx),vars _,hb.frame _,fun _=>⟨?_,_,_,([]++p)++[],⟨[]++p,[],trodAll_append (stay _ fun _ _=>rfl) (res _ _ _),vars _,rfl,?_,fun h=>by cases h⟩,fun x hx _=>by simpa using hx⟩⟩
 ·rw[hres];exact ok_one (f:={ f with resultTypes:=#[4] }) rfl rfl (okWide_bool_mk Tryz.underlying4 _)
 ·intro b off hx;have hx':MemPlace.cell b off∈p:=by simpa using hx
  rw[hb.frozen (p:=⟨b,off,none⟩) (hlt _ hx')];exact hz b off hx'
end
end Go.Proofs.YtllbabjgpdmblaaGreatDoor
