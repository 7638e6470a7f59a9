/- Parts of the proof. -/
import Derived.Test.YtllbabjgpdmblaaGreatDoorZSyN
set_option linter.unusedSimpArgs false
set_option linter.unusedVariables false
set_option linter.unusedSectionVars false
namespace Go.SX
open Go
variable [Tabs]
structure AppE (xs ys:List (List D))(sz bytes:Nat)(K:List (List D)→Prop):Prop where
 sz:∀ ds∈ys,ds.length=sz
 b:(xs.length+ys.length) * bytes≤140737488355328
 l:xs.length+ys.length≤maxLen
 k:K (xs++ys)
theorem cx1 (xs ys:List (List D))(sz bytes:Nat)(K:List (List D)→Prop):AppE xs ys sz bytes K=((∀ ds∈ys,ds.length=sz)∧(xs.length+ys.length) * bytes≤140737488355328∧xs.length+ys.length≤maxLen∧K (xs++ys)):=propext ⟨fun h=>⟨h.1,h.2,h.3,h.4⟩,fun h=>⟨h.1,h.2.1,h.2.2.1,h.2.2.2⟩⟩
structure SlcE (es:List (List D))(l h:Int)(sz:Nat)(K:List (List D)→Prop):Prop where
 lo:0≤l
 le:l≤h
 hi:h≤es.length
 sz:∀ ds∈es,ds.length=sz
 k:K ((es.take h.toNat).drop l.toNat)
theorem tj1 (es:List (List D))(l h:Int)(sz:Nat)(K:List (List D)→Prop):SlcE es l h sz K=(0≤l∧l≤h∧h≤es.length∧(∀ ds∈es,ds.length=sz)∧K ((es.take h.toNat).drop l.toNat)):=propext ⟨fun h=>⟨h.1,h.2,h.3,h.4,h.5⟩,fun h=>⟨h.1,h.2.1,h.2.2.1,h.2.2.2.1,h.2.2.2.2⟩⟩
structure SubE (s:ByteArray)(l h:Int)(K:ByteArray→Prop):Prop where
 lo:0≤l
 le:l≤h
 hi:h≤s.size
 k:K (s.extract l.toNat h.toNat)
theorem rr1 (s:ByteArray)(l h:Int)(K:ByteArray→Prop):SubE s l h K=(0≤l∧l≤h∧h≤s.size∧K (s.extract l.toNat h.toNat)):=propext ⟨fun h=>⟨h.1,h.2,h.3,h.4⟩,fun h=>⟨h.1,h.2.1,h.2.2.1,h.2.2.2⟩⟩
structure MksE (n m:Int)(bytes:Nat)(zs:List D)(K:List (List D)→Prop):Prop where
 lo:0≤n
 eq:n=m
 b:n.toNat * bytes≤140737488355328
 l:n≤maxLen
 k:K (List.replicate n.toNat zs)
theorem th1 (n m:Int)(bytes:Nat)(zs:List D)(K:List (List D)→Prop):MksE n m bytes zs K=(0≤n∧n=m∧n.toNat * bytes≤140737488355328∧n≤maxLen∧K (List.replicate n.toNat zs)):=propext ⟨fun h=>⟨h.1,h.2,h.3,h.4,h.5⟩,fun h=>⟨h.1,h.2.1,h.2.2.1,h.2.2.2.1,h.2.2.2.2⟩⟩
structure PixE (n:Int)(len:Nat)(K:Nat→Prop):Prop where
 lo:0≤n
 hi:n<len
 k:K n.toNat
theorem uh1 (n:Int)(len:Nat)(K:Nat→Prop):PixE n len K=(0≤n∧n<len∧K n.toNat):=propext ⟨fun h=>⟨h.1,h.2,h.3⟩,fun h=>⟨h.1,h.2.1,h.2.2⟩⟩
structure StoE (es:List (List D))(i j:Nat)(ds':List D)(K:List (List D)→Prop):Prop where
 hi:i<es.length
 k:∀ ds,es[i]?=some ds→K (es.set i (splice j ds' ds))
theorem ri1 (es:List (List D))(i j:Nat)(ds':List D)(K:List (List D)→Prop):StoE es i j ds' K=(i<es.length∧∀ ds,es[i]?=some ds→K (es.set i (splice j ds' ds))):=propext ⟨fun h=>⟨h.1,h.2⟩,fun h=>⟨h.1,h.2⟩⟩
structure BslE (es:List (List D))(K:List (List D)→Prop):Prop where
 k:K es
theorem uo1 (es:List (List D))(K:List (List D)→Prop):BslE es K=K es:=propext ⟨fun h=>h.1,fun h=>⟨h⟩⟩
structure RowE (es:List (List D))(n:Int)(K:Nat→Prop):Prop where
 lo:0≤n
 hi:n<es.length
 k:K n.toNat
theorem tx1 (es:List (List D))(n:Int)(K:Nat→Prop):RowE es n K=(0≤n∧n<es.length∧K n.toNat):=propext ⟨fun h=>⟨h.1,h.2,h.3⟩,fun h=>⟨h.1,h.2.1,h.2.2⟩⟩
structure MputE (es:List (Value×List D))(k:Value)(ds:List D)(K:List (Value×List D)→Prop):Prop where
 k:K (ir0 es k ds)
theorem mi1 (es:List (Value×List D))(k:Value)(ds:List D)(K:List (Value×List D)→Prop):MputE es k ds K=K (ir0 es k ds):=propext ⟨fun h=>h.1,fun h=>⟨h⟩⟩
structure JoinS (n0:Nat)(A B:List SV→List Res→(DX→List SV→List Res→Prop)→Prop)(env:List SV)(own:List Res)(K:DX→List SV→List Res→Prop):Prop where
 k:qe2 n0 A B env own K
theorem nx1 (n0:Nat)(A B:List SV→List Res→(DX→List SV→List Res→Prop)→Prop)(env:List SV)(own:List Res)(K:DX→List SV→List Res→Prop):JoinS n0 A B env own K=qe2 n0 A B env own K:=propext ⟨fun h=>h.1,fun h=>⟨h⟩⟩
noncomputable def rg2 (own:List Res)(sz:Nat)(x i:SV)(K:SV→Prop):Prop :=
 match x,i with
 | .d (.sl es),.d (.val (.int _ n))=>IdxS es n sz K
 | .hd r,.d (.val (.int _ n))=>(match ze0 own r with | .row _ s es=>(match Nat.beq s sz with | true=>RowE es n (fun i=>K (.rp r s i 0)) | false=>False) | _=>False)
 | .rs r s i,.d (.val (.int _ n))=>(match ze0 own r with
  | .row _ s' es=>(match Nat.beq s sz&&Nat.beq s' sz with | true=>RisS es i n (fun _=>K (.rp r s' (io.natp i n) 0)) | false=>False)
  | _=>False)
 | _,_=>False
theorem nw1 (own:List Res)(sz:Nat)(x i:SV):rg2 own sz x i=da1 own sz x i:=by
 rw[← oa0];funext K;unfold rg2 bo2;simp only[wr0,vt0,tx1,ub1];rfl
noncomputable def mc1 (own:List Res)(sz:Nat)(x v:SV)(K:List Res→Prop):Prop :=
 match x with
 | .ptr r k=>(match ze0 own r with
  | .cells cs ty=>(match v.flat&&(Nat.beq v.cells.length sz&&(v.cells.all SV.one&&Nat.ble (k+sz) cs.length)) with
   | true=>K (su0 own r (.cells (splice k v.cells cs) ty))
   | false=>False)
  | _=>False)
 | .rp r s i j=>(match ze0 own r with
  | .row ty s' es=>(match Nat.beq s s'&&(v.flat&&(Nat.beq v.cells.length sz&&Nat.ble (j+sz) s)) with
   | true=>(match so0 own v.cells with
    | some ds'=>StoE es i j ds' (fun zs=>K (su0 own r (.row ty s zs)))
    | none=>False)
   | false=>False)
  | _=>False)
 | _=>False
theorem mm1 (own:List Res)(sz:Nat)(x v:SV):mc1 own sz x v=et0 own sz x v:=by
 rw[← wr1];funext K;unfold mc1 uj1;simp only[ri1,ot0,wr0,vt0];rfl
noncomputable def ko1 (own:List Res)(ty sz n:Nat)(es:Option (List (List D)))(K:SV→List Res→Prop):Prop :=
 match es with
 | some es=>(match Nat.beq es.length n&&Nat.ble (n * sz) 16777216 with | true=>BslE es (fun zs=>K (.hd own.length) (own++[.row ty sz zs])) | false=>False)
 | none=>False
theorem dt1 (own:List Res)(ty sz n:Nat)(es:Option (List (List D))):ko1 own ty sz n es=sx0 own ty sz n es:=by
 rw[← ee0];funext K;unfold ko1 oi0;simp only[uo1];rfl
noncomputable def oe0 (sz n:Nat)(es:Option (List (List D)))(R:SV→Prop):Prop :=
 match es with
 | some es=>(match Nat.beq es.length n&&Nat.ble (n * sz) 16777216 with | true=>BslE es (fun zs=>R (.d (.sl zs))) | false=>False)
 | none=>False
theorem ki1 (sz n:Nat)(es:Option (List (List D)))(R:SV→Prop):oe0 sz n es R=nc0 sz n es R:=by
 unfold oe0 nc0;simp only[uo1];rfl
noncomputable def zj2 (own:List Res)(ty sz bytes:Nat)(x:SV)(ys:Option (List (List D)))(K:SV→List Res→Prop):Prop :=
 match ys with
 | none=>False
 | some ys =>
  match x with
  | .d (.val (.slice none 0 0))=>AppE [] ys sz bytes (fun zs=>K (.hd own.length) (own++[.row ty sz zs]))
  | .hd r=>(match ze0 own r with
   | .row ty' sz' xs=>(match Nat.beq ty' ty&&Nat.beq sz' sz with
    | true=>AppE xs ys sz bytes (fun zs=>K (.hd own.length) (su0 own r .gone++[.row ty sz zs]))
    | false=>False)
   | _=>False)
  | _=>False
theorem cv1 (own:List Res)(ty sz bytes:Nat)(x:SV)(ys:Option (List (List D))):zj2 own ty sz bytes x ys=zz2 own ty sz bytes x ys:=by
 rw[← nl1];funext K;unfold zj2 rm2;simp only[cx1,uu1,wr0,vt0,zE];rfl
noncomputable def ml1 (sz:Nat)(x:SV)(lo hi:Option SV)(K:SV→Prop):Prop :=
 match x with
 | .d (.sl es)=>(match bnd (.ofNat 0) lo,ry2 es hi with
  | some l,some h=>SlcE es l h sz (fun zs=>K (.d (.sl zs)))
  | _,_=>False)
 | _=>False
theorem uy1 (sz:Nat)(x:SV)(lo hi:Option SV):ml1 sz x lo hi=uw1 sz x lo hi:=by
 rw[← ol0];funext K;unfold ml1 zf2;simp only[tj1,ux1,wr0,vt0];rfl
noncomputable def ru1 (x:SV)(lo hi:Option SV)(K:SV→Prop):Prop :=
 match x with
 | .d (.val (.string s))=>(match bnd (.ofNat 0) lo,rw2 s hi with
  | some l,some h=>SubE s l h (fun z=>K (.d (.val (.string z))))
  | _,_=>False)
 | _=>False
theorem uk1 (x:SV)(lo hi:Option SV):ru1 x lo hi=od0 x lo hi:=by
 rw[← nf0];funext K;unfold ru1 md1;simp only[rr1,uq1,wr0,vt0];rfl
noncomputable def tm1 (own:List Res)(ty sz bytes:Nat)(zs:Option (List D))(l k:SV)(K:SV→List Res→Prop):Prop :=
 match zs,l,k with
 | some zs,.d (.val (.int .i64 n)),.d (.val (.int .i64 m))=>(match Nat.beq zs.length sz with
  | true=>MksE n m bytes zs (fun es=>K (.hd own.length) (own++[.row ty sz es]))
  | false=>False)
 | _,_,_=>False
theorem tf1 (own:List Res)(ty sz bytes:Nat)(zs:Option (List D))(l k:SV):tm1 own ty sz bytes zs l k=tp1 own ty sz bytes zs l k:=by
 rw[← mo1];funext K;unfold tm1 ba2;simp only[th1,um1,wr0,vt0];rfl
noncomputable def ta1 (len sz:Nat)(x i:SV)(K:SV→Prop):Prop :=
 match x,i with
 | .ptr r k,.d (.val (.int _ n))=>PixE n len (fun i=>K (.ptr r (k+i * sz)))
 | .fp ds,.d (.val (.int _ n))=>PixE n len (fun i=>K (.fp (ds.drop (i * sz))))
 | _,_=>False
theorem ua1 (len sz:Nat)(x i:SV):ta1 len sz x i=or0 len sz x i:=by
 rw[← nm0];funext K;unfold ta1 nv1;simp only[uh1,ug1,wr0,vt0];rfl
noncomputable def ts1 (len sz:Nat)(agg:Bool)(x i:SV)(K:SV→Prop):Prop :=
 match x,i with
 | .agg cs,.d (.val (.int _ n))=>PixE n len (fun i=>zb0 (nt1 (i * sz) sz agg (.agg cs)) K)
 | _,_=>False
theorem un1 (len sz:Nat)(agg:Bool)(x i:SV):ts1 len sz agg x i=cy0 len sz agg x i:=by
 funext K;unfold ts1 cy0;simp only[uh1];rfl
structure StrE (s:ByteArray)(n:Int)(K:Int→Prop):Prop where
 lo:0≤n
 hi:n<s.size
 k:∀ b:UInt8,s[n.toNat]?=some b→K b.toNat
theorem ra1 (s:ByteArray)(n:Int)(K:Int→Prop):StrE s n K=(0≤n∧n<s.size∧∀ b:UInt8,s[n.toNat]?=some b→K b.toNat):=propext ⟨fun h=>⟨h.1,h.2,h.3⟩,fun h=>⟨h.1,h.2.1,h.2.2⟩⟩
noncomputable def ur1 (x i:SV)(K:SV→Prop):Prop :=
 match x,i with
 | .d (.val (.string s)),.d (.val (.int _ n))=>StrE s n (fun b=>K (.d (.val (.int .u8 b))))
 | _,_=>False
theorem wo1 (x i:SV):ur1 x i=ax0 x i:=by
 funext K;unfold ur1 ax0;simp only[ra1];rfl
noncomputable def me1 (own:List Res)(mk:MK)(agg:Bool)(x k v:SV)(K:List Res→Prop):Prop :=
 match x,k with
 | .hd r,.d (.val kv)=>(match ze0 own r with
  | .mp mk' agg' es=>(match decide (mk'=mk)&&((agg' == agg)&&(mk.ok kv&&(v.flat&&(v.isAgg == agg)))) with
   | true=>(match so0 own v.cells with | some ds=>MputE es kv ds (fun zs=>K (su0 own r (.mp mk agg zs))) | none=>False)
   | false=>False)
  | .mpf mk' es=>(match decide (mk'=mk)&&((false == agg)&&(mk.ok kv&&v.ry1)) with | true=>K (su0 own r (.mpf mk (ir0 es kv v))) | false=>False)
  | _=>False)
 | _,_=>False
theorem ma1 (own:List Res)(mk:MK)(agg:Bool)(x k v:SV)(K:List Res→Prop):me1 own mk agg x k v K=df1 own mk agg x k v K:=by
 rw[← uf1];unfold me1 tg1;simp only[mi1,wr0,vt0];rfl
structure B2sS (es:List (List D))(K:ByteArray→Prop):Prop where
 ex:∃ ns,numsOf es=some ns∧K (strOfNums ns)
theorem cj1 (es:List (List D))(K:ByteArray→Prop):B2sS es K=∃ ns,numsOf es=some ns∧K (strOfNums ns):=propext ⟨fun h=>h.1,fun h=>⟨h⟩⟩
noncomputable def rf2 (ys:Option (List (List D)))(K:SV→Prop):Prop :=
 match ys with
 | some es=>B2sS es (fun s=>K (.d (.val (.string s))))
 | none=>False
theorem nc1 (ys:Option (List (List D))):rf2 ys=no1 ys:=by
 funext K;unfold rf2 no1;simp only[cj1];rfl
structure HeadE (es:List (List D))(h:Int)(K:List (List D)→Prop):Prop where
 h0:0≤h
 h1:h≤es.length
 k:K (es.take h.toNat)
theorem ny1 (es:List (List D))(h:Int)(K:List (List D)→Prop):HeadE es h K=(0≤h∧h≤es.length∧K (es.take h.toNat)):=propext ⟨fun h=>⟨h.1,h.2,h.3⟩,fun h=>⟨h.1,h.2.1,h.2.2⟩⟩
noncomputable def tz1 (own:List Res)(sz:Nat)(x:SV)(lo hi:Option SV)(K:SV→List Res→Prop):Prop :=
 match x with
 | .hd r=>(match ze0 own r with
  | .row ty s es=>(match lo,hi with
   | none,some (.d (.val (.int _ h)))=>HeadE es h (fun zs=>K (.hd own.length) (su0 own r .gone++[.row ty s zs]))
   | some (.d (.val (.int _ l))),none=>(match Nat.beq s sz with | true=>HeadS es l (fun _=>K (.rs r s (io.nat l)) own) | false=>False)
   | _,_=>False)
  | _=>False)
 | .d d=>tf0 own d lo hi K
 | _=>False
theorem tq1 (own:List Res)(sz:Nat)(x:SV)(lo hi:Option SV)(K:SV→List Res→Prop):tz1 own sz x lo hi K=dh1 own sz x lo hi K:=by
 unfold tz1 dh1;simp only[ny1,wu1,wr0,vt0]
 cases x with
 | hd r =>
  dsimp only
  cases ze0 own r with
  | row ty s es=>rfl
  | _=>rfl
 | d d=>rfl
 | _=>rfl
noncomputable def opE (P:Program)(d:DOp)(env:List SV)(own:List Res)(K:SV→List Res→Prop):Prop :=
 match d with
 | .idxA sz x i=>rg2 own sz (evn own env x) (evn own env i) (fun sv=>K sv own)
 | .idxP n sz x i=>ta1 n sz (evn own env x) (evn own env i) (fun sv=>K sv own)
 | .idxV n sz agg x i=>ts1 n sz agg (evn own env x) (evn own env i) (fun sv=>K sv own)
 | .idxS x i=>ur1 (evn own env x) (evn own env i) (fun sv=>K sv own)
 | .b2s x=>rf2 (src own (evn own env x)) (fun sv=>K sv own)
 | .store sz x v=>mc1 (ey1 own (evn own env x) (evn own env v)) sz (evn own env x) (evn (ey1 own (evn own env x) (evn own env v)) env v) (fun own'=>K (.tup []) own')
 | .bslice ty sz n _ ps=>ko1 (sr0 own (ps.map fun p=>evn own env p.2)) ty sz n (bsl (sr0 own (ps.map fun p=>evn own env p.2)) sz 0 (ps.map fun p=>(p.1,evn own env p.2))) K
 | .app ty sz bytes _ x y=>zj2 own ty sz bytes (evn own env x) (src own (evn own env y)) K
 | .slc sz x lo hi=>(match evn own env x with
  | .hd r=>OrS (fun _=>ml1 sz (evn (ai0 own (evn own env x)) env x) (lo.map (evn own env)) (hi.map (evn own env)) (fun sv=>K sv (ai0 own (evn own env x)))) (fun _=>tz1 own sz (.hd r) (lo.map (evn own env)) (hi.map (evn own env)) K)
  | .d (.val (.slice none 0 0))=>tz1 own sz (.d (.val (.slice none 0 0))) (lo.map (evn own env)) (hi.map (evn own env)) K
  | _=>ml1 sz (evn (ai0 own (evn own env x)) env x) (lo.map (evn own env)) (hi.map (evn own env)) (fun sv=>K sv (ai0 own (evn own env x))))
 | .slcS x lo hi=>ru1 (evn own env x) (lo.map (evn own env)) (hi.map (evn own env)) (fun sv=>K sv own)
 | .appz ty sz bytes z x n=>nk1 (evn own env x) (tm1 own ty sz bytes (so0 own (cval z).cells) (evn own env n) (evn own env n) K)
 | .mks ty sz bytes z l k=>tm1 own ty sz bytes (so0 own (cval z).cells) (evn own env l) (evn own env k) K
 | .mset mk agg x k v=>me1 (ai0 own (evn own env v)) mk agg (evn own env x) (kvS (evn own env k)) (evn (ai0 own (evn own env v)) env v) (fun own'=>K (.tup []) own')
 | d=>opC P d env own K
theorem ae1 (P:Program)(d:DOp)(env:List SV)(own:List Res)(K:SV→List Res→Prop):opE P d env own K=opN P d env own K:=by
 rw[← ai1];cases d<;>first | rfl | (rw[ai1];simp only[opE,opN,nw1,ua1,un1,wo1,nc1,mm1,dt1,cv1,uy1,uk1,tf1,ma1,mr1,tq1,uv1])
 case slc sz x lo hi =>
  exact qm1 _ _ _ _ _ _ _
noncomputable def fnE (P:Program)(d:DOp)(env:List SV)(own:List Res)(R:SV→Prop):Prop :=
 match d with
 | .idxA sz x i=>rg2 own sz (evn own env x) (evn own env i) R
 | .idxP n sz x i=>ta1 n sz (evn own env x) (evn own env i) R
 | .idxV n sz agg x i=>ts1 n sz agg (evn own env x) (evn own env i) R
 | .idxS x i=>ur1 (evn own env x) (evn own env i) R
 | .b2s x=>rf2 (src own (evn own env x)) R
 | .slc sz x lo hi=>ml1 sz (evn own env x) (lo.map (evn own env)) (hi.map (evn own env)) R
 | .slcS x lo hi=>ru1 (evn own env x) (lo.map (evn own env)) (hi.map (evn own env)) R
 | .bslice _ sz n _ ps=>oe0 sz n (bsl own sz 0 (ps.map fun p=>(p.1,evn own env p.2))) R
 | d=>fnC P d env own R
theorem eg1 (P:Program)(d:DOp)(env:List SV)(own:List Res)(R:SV→Prop):fnE P d env own R=fnN P d env own R:=by
 rw[← ep1];cases d<;>first | rfl | (simp only[fnE,fnC,nw1,ua1,un1,wo1,nc1,uy1,uk1,ki1,oa0,nm0,ol0,nf0])
noncomputable def zw2 (P:Program):List GOp→List SV→List Res→(List SV→List Res→Prop)→Prop
 | [],env,own,K=>K env own
 | g::l,env,own,K =>
  td0 g.guard env (fun env=>opE P g.op env own (fun sv own'=>zw2 P l (fi0 env g.dst sv) own' K)) (fun env=>zw2 P l (fi0 env g.dst (.tup [])) own K)
theorem av1 (P:Program)(l:List GOp):∀ (env:List SV)(own:List Res)(K:List SV→List Res→Prop),zw2 P l env own K=run P l env own K:=by
 induction l with
 | nil=>intro env own K;rfl
 | cons g l ih=>intro env own K;simp only[zw2,run,sj0,ae1,ih]
noncomputable def jq1 (P:Program):List GOp→List SV→List Res→(List SV→Prop)→Prop
 | [],env,_,K=>K env
 | g::l,env,own,K =>
  td0 g.guard env (fun env=>fnE P g.op env own (fun sv=>jq1 P l (fi0 env g.dst sv) own K)) (fun env=>jq1 P l (fi0 env g.dst (.tup [])) own K)
theorem va1 (P:Program)(l:List GOp):∀ (env:List SV)(own:List Res)(K:List SV→Prop),jq1 P l env own K=yk1 P l env own K:=by
 induction l with
 | nil=>intro env own K;rfl
 | cons g l ih=>intro env own K;simp only[jq1,yk1,sj0,eg1,ih]
noncomputable def yu1 (P:Program):List GOp→List SV→List Res→(List SV→List Res→Prop)→Prop
 | [],env,own,K=>K env own
 | g::l,env,own,K =>
  match g.isApp with
  | true=>match fc1 g.op (evn own env) with
   | true=>opE P g.op env own (fun sv own'=>yu1 P l (fi0 env g.dst sv) own' K)
   | false=>False
  | false=>td0 g.guard env (fun env=>fnE P g.op env (kc0 own) (fun sv=>yu1 P l (fi0 env g.dst sv) own K)) (fun env=>yu1 P l (fi0 env g.dst (.tup [])) own K)
theorem vr1 (P:Program)(l:List GOp):∀ (env:List SV)(own:List Res)(K:List SV→List Res→Prop),yu1 P l env own K=dn1 P l env own K:=by
 induction l with
 | nil=>intro env own K;rfl
 | cons g l ih =>
  intro env own K;simp only[yu1,dn1,sj0,ae1,eg1,ih];cases g.isApp
  ·rfl
  ·cases fc1 g.op (evn own env)<;>rfl
structure HysS (A:(Nat→Bool)→Prop):Prop where
 ex:∃ M,A M
theorem HysS_iff (A:(Nat→Bool)→Prop):HysS A=∃ M,A M:=propext ⟨fun h=>h.1,fun h=>⟨h⟩⟩
theorem HysS.g (l:List Nat){A:(Nat→Bool)→Prop}(h:A (fun r=>l.any (Nat.beq r))):HysS A:=⟨_,h⟩
noncomputable def maskG (M:Nat→Bool):Nat→List Res→List Res
 | _,[]=>[]
 | k,x::l=>mkM M k x::maskG M (k+1) l
theorem maskG_eq (M:Nat→Bool)(own:List Res):maskG M 0 own=jc1 M own:=by
 have:∀ (own:List Res) k,maskG M k own=own.mapIdx fun i x=>mkM M (k+i) x:=by
  intro own
  induction own with
  | nil=>intro k;rfl
  | cons x l ih=>intro k;rw[maskG,ih,List.mapIdx_cons];simp[Nat.add_assoc,Nat.add_comm 1]
 rw[this,jc1];simp
noncomputable def runSE (P:Program)(M:Nat→Bool):List GOp→List SV→List Res→(List SV→List Res→Prop)→Prop
 | [],env,own,K=>K env own
 | g::l,env,own,K =>
  match g.op with
  | .store sz x v=>(match g.guard with
   | none=>(match evn own env x with
    | .ptr r k=>(match M r with
     | true=>mc1 own sz (.ptr r k) (evn own env v) (fun own'=>runSE P M l (fi0 env g.dst (.tup [])) own' K)
     | false=>False)
    | _=>False)
   | some _=>False)
  | _=>td0 g.guard env (fun env=>fnE P g.op env (maskG M 0 own) (fun sv=>runSE P M l (fi0 env g.dst sv) own K)) (fun env=>runSE P M l (fi0 env g.dst (.tup [])) own K)
theorem runSE_eq (P:Program)(M:Nat→Bool)(l:List GOp):∀ (env:List SV)(own:List Res)(K:List SV→List Res→Prop),runSE P M l env own K=runS P M l env own K:=by
 induction l with
 | nil=>intro env own K;rfl
 | cons g l ih =>
  intro env own K;unfold runSE runS;simp only[sj0,eg1,mm1,maskG_eq,ih]
  cases g.op with
  | store sz x v =>
   dsimp only
   cases g.guard with
   | some q=>simp
   | none =>
    dsimp only
    cases evn own env x with
    | ptr r k=>cases hM:M r<;>simp[hM]
    | _=>simp
  | _=>rfl
noncomputable def wpW (P:Program)(n0:Nat):DE→List SV→List Res→(DX→List SV→List Res→Prop)→Prop
 | .skip,env,own,K=>K .normal env own
 | .reg gs,env,own,K=>zw2 P gs env own (fun env own=>K .normal env own)
 | .par _ _ _ _ gs,env,own,K=>(match gs.any GOp.uk0 with
  | true=>(match kr0 env.length gs with
   | true=>jq1 P (gs.map GOp.blank) env own (fun env'=>ws1 gs env' own gs env' own (fun env own=>K .normal env own))
   | false=>False)
  | false=>jq1 P gs env own (fun env=>K .normal env own))
 | .hys _ _ _ gs,env,own,K=>HysS (fun M=>runSE P M gs env own (fun env own=>K .normal env own))
 | .hyb _ _ _ gs,env,own,K=>(match kr0 env.length gs with
  | true=>yu1 P (gs.map GOp.blank) env own (fun env' own'=>ws1 gs env' own' gs env' own' (fun env own=>K .normal env own))
  | false=>False)
 | .hyl _ _ _ gs gl,env,own,K=>(match kr0 env.length gs with
  | true=>yu1 P (gs.map GOp.blank) env own (fun env' own'=>ws1 gs env' own' gs env' own' (fun env own=>opE P gl.op env own (fun sv own=>K .normal (fi0 env gl.dst sv) own)))
  | false=>False)
 | .sfx _ _ _ gs gl,env,own,K=>jq1 P gs env own (fun env'=>zw2 P gl env' own (fun env own=>K .normal env own))
 | .seq a b,env,own,K=>wpW P n0 a env own (fun e env' own'=>match e with | .normal=>wpW P n0 b env' own' K | e=>K e env' own')
 | .cond c x y,env,own,K=>cq1 (evn own env c) (fun _=>wpW P n0 x env own K) (fun _=>wpW P n0 y env own K)
 | .block id c,env,own,K=>wpW P n0 c env own (fun e env' own'=>match e with | .exit id'=>(match Nat.beq id' id with | true=>K .normal env' own' | false=>K (.exit id') env' own') | e=>K e env' own')
 | .loop c,env,own,K=>LoopS n0 (wpW P n0 c) env own K
 | .exit id,env,own,K=>K (.exit id) env own
 | .ret,env,own,K=>K .ret env own
 | .join a b,env,own,K=>JoinS n0 (wpW P n0 a) (wpW P n0 b) env own K
theorem zt2 (P:Program)(n0:Nat)(c:DE):wpW P n0 c=wpE P n0 c:=by
 induction c with
 | skip=>rfl
 | reg gs=>funext env own K;simp only[wpW,wpE,av1]
 | par hy hl hs tl gs =>
  funext env own K;simp only[wpW,wpE,va1]
  cases gs.any GOp.uk0 with
  | false=>rfl
  | true =>
   cases kr0 env.length gs with
   | false=>rfl
   | true=>rfl
 | seq a b iha ihb =>
  funext env own K;simp only[wpW,wpE,iha,ihb];congr 1
 | cond c x y ihx ihy=>funext env own K;simp only[wpW,wpE,ue1,ihx,ihy]
 | block id c ih =>
  funext env own K;simp only[wpW,wpE,ih];congr 1;funext e env' own'
  cases e with
  | exit id' =>
   simp only;cases h:Nat.beq id' id
   ·simp[xt1 h]
   ·simp[ck0 h]
  | _=>rfl
 | hys hy hl tl gs=>funext env own K;simp only[wpW,wpE,HysS_iff,runSE_eq]
 | hyb hl hs tl gs =>
  funext env own K;simp only[wpW,wpE,vr1]
  cases kr0 env.length gs with
  | false=>rfl
  | true=>rfl
 | hyl hy hs tl gs gl =>
  funext env own K;simp only[wpW,wpE,vr1,ae1]
  cases kr0 env.length gs with
  | false=>rfl
  | true=>rfl
 | sfx hy hl hs gs gl=>funext env own K;simp only[wpW,wpE,va1,av1]
 | loop c ih=>funext env own K;simp only[wpW,wpE,ih,wa1]
 | exit id=>rfl
 | ret=>rfl
 | join a b iha ihb=>funext env own K;simp only[wpW,wpE,iha,ihb,nx1]
theorem fe0 {P:Program}{f:FuncId}{df:EFn}{own:List Res}{args:List SV}{K:SV→List Res→Prop}(hf:zv0 P f=some df.er)
  (h:wpW P own.length df.code (pad df.ntmps args) own (dc1 df.res K)):qe0 P f own args K:=ye1 hf (by rw[← zt2];exact h)
theorem qe0.vz0 {P:Program}{f:FuncId}{df:EFn}{args:List SV}{K0:SV→List Res→Prop}(hf:zv0 P f=some df.er)
  (h:∀ K:SV→List Res→Prop,(∀ sv own',K0 sv own'→K sv own')→wpW P 0 df.code (pad df.ntmps args) [] (dc1 df.res K)):qe0 P f [] args K0:=fe0 hf (h K0 fun _ _ h=>h)
end Go.SX
