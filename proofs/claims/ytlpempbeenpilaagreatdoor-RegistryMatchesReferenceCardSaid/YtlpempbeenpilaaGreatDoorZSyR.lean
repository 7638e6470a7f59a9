/- Parts of the proof. -/
import Derived.Test.YtlpempbeenpilaaGreatDoorZSyN
set_option linter.unusedSimpArgs false
set_option linter.unusedVariables false
set_option linter.unusedSectionVars false
namespace Go.SX
open Go
variable [Tabs]
structure AppE (xs ys:List (List D))(sz bytes:Nat)(K:List (List D)→Prop):Prop where
 sz:∀ ds∈ys,ds.length=sz
 b:(xs.length+ys.length) * bytes≤140737488355328
 l:xs.length+ys.length≤maxLen
 k:K (xs++ys)
theorem AppE_iff (xs ys:List (List D))(sz bytes:Nat)(K:List (List D)→Prop):AppE xs ys sz bytes K=((∀ ds∈ys,ds.length=sz)∧(xs.length+ys.length) * bytes≤140737488355328∧xs.length+ys.length≤maxLen∧K (xs++ys)):=propext ⟨fun h=>⟨h.1,h.2,h.3,h.4⟩,fun h=>⟨h.1,h.2.1,h.2.2.1,h.2.2.2⟩⟩
structure SlcE (es:List (List D))(l h:Int)(sz:Nat)(K:List (List D)→Prop):Prop where
 lo:0≤l
 le:l≤h
 hi:h≤es.length
 sz:∀ ds∈es,ds.length=sz
 k:K ((es.take h.toNat).drop l.toNat)
theorem SlcE_iff (es:List (List D))(l h:Int)(sz:Nat)(K:List (List D)→Prop):SlcE es l h sz K=(0≤l∧l≤h∧h≤es.length∧(∀ ds∈es,ds.length=sz)∧K ((es.take h.toNat).drop l.toNat)):=propext ⟨fun h=>⟨h.1,h.2,h.3,h.4,h.5⟩,fun h=>⟨h.1,h.2.1,h.2.2.1,h.2.2.2.1,h.2.2.2.2⟩⟩
structure SubE (s:ByteArray)(l h:Int)(K:ByteArray→Prop):Prop where
 lo:0≤l
 le:l≤h
 hi:h≤s.size
 k:K (s.extract l.toNat h.toNat)
theorem SubE_iff (s:ByteArray)(l h:Int)(K:ByteArray→Prop):SubE s l h K=(0≤l∧l≤h∧h≤s.size∧K (s.extract l.toNat h.toNat)):=propext ⟨fun h=>⟨h.1,h.2,h.3,h.4⟩,fun h=>⟨h.1,h.2.1,h.2.2.1,h.2.2.2⟩⟩
structure MksE (n m:Int)(bytes:Nat)(zs:List D)(K:List (List D)→Prop):Prop where
 lo:0≤n
 eq:n=m
 b:n.toNat * bytes≤140737488355328
 l:n≤maxLen
 k:K (List.replicate n.toNat zs)
theorem MksE_iff (n m:Int)(bytes:Nat)(zs:List D)(K:List (List D)→Prop):MksE n m bytes zs K=(0≤n∧n=m∧n.toNat * bytes≤140737488355328∧n≤maxLen∧K (List.replicate n.toNat zs)):=propext ⟨fun h=>⟨h.1,h.2,h.3,h.4,h.5⟩,fun h=>⟨h.1,h.2.1,h.2.2.1,h.2.2.2.1,h.2.2.2.2⟩⟩
structure PixE (n:Int)(len:Nat)(K:Nat→Prop):Prop where
 lo:0≤n
 hi:n<len
 k:K n.toNat
theorem PixE_iff (n:Int)(len:Nat)(K:Nat→Prop):PixE n len K=(0≤n∧n<len∧K n.toNat):=propext ⟨fun h=>⟨h.1,h.2,h.3⟩,fun h=>⟨h.1,h.2.1,h.2.2⟩⟩
structure StoE (es:List (List D))(i j:Nat)(ds':List D)(K:List (List D)→Prop):Prop where
 hi:i<es.length
 k:∀ ds,es[i]?=some ds→K (es.set i (splice j ds' ds))
theorem StoE_iff (es:List (List D))(i j:Nat)(ds':List D)(K:List (List D)→Prop):StoE es i j ds' K=(i<es.length∧∀ ds,es[i]?=some ds→K (es.set i (splice j ds' ds))):=propext ⟨fun h=>⟨h.1,h.2⟩,fun h=>⟨h.1,h.2⟩⟩
structure BslE (es:List (List D))(K:List (List D)→Prop):Prop where
 k:K es
theorem BslE_iff (es:List (List D))(K:List (List D)→Prop):BslE es K=K es:=propext ⟨fun h=>h.1,fun h=>⟨h⟩⟩
structure RowE (es:List (List D))(n:Int)(K:Nat→Prop):Prop where
 lo:0≤n
 hi:n<es.length
 k:K n.toNat
theorem RowE_iff (es:List (List D))(n:Int)(K:Nat→Prop):RowE es n K=(0≤n∧n<es.length∧K n.toNat):=propext ⟨fun h=>⟨h.1,h.2,h.3⟩,fun h=>⟨h.1,h.2.1,h.2.2⟩⟩
structure MputE (es:List (Value×List D))(k:Value)(ds:List D)(K:List (Value×List D)→Prop):Prop where
 k:K (mput es k ds)
theorem MputE_iff (es:List (Value×List D))(k:Value)(ds:List D)(K:List (Value×List D)→Prop):MputE es k ds K=K (mput es k ds):=propext ⟨fun h=>h.1,fun h=>⟨h⟩⟩
structure JoinS (n0:Nat)(A B:List SV→List Res→(DX→List SV→List Res→Prop)→Prop)(env:List SV)(own:List Res)(K:DX→List SV→List Res→Prop):Prop where
 k:JoinN n0 A B env own K
theorem JoinS_iff (n0:Nat)(A B:List SV→List Res→(DX→List SV→List Res→Prop)→Prop)(env:List SV)(own:List Res)(K:DX→List SV→List Res→Prop):JoinS n0 A B env own K=JoinN n0 A B env own K:=propext ⟨fun h=>h.1,fun h=>⟨h⟩⟩
noncomputable def IdxE (own:List Res)(sz:Nat)(x i:SV)(K:SV→Prop):Prop :=
 match x,i with
 | .d (.sl es),.d (.val (.int _ n))=>IdxS es n sz K
 | .hd r,.d (.val (.int _ n))=>(match getr own r with | .row _ s es=>(match Nat.beq s sz with | true=>RowE es n (fun i=>K (.rp r s i 0)) | false=>False) | _=>False)
 | .rs r s i,.d (.val (.int _ n))=>(match getr own r with
  | .row _ s' es=>(match Nat.beq s sz&&Nat.beq s' sz with | true=>RisS es i n (fun _=>K (.rp r s' (io.natp i n) 0)) | false=>False)
  | _=>False)
 | _,_=>False
theorem IdxE_eq (own:List Res)(sz:Nat)(x i:SV):IdxE own sz x i=IdxN own sz x i:=by
 rw[← IdxC_eq];funext K;unfold IdxE IdxC;simp only[io_eq,ioStd,RowE_iff,RixS_iff];rfl
noncomputable def StoreE (own:List Res)(sz:Nat)(x v:SV)(K:List Res→Prop):Prop :=
 match x with
 | .ptr r k=>(match getr own r with
  | .cells cs ty=>(match v.flat&&(Nat.beq v.cells.length sz&&(v.cells.all SV.one&&Nat.ble (k+sz) cs.length)) with
   | true=>K (setr own r (.cells (splice k v.cells cs) ty))
   | false=>False)
  | _=>False)
 | .rp r s i j=>(match getr own r with
  | .row ty s' es=>(match Nat.beq s s'&&(v.flat&&(Nat.beq v.cells.length sz&&Nat.ble (j+sz) s)) with
   | true=>(match toDs own v.cells with
    | some ds'=>StoE es i j ds' (fun zs=>K (setr own r (.row ty s zs)))
    | none=>False)
   | false=>False)
  | _=>False)
 | _=>False
theorem StoreE_eq (own:List Res)(sz:Nat)(x v:SV):StoreE own sz x v=StoreN own sz x v:=by
 rw[← StoreC_eq];funext K;unfold StoreE StoreC;simp only[StoE_iff,RowS_iff,io_eq,ioStd];rfl
noncomputable def BsliceE (own:List Res)(ty sz n:Nat)(es:Option (List (List D)))(K:SV→List Res→Prop):Prop :=
 match es with
 | some es=>(match Nat.beq es.length n&&Nat.ble (n * sz) 16777216 with | true=>BslE es (fun zs=>K (.hd own.length) (own++[.row ty sz zs])) | false=>False)
 | none=>False
theorem BsliceE_eq (own:List Res)(ty sz n:Nat)(es:Option (List (List D))):BsliceE own ty sz n es=BsliceN own ty sz n es:=by
 rw[← BsliceC_eq];funext K;unfold BsliceE BsliceC;simp only[BslE_iff];rfl
noncomputable def FBsliceE (sz n:Nat)(es:Option (List (List D)))(R:SV→Prop):Prop :=
 match es with
 | some es=>(match Nat.beq es.length n&&Nat.ble (n * sz) 16777216 with | true=>BslE es (fun zs=>R (.d (.sl zs))) | false=>False)
 | none=>False
theorem FBsliceE_eq (sz n:Nat)(es:Option (List (List D)))(R:SV→Prop):FBsliceE sz n es R=FBsliceC sz n es R:=by
 unfold FBsliceE FBsliceC;simp only[BslE_iff];rfl
noncomputable def AppEC (own:List Res)(ty sz bytes:Nat)(x:SV)(ys:Option (List (List D)))(K:SV→List Res→Prop):Prop :=
 match ys with
 | none=>False
 | some ys =>
  match x with
  | .d (.val (.slice none 0 0))=>AppE [] ys sz bytes (fun zs=>K (.hd own.length) (own++[.row ty sz zs]))
  | .hd r=>(match getr own r with
   | .row ty' sz' xs=>(match Nat.beq ty' ty&&Nat.beq sz' sz with
    | true=>AppE xs ys sz bytes (fun zs=>K (.hd own.length) (setr own r .gone++[.row ty sz zs]))
    | false=>False)
   | _=>False)
  | _=>False
theorem AppEC_eq (own:List Res)(ty sz bytes:Nat)(x:SV)(ys:Option (List (List D))):AppEC own ty sz bytes x ys=AppN own ty sz bytes x ys:=by
 rw[← AppC_eq];funext K;unfold AppEC AppC;simp only[AppE_iff,AppS_iff,io_eq,ioStd,List.nil_append];rfl
noncomputable def SlcEC (sz:Nat)(x:SV)(lo hi:Option SV)(K:SV→Prop):Prop :=
 match x with
 | .d (.sl es)=>(match bnd (.ofNat 0) lo,bndE es hi with
  | some l,some h=>SlcE es l h sz (fun zs=>K (.d (.sl zs)))
  | _,_=>False)
 | _=>False
theorem SlcEC_eq (sz:Nat)(x:SV)(lo hi:Option SV):SlcEC sz x lo hi=SlcN sz x lo hi:=by
 rw[← SlcC_eq];funext K;unfold SlcEC SlcC;simp only[SlcE_iff,SlcS_iff,io_eq,ioStd];rfl
noncomputable def SlcSE (x:SV)(lo hi:Option SV)(K:SV→Prop):Prop :=
 match x with
 | .d (.val (.string s))=>(match bnd (.ofNat 0) lo,bndS s hi with
  | some l,some h=>SubE s l h (fun z=>K (.d (.val (.string z))))
  | _,_=>False)
 | _=>False
theorem SlcSE_eq (x:SV)(lo hi:Option SV):SlcSE x lo hi=SlcSN x lo hi:=by
 rw[← SlcSC_eq];funext K;unfold SlcSE SlcSC;simp only[SubE_iff,SubS_iff,io_eq,ioStd];rfl
noncomputable def MksEC (own:List Res)(ty sz bytes:Nat)(zs:Option (List D))(l k:SV)(K:SV→List Res→Prop):Prop :=
 match zs,l,k with
 | some zs,.d (.val (.int .i64 n)),.d (.val (.int .i64 m))=>(match Nat.beq zs.length sz with
  | true=>MksE n m bytes zs (fun es=>K (.hd own.length) (own++[.row ty sz es]))
  | false=>False)
 | _,_,_=>False
theorem MksEC_eq (own:List Res)(ty sz bytes:Nat)(zs:Option (List D))(l k:SV):MksEC own ty sz bytes zs l k=MksN own ty sz bytes zs l k:=by
 rw[← MksC_eq];funext K;unfold MksEC MksC;simp only[MksE_iff,MksS_iff,io_eq,ioStd];rfl
noncomputable def IdxPE (len sz:Nat)(x i:SV)(K:SV→Prop):Prop :=
 match x,i with
 | .ptr r k,.d (.val (.int _ n))=>PixE n len (fun i=>K (.ptr r (k+i * sz)))
 | .fp ds,.d (.val (.int _ n))=>PixE n len (fun i=>K (.fp (ds.drop (i * sz))))
 | _,_=>False
theorem IdxPE_eq (len sz:Nat)(x i:SV):IdxPE len sz x i=IdxPN len sz x i:=by
 rw[← IdxPC_eq];funext K;unfold IdxPE IdxPC;simp only[PixE_iff,PixS_iff,io_eq,ioStd];rfl
noncomputable def IdxVE (len sz:Nat)(agg:Bool)(x i:SV)(K:SV→Prop):Prop :=
 match x,i with
 | .agg cs,.d (.val (.int _ n))=>PixE n len (fun i=>PureN (sfld (i * sz) sz agg (.agg cs)) K)
 | _,_=>False
theorem IdxVE_eq (len sz:Nat)(agg:Bool)(x i:SV):IdxVE len sz agg x i=IdxVN len sz agg x i:=by
 funext K;unfold IdxVE IdxVN;simp only[PixE_iff];rfl
structure StrE (s:ByteArray)(n:Int)(K:Int→Prop):Prop where
 lo:0≤n
 hi:n<s.size
 k:∀ b:UInt8,s[n.toNat]?=some b→K b.toNat
theorem StrE_iff (s:ByteArray)(n:Int)(K:Int→Prop):StrE s n K=(0≤n∧n<s.size∧∀ b:UInt8,s[n.toNat]?=some b→K b.toNat):=propext ⟨fun h=>⟨h.1,h.2,h.3⟩,fun h=>⟨h.1,h.2.1,h.2.2⟩⟩
noncomputable def IdxStE (x i:SV)(K:SV→Prop):Prop :=
 match x,i with
 | .d (.val (.string s)),.d (.val (.int _ n))=>StrE s n (fun b=>K (.d (.val (.int .u8 b))))
 | _,_=>False
theorem IdxStE_eq (x i:SV):IdxStE x i=IdxStN x i:=by
 funext K;unfold IdxStE IdxStN;simp only[StrE_iff];rfl
noncomputable def MsetEC (own:List Res)(mk:MK)(agg:Bool)(x k v:SV)(K:List Res→Prop):Prop :=
 match x,k with
 | .hd r,.d (.val kv)=>(match getr own r with
  | .mp mk' agg' es=>(match decide (mk'=mk)&&((agg' == agg)&&(mk.ok kv&&(v.flat&&(v.isAgg == agg)))) with
   | true=>(match toDs own v.cells with | some ds=>MputE es kv ds (fun zs=>K (setr own r (.mp mk agg zs))) | none=>False)
   | false=>False)
  | .mpf mk' es=>(match decide (mk'=mk)&&((false == agg)&&(mk.ok kv&&v.isClo)) with | true=>K (setr own r (.mpf mk (mput es kv v))) | false=>False)
  | _=>False)
 | _,_=>False
theorem MsetEC_eq (own:List Res)(mk:MK)(agg:Bool)(x k v:SV)(K:List Res→Prop):MsetEC own mk agg x k v K=MsetN own mk agg x k v K:=by
 rw[← MsetC_eq];unfold MsetEC MsetC;simp only[MputE_iff,io_eq,ioStd];rfl
structure B2sS (es:List (List D))(K:ByteArray→Prop):Prop where
 ex:∃ ns,numsOf es=some ns∧K (strOfNums ns)
theorem B2sS_iff (es:List (List D))(K:ByteArray→Prop):B2sS es K=∃ ns,numsOf es=some ns∧K (strOfNums ns):=propext ⟨fun h=>h.1,fun h=>⟨h⟩⟩
noncomputable def B2sE (ys:Option (List (List D)))(K:SV→Prop):Prop :=
 match ys with
 | some es=>B2sS es (fun s=>K (.d (.val (.string s))))
 | none=>False
theorem B2sE_eq (ys:Option (List (List D))):B2sE ys=B2sN ys:=by
 funext K;unfold B2sE B2sN;simp only[B2sS_iff];rfl
structure HeadE (es:List (List D))(h:Int)(K:List (List D)→Prop):Prop where
 h0:0≤h
 h1:h≤es.length
 k:K (es.take h.toNat)
theorem HeadE_iff (es:List (List D))(h:Int)(K:List (List D)→Prop):HeadE es h K=(0≤h∧h≤es.length∧K (es.take h.toNat)):=propext ⟨fun h=>⟨h.1,h.2,h.3⟩,fun h=>⟨h.1,h.2.1,h.2.2⟩⟩
noncomputable def SlcRE (own:List Res)(sz:Nat)(x:SV)(lo hi:Option SV)(K:SV→List Res→Prop):Prop :=
 match x with
 | .hd r=>(match getr own r with
  | .row ty s es=>(match lo,hi with
   | none,some (.d (.val (.int _ h)))=>HeadE es h (fun zs=>K (.hd own.length) (setr own r .gone++[.row ty s zs]))
   | some (.d (.val (.int _ l))),none=>(match Nat.beq s sz with | true=>HeadS es l (fun _=>K (.rs r s (io.nat l)) own) | false=>False)
   | _,_=>False)
  | _=>False)
 | .d d=>SlcNilN own d lo hi K
 | _=>False
theorem SlcRE_eq (own:List Res)(sz:Nat)(x:SV)(lo hi:Option SV)(K:SV→List Res→Prop):SlcRE own sz x lo hi K=SlcRC own sz x lo hi K:=by
 unfold SlcRE SlcRC;simp only[HeadE_iff,HeadS_iff,io_eq,ioStd]
 cases x with
 | hd r =>
  dsimp only
  cases getr own r with
  | row ty s es=>rfl
  | _=>rfl
 | d d=>rfl
 | _=>rfl
noncomputable def opE (P:Program)(d:DOp)(env:List SV)(own:List Res)(K:SV→List Res→Prop):Prop :=
 match d with
 | .idxA sz x i=>IdxE own sz (evn own env x) (evn own env i) (fun sv=>K sv own)
 | .idxP n sz x i=>IdxPE n sz (evn own env x) (evn own env i) (fun sv=>K sv own)
 | .idxV n sz agg x i=>IdxVE n sz agg (evn own env x) (evn own env i) (fun sv=>K sv own)
 | .idxS x i=>IdxStE (evn own env x) (evn own env i) (fun sv=>K sv own)
 | .b2s x=>B2sE (src own (evn own env x)) (fun sv=>K sv own)
 | .store sz x v=>StoreE (frzT own (evn own env x) (evn own env v)) sz (evn own env x) (evn (frzT own (evn own env x) (evn own env v)) env v) (fun own'=>K (.tup []) own')
 | .bslice ty sz n _ ps=>BsliceE (frzL own (ps.map fun p=>evn own env p.2)) ty sz n (bsl (frzL own (ps.map fun p=>evn own env p.2)) sz 0 (ps.map fun p=>(p.1,evn own env p.2))) K
 | .app ty sz bytes _ x y=>AppEC own ty sz bytes (evn own env x) (src own (evn own env y)) K
 | .slc sz x lo hi=>(match evn own env x with
  | .hd r=>OrS (fun _=>SlcEC sz (evn (frzS own (evn own env x)) env x) (lo.map (evn own env)) (hi.map (evn own env)) (fun sv=>K sv (frzS own (evn own env x)))) (fun _=>SlcRE own sz (.hd r) (lo.map (evn own env)) (hi.map (evn own env)) K)
  | .d (.val (.slice none 0 0))=>SlcRE own sz (.d (.val (.slice none 0 0))) (lo.map (evn own env)) (hi.map (evn own env)) K
  | _=>SlcEC sz (evn (frzS own (evn own env x)) env x) (lo.map (evn own env)) (hi.map (evn own env)) (fun sv=>K sv (frzS own (evn own env x))))
 | .slcS x lo hi=>SlcSE (evn own env x) (lo.map (evn own env)) (hi.map (evn own env)) (fun sv=>K sv own)
 | .appz ty sz bytes z x n=>IfNil (evn own env x) (MksEC own ty sz bytes (toDs own (cval z).cells) (evn own env n) (evn own env n) K)
 | .mks ty sz bytes z l k=>MksEC own ty sz bytes (toDs own (cval z).cells) (evn own env l) (evn own env k) K
 | .mset mk agg x k v=>MsetEC (frzS own (evn own env v)) mk agg (evn own env x) (kvS (evn own env k)) (evn (frzS own (evn own env v)) env v) (fun own'=>K (.tup []) own')
 | d=>opC P d env own K
theorem opE_eq (P:Program)(d:DOp)(env:List SV)(own:List Res)(K:SV→List Res→Prop):opE P d env own K=opN P d env own K:=by
 rw[← opC_eq];cases d<;>first | rfl | (rw[opC_eq];simp only[opE,opN,IdxE_eq,IdxPE_eq,IdxVE_eq,IdxStE_eq,B2sE_eq,StoreE_eq,BsliceE_eq,AppEC_eq,SlcEC_eq,SlcSE_eq,MksEC_eq,MsetEC_eq,OrS_iff,SlcRE_eq,SlcRC_eq])
 case slc sz x lo hi =>
  exact slc_cases _ _ _ _ _ _ _
noncomputable def fnE (P:Program)(d:DOp)(env:List SV)(own:List Res)(R:SV→Prop):Prop :=
 match d with
 | .idxA sz x i=>IdxE own sz (evn own env x) (evn own env i) R
 | .idxP n sz x i=>IdxPE n sz (evn own env x) (evn own env i) R
 | .idxV n sz agg x i=>IdxVE n sz agg (evn own env x) (evn own env i) R
 | .idxS x i=>IdxStE (evn own env x) (evn own env i) R
 | .b2s x=>B2sE (src own (evn own env x)) R
 | .slc sz x lo hi=>SlcEC sz (evn own env x) (lo.map (evn own env)) (hi.map (evn own env)) R
 | .slcS x lo hi=>SlcSE (evn own env x) (lo.map (evn own env)) (hi.map (evn own env)) R
 | .bslice _ sz n _ ps=>FBsliceE sz n (bsl own sz 0 (ps.map fun p=>(p.1,evn own env p.2))) R
 | d=>fnC P d env own R
theorem fnE_eq (P:Program)(d:DOp)(env:List SV)(own:List Res)(R:SV→Prop):fnE P d env own R=fnN P d env own R:=by
 rw[← fnC_eq];cases d<;>first | rfl | (simp only[fnE,fnC,IdxE_eq,IdxPE_eq,IdxVE_eq,IdxStE_eq,B2sE_eq,SlcEC_eq,SlcSE_eq,FBsliceE_eq,IdxC_eq,IdxPC_eq,SlcC_eq,SlcSC_eq])
noncomputable def runE (P:Program):List GOp→List SV→List Res→(List SV→List Res→Prop)→Prop
 | [],env,own,K=>K env own
 | g::l,env,own,K =>
  GuardC g.guard env (fun env=>opE P g.op env own (fun sv own'=>runE P l (putE env g.dst sv) own' K)) (fun env=>runE P l (putE env g.dst (.tup [])) own K)
theorem runE_eq (P:Program)(l:List GOp):∀ (env:List SV)(own:List Res)(K:List SV→List Res→Prop),runE P l env own K=run P l env own K:=by
 induction l with
 | nil=>intro env own K;rfl
 | cons g l ih=>intro env own K;simp only[runE,run,GuardC_eq,opE_eq,ih]
noncomputable def runFE (P:Program):List GOp→List SV→List Res→(List SV→Prop)→Prop
 | [],env,_,K=>K env
 | g::l,env,own,K =>
  GuardC g.guard env (fun env=>fnE P g.op env own (fun sv=>runFE P l (putE env g.dst sv) own K)) (fun env=>runFE P l (putE env g.dst (.tup [])) own K)
theorem runFE_eq (P:Program)(l:List GOp):∀ (env:List SV)(own:List Res)(K:List SV→Prop),runFE P l env own K=runF P l env own K:=by
 induction l with
 | nil=>intro env own K;rfl
 | cons g l ih=>intro env own K;simp only[runFE,runF,GuardC_eq,fnE_eq,ih]
noncomputable def runHE (P:Program):List GOp→List SV→List Res→(List SV→List Res→Prop)→Prop
 | [],env,own,K=>K env own
 | g::l,env,own,K =>
  match g.isApp with
  | true=>match okLit g.op (evn own env) with
   | true=>opE P g.op env own (fun sv own'=>runHE P l (putE env g.dst sv) own' K)
   | false=>False
  | false=>GuardC g.guard env (fun env=>fnE P g.op env (maskR own) (fun sv=>runHE P l (putE env g.dst sv) own K)) (fun env=>runHE P l (putE env g.dst (.tup [])) own K)
theorem runHE_eq (P:Program)(l:List GOp):∀ (env:List SV)(own:List Res)(K:List SV→List Res→Prop),runHE P l env own K=runH P l env own K:=by
 induction l with
 | nil=>intro env own K;rfl
 | cons g l ih =>
  intro env own K;simp only[runHE,runH,GuardC_eq,opE_eq,fnE_eq,ih];cases g.isApp
  ·rfl
  ·cases okLit g.op (evn own env)<;>rfl
structure HysS (A:(Nat→Bool)→Prop):Prop where
 ex:∃ M,A M
theorem HysS_iff (A:(Nat→Bool)→Prop):HysS A=∃ M,A M:=propext ⟨fun h=>h.1,fun h=>⟨h⟩⟩
theorem HysS.g (l:List Nat){A:(Nat→Bool)→Prop}(h:A (fun r=>l.any (Nat.beq r))):HysS A:=⟨_,h⟩
noncomputable def maskG (M:Nat→Bool):Nat→List Res→List Res
 | _,[]=>[]
 | k,x::l=>mkM M k x::maskG M (k+1) l
theorem maskG_eq (M:Nat→Bool)(own:List Res):maskG M 0 own=maskM M own:=by
 have:∀ (own:List Res) k,maskG M k own=own.mapIdx fun i x=>mkM M (k+i) x:=by
  intro own
  induction own with
  | nil=>intro k;rfl
  | cons x l ih=>intro k;rw[maskG,ih,List.mapIdx_cons];simp[Nat.add_assoc,Nat.add_comm 1]
 rw[this,maskM];simp
noncomputable def runSE (P:Program)(M:Nat→Bool):List GOp→List SV→List Res→(List SV→List Res→Prop)→Prop
 | [],env,own,K=>K env own
 | g::l,env,own,K =>
  match g.op with
  | .store sz x v=>(match g.guard with
   | none=>(match evn own env x with
    | .ptr r k=>(match M r with
     | true=>StoreE own sz (.ptr r k) (evn own env v) (fun own'=>runSE P M l (putE env g.dst (.tup [])) own' K)
     | false=>False)
    | _=>False)
   | some _=>False)
  | _=>GuardC g.guard env (fun env=>fnE P g.op env (maskG M 0 own) (fun sv=>runSE P M l (putE env g.dst sv) own K)) (fun env=>runSE P M l (putE env g.dst (.tup [])) own K)
theorem runSE_eq (P:Program)(M:Nat→Bool)(l:List GOp):∀ (env:List SV)(own:List Res)(K:List SV→List Res→Prop),runSE P M l env own K=runS P M l env own K:=by
 induction l with
 | nil=>intro env own K;rfl
 | cons g l ih =>
  intro env own K;unfold runSE runS;simp only[GuardC_eq,fnE_eq,StoreE_eq,maskG_eq,ih]
  cases g.op with
  | store sz x v =>
   dsimp only
   cases g.guard with
   | some q=>simp
   | none =>
    dsimp only
    cases evn own env x with
    | ptr r k=>cases hM:M r<;>simp[hM]
    | _=>simp
  | _=>rfl
noncomputable def runME (P:Program)(gl:List GOp)(env:List SV)(own:List Res)(K:List SV→List Res→Prop):Option (Nat×MK×Bool)→Prop
 | none=>runE P gl env own K
 | some (d,mk,agg)=>runE P gl (putE env (some d) (.hd own.length)) (own++[.mp mk agg []]) K
theorem runME_eq (P:Program)(gl:List GOp)(env:List SV)(own:List Res)(K:List SV→List Res→Prop)(om:Option (Nat×MK×Bool)):runME P gl env own K om=runM P gl env own K om:=by
 cases om with
 | none=>simp only[runME,runM,runE_eq]
 | some x=>obtain⟨d,mk,agg⟩:=x;simp only[runME,runM,runE_eq]
structure DCallS (P:Program)(f:FuncId)(own:List Res)(args:List SV)(K:SV→List Res→Prop):Prop where
 k:∃ sv o,CallN P f own args (fun s o'=>s=sv∧o'=o)∧K sv o
theorem DCallS_iff (P:Program)(f:FuncId)(own:List Res)(args:List SV)(K:SV→List Res→Prop):DCallS P f own args K=∃ sv o,CallN P f own args (fun s o'=>s=sv∧o'=o)∧K sv o:=propext ⟨fun h=>h.1,fun h=>⟨h⟩⟩
structure EqXS (M:Nat→Bool)(own o:List Res)(K:Unit→Prop):Prop where
 e:EqX M own o
 k:K ()
theorem EqXS_iff (M:Nat→Bool)(own o:List Res)(K:Unit→Prop):EqXS M own o K=(EqX M own o∧K ()):=propext ⟨fun h=>⟨h.1,h.2⟩,fun h=>⟨h.1,h.2⟩⟩
structure XCallS (P:Program)(f:FuncId)(args:List SV)(R:SV→Prop):Prop where
 k:XCallN P f args R
theorem XCallS_iff (P:Program)(f:FuncId)(args:List SV)(R:SV→Prop):XCallS P f args R=XCallN P f args R:=propext ⟨fun h=>h.1,fun h=>⟨h⟩⟩
theorem HysS.gx (l:List Nat)(n:Nat){A:(Nat→Bool)→Prop}(h:A (fun r=>l.any (Nat.beq r)||Nat.ble n r)):HysS A:=⟨_,h⟩
noncomputable def maskY (M:Nat→Bool):Nat→List Res→List Res
 | _,[]=>[]
 | k,x::l=>mkX M k x::maskY M (k+1) l
theorem maskY_eq (M:Nat→Bool)(own:List Res):maskY M 0 own=maskX M own:=by
 have:∀ (own:List Res) k,maskY M k own=own.mapIdx fun i x=>mkX M (k+i) x:=by
  intro own
  induction own with
  | nil=>intro k;rfl
  | cons x l ih=>intro k;rw[maskY,ih,List.mapIdx_cons];simp[Nat.add_assoc,Nat.add_comm 1]
 rw[this,maskX];simp
noncomputable def fnXE (P:Program)(d:DOp)(env:List SV)(own:List Res)(R:SV→Prop):Prop :=
 match d with
 | .call f args=>XCallS P f (args.map (evn own env)) R
 | .callv ..=>False
 | d=>fnE P d env own R
theorem fnXE_eq (P:Program)(d:DOp)(env:List SV)(own:List Res)(R:SV→Prop):fnXE P d env own R=fnX P d env own R:=by
 cases d<;>simp only[fnXE,fnX,XCallS_iff,fnE_eq]
theorem appN_ex (own:List Res)(ty sz bytes:Nat)(x:SV)(ys:Option (List (List D)))(G:SV→List Res→Prop):AppN own ty sz bytes x ys G=∃ sv o,AppN own ty sz bytes x ys (fun s o'=>s=sv∧o'=o)∧G sv o:=by
 refine propext ⟨fun h=>?_,fun ⟨sv,o,h,hG⟩=>?_⟩
 ·unfold AppN at h ⊢;split at h
  ·exact h.elim
  ·split at h
   ·obtain⟨h1,h2,h3,h4⟩:=h;exact⟨_,_,⟨h1,h2,h3,rfl,rfl⟩,h4⟩
   ·split at h
    ·obtain⟨h0,h0',h1,h2,h3,h4⟩:=h;exact⟨_,_,⟨h0,h0',h1,h2,h3,rfl,rfl⟩,h4⟩
    ·exact h.elim
   ·exact h.elim
 ·unfold AppN at h ⊢;split at h
  ·exact h.elim
  ·split at h
   ·obtain⟨h1,h2,h3,rfl,rfl⟩:=h;exact⟨h1,h2,h3,hG⟩
   ·split at h
    ·obtain⟨h0,h0',h1,h2,h3,rfl,rfl⟩:=h;exact⟨h0,h0',h1,h2,h3,hG⟩
    ·exact h.elim
   ·exact h.elim
noncomputable def runXE (P:Program)(E M:Nat→Bool):Nat→List GOp→List SV→List Res→(List SV→List Res→Prop)→Prop
 | _,[],env,own,K=>K env own
 | k,g::l,env,own,K =>
  match E k with
  | true=>(match g.op with
   | .app ty sz bytes _ x y=>GuardC g.guard env (fun env=>AppEC own ty sz bytes (evn own env x) (src own (evn own env y)) (fun sv o=>EqXS M own o (fun _=>runXE P E M (k+1) l (putE env g.dst sv) o K))) (fun env=>runXE P E M (k+1) l (putE env g.dst (.tup [])) own K)
   | .call f args=>GuardC g.guard env (fun env=>DCallS P f own (args.map (evn own env)) (fun sv o=>EqXS M own o (fun _=>runXE P E M (k+1) l (putE env g.dst sv) o K))) (fun env=>runXE P E M (k+1) l (putE env g.dst (.tup [])) own K)
   | .bslice ty sz 0 _ []=>GuardC g.guard env (fun env=>EqXS M own (own++[.row ty sz []]) (fun _=>runXE P E M (k+1) l (putE env g.dst (.hd own.length)) (own++[.row ty sz []]) K)) (fun env=>runXE P E M (k+1) l (putE env g.dst (.tup [])) own K)
   | _=>False)
  | false=>GuardC g.guard env (fun env=>fnXE P g.op env (maskY M 0 own) (fun sv=>runXE P E M (k+1) l (putE env g.dst sv) own K)) (fun env=>runXE P E M (k+1) l (putE env g.dst (.tup [])) own K)
theorem runXE_eq (P:Program)(E M:Nat→Bool)(l:List GOp):∀ (k:Nat)(env:List SV)(own:List Res)(K:List SV→List Res→Prop),runXE P E M k l env own K=runX P E M k l env own K:=by
 induction l with
 | nil=>intro k env own K;rfl
 | cons g l ih =>
  intro k env own K;obtain⟨dst,op,gd⟩:=g;unfold runXE runX;simp only[GuardC_eq,fnXE_eq,maskY_eq,ih,AppEC_eq,DCallS_iff,EqXS_iff]
  cases E k with
  | false=>rfl
  | true =>
   cases op
   case bslice ty sz n z ps =>
    match n,ps with
    | 0,[] =>
     simp only[GOp.isEf,EffN,true_and];congr 1;funext env;exact propext ⟨fun h=>⟨_,_,⟨rfl,rfl⟩,h⟩,fun ⟨_,_,⟨h1,h2⟩,h⟩=>by subst h1;subst h2;exact h⟩
    | 0,_::_=>simp only[GOp.isEf,Bool.false_eq_true,false_and]
    | _+1,_=>simp only[GOp.isEf,Bool.false_eq_true,false_and]
   all_goals simp only[GOp.isEf,EffN,opN,Bool.false_eq_true,false_and,true_and]
   case app =>
    congr 1;funext env;exact appN_ex _ _ _ _ _ _ _
noncomputable def wpW (P:Program)(n0:Nat):DE→List SV→List Res→(DX→List SV→List Res→Prop)→Prop
 | .skip,env,own,K=>K .normal env own
 | .reg gs,env,own,K=>runE P gs env own (fun env own=>K .normal env own)
 | .par _ _ _ _ _ gs,env,own,K=>(match gs.any GOp.isBox with
  | true=>(match boxChk env.length gs with
   | true=>runFE P (gs.map GOp.blank) env own (fun env'=>boxN gs env' own gs env' own (fun env own=>K .normal env own))
   | false=>False)
  | false=>runFE P gs env own (fun env=>K .normal env own))
 | .hys _ _ _ _ gs,env,own,K=>HysS (fun M=>runSE P M gs env own (fun env own=>K .normal env own))
 | .hyb _ _ _ _ gs,env,own,K=>(match boxChk env.length gs with
  | true=>runHE P (gs.map GOp.blank) env own (fun env' own'=>boxN gs env' own' gs env' own' (fun env own=>K .normal env own))
  | false=>False)
 | .hyl _ _ _ _ gs gl,env,own,K=>(match boxChk env.length gs with
  | true=>runHE P (gs.map GOp.blank) env own (fun env' own'=>boxN gs env' own' gs env' own' (fun env own=>opE P gl.op env own (fun sv own=>K .normal (putE env gl.dst sv) own)))
  | false=>False)
 | .sfx _ _ _ _ gs gl,env,own,K=>runFE P gs env own (fun env'=>runE P gl env' own (fun env own=>K .normal env own))
 | .sfm _ _ _ _ m gs gl,env,own,K=>(match mkOk gs m with
  | true=>runFE P (blankAt gs m) env own (fun env'=>runME P gl env' own (fun env own=>K .normal env own) (mkAt gs m))
  | false=>False)
 | .eff _ _ _ E gs gl,env,own,K=>HysS (fun M=>runXE P (fun k=>E.any (Nat.beq k)) M 0 gs env own (fun env own=>runE P gl env own (fun env own=>K .normal env own)))
 | .seq a b,env,own,K=>wpW P n0 a env own (fun e env' own'=>match e with | .normal=>wpW P n0 b env' own' K | e=>K e env' own')
 | .cond c x y,env,own,K=>CondC (evn own env c) (fun _=>wpW P n0 x env own K) (fun _=>wpW P n0 y env own K)
 | .block id c,env,own,K=>wpW P n0 c env own (fun e env' own'=>match e with | .exit id'=>(match Nat.beq id' id with | true=>K .normal env' own' | false=>K (.exit id') env' own') | e=>K e env' own')
 | .loop c,env,own,K=>LoopS n0 (wpW P n0 c) env own K
 | .exit id,env,own,K=>K (.exit id) env own
 | .ret,env,own,K=>K .ret env own
 | .join a b,env,own,K=>JoinS n0 (wpW P n0 a) (wpW P n0 b) env own K
theorem wpW_eq (P:Program)(n0:Nat)(c:DE):wpW P n0 c=wpE P n0 c:=by
 induction c with
 | skip=>rfl
 | reg gs=>funext env own K;simp only[wpW,wpE,runE_eq]
 | par hy hl hs hx tl gs =>
  funext env own K;simp only[wpW,wpE,runFE_eq]
  cases gs.any GOp.isBox with
  | false=>rfl
  | true =>
   cases boxChk env.length gs with
   | false=>rfl
   | true=>rfl
 | seq a b iha ihb =>
  funext env own K;simp only[wpW,wpE,iha,ihb];congr 1
 | cond c x y ihx ihy=>funext env own K;simp only[wpW,wpE,CondC_eq,ihx,ihy]
 | block id c ih =>
  funext env own K;simp only[wpW,wpE,ih];congr 1;funext e env' own'
  cases e with
  | exit id' =>
   simp only;cases h:Nat.beq id' id
   ·simp[beqF h]
   ·simp[beqT h]
  | _=>rfl
 | hys hy hl hx tl gs=>funext env own K;simp only[wpW,wpE,HysS_iff,runSE_eq]
 | hyb hl hs hx tl gs =>
  funext env own K;simp only[wpW,wpE,runHE_eq]
  cases boxChk env.length gs with
  | false=>rfl
  | true=>rfl
 | hyl hy hs hx tl gs gl =>
  funext env own K;simp only[wpW,wpE,runHE_eq,opE_eq]
  cases boxChk env.length gs with
  | false=>rfl
  | true=>rfl
 | sfx hy hl hs hx gs gl=>funext env own K;simp only[wpW,wpE,runFE_eq,runE_eq]
 | sfm hy hl hs hx m gs gl =>
  funext env own K;simp only[wpW,wpE,runFE_eq,runME_eq];cases mkOk gs m<;>rfl
 | eff hy hl hs E gs gl=>funext env own K;simp only[wpW,wpE,HysS_iff,runXE_eq,runE_eq]
 | loop c ih=>funext env own K;simp only[wpW,wpE,ih,LoopS_iff]
 | exit id=>rfl
 | ret=>rfl
 | join a b iha ihb=>funext env own K;simp only[wpW,wpE,iha,ihb,JoinS_iff]
theorem scall_walkE {P:Program}{f:FuncId}{df:EFn}{own:List Res}{args:List SV}{K:SV→List Res→Prop}(hf:compF P f=some df.er)
  (h:wpW P own.length df.code (pad df.ntmps args) own (EndN df.res K)):SCall P f own args K:=scall_bodyE hf (by rw[← wpW_eq];exact h)
theorem SCall.walkE {P:Program}{f:FuncId}{df:EFn}{args:List SV}{K0:SV→List Res→Prop}(hf:compF P f=some df.er)
  (h:∀ K:SV→List Res→Prop,(∀ sv own',K0 sv own'→K sv own')→wpW P 0 df.code (pad df.ntmps args) [] (EndN df.res K)):SCall P f [] args K0:=scall_walkE hf (h K0 fun _ _ h=>h)
end Go.SX
