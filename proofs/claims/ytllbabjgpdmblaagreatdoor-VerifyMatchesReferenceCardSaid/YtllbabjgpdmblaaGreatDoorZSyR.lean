/- Parts of the proof. -/
import Derived.Test.YtllbabjgpdmblaaGreatDoorZSyN
set_option linter.unusedSimpArgs false
set_option linter.unusedVariables false
set_option linter.unusedSectionVars false
namespace Go.SX
open Go
variable [Tabs]
structure Bl (xs ys:List (List D))(sz bytes:Nat)(K:List (List D)->Prop):Prop where
 sz:∀ ds∈ys,ds.length=sz
 b:(xs.length+ys.length) * bytes<=140737488355328
 l:xs.length+ys.length<=maxLen
 k:K (xs++ys)
theorem ww2 (xs ys:List (List D))(sz bytes:Nat)(K:List (List D)->Prop):Bl xs ys sz bytes K=((∀ ds∈ys,ds.length=sz)/\(xs.length+ys.length) * bytes<=140737488355328/\xs.length+ys.length<=maxLen/\K (xs++ys)):=propext ⟨fun h=>⟨h.1,h.2,h.3,h.4⟩,fun h=>⟨h.1,h.2.1,h.2.2.1,h.2.2.2⟩⟩
structure IY (es:List (List D))(l h:Int)(sz:Nat)(K:List (List D)->Prop):Prop where
 lo:0<=l
 le:l<=h
 hi:h<=es.length
 sz:∀ ds∈es,ds.length=sz
 k:K ((es.take h.toNat).drop l.toNat)
theorem zx2 (es:List (List D))(l h:Int)(sz:Nat)(K:List (List D)->Prop):IY es l h sz K=(0<=l/\l<=h/\h<=es.length/\(∀ ds∈es,ds.length=sz)/\K ((es.take h.toNat).drop l.toNat)):=propext ⟨fun h=>⟨h.1,h.2,h.3,h.4,h.5⟩,fun h=>⟨h.1,h.2.1,h.2.2.1,h.2.2.2.1,h.2.2.2.2⟩⟩
structure IV (s:ByteArray)(l h:Int)(K:ByteArray->Prop):Prop where
 lo:0<=l
 le:l<=h
 hi:h<=s.size
 k:K (s.extract l.toNat h.toNat)
theorem qe2 (s:ByteArray)(l h:Int)(K:ByteArray->Prop):IV s l h K=(0<=l/\l<=h/\h<=s.size/\K (s.extract l.toNat h.toNat)):=propext ⟨fun h=>⟨h.1,h.2,h.3,h.4⟩,fun h=>⟨h.1,h.2.1,h.2.2.1,h.2.2.2⟩⟩
structure I5 (n m:Int)(bytes:Nat)(zs:List D)(K:List (List D)->Prop):Prop where
 lo:0<=n
 eq:n=m
 b:n.toNat * bytes<=140737488355328
 l:n<=maxLen
 k:K (List.replicate n.toNat zs)
theorem zp2 (n m:Int)(bytes:Nat)(zs:List D)(K:List (List D)->Prop):I5 n m bytes zs K=(0<=n/\n=m/\n.toNat * bytes<=140737488355328/\n<=maxLen/\K (List.replicate n.toNat zs)):=propext ⟨fun h=>⟨h.1,h.2,h.3,h.4,h.5⟩,fun h=>⟨h.1,h.2.1,h.2.2.1,h.2.2.2.1,h.2.2.2.2⟩⟩
structure oV (n:Int)(len:Nat)(K:Nat->Prop):Prop where
 lo:0<=n
 hi:n<len
 k:K n.toNat
theorem dg1 (n:Int)(len:Nat)(K:Nat->Prop):oV n len K=(0<=n/\n<len/\K n.toNat):=propext ⟨fun h=>⟨h.1,h.2,h.3⟩,fun h=>⟨h.1,h.2.1,h.2.2⟩⟩
structure IX (es:List (List D))(i j:Nat)(ds':List D)(K:List (List D)->Prop):Prop where
 hi:i<es.length
 k:∀ ds,es[i]?=some ds->K (es.set i (splice j ds' ds))
theorem qo2 (es:List (List D))(i j:Nat)(ds':List D)(K:List (List D)->Prop):IX es i j ds' K=(i<es.length/\∀ ds,es[i]?=some ds->K (es.set i (splice j ds' ds))):=propext ⟨fun h=>⟨h.1,h.2⟩,fun h=>⟨h.1,h.2⟩⟩
structure Gj (es:List (List D))(K:List (List D)->Prop):Prop where
 k:K es
theorem do1 (es:List (List D))(K:List (List D)->Prop):Gj es K=K es:=propext ⟨fun h=>h.1,fun h=>⟨h⟩⟩
structure IZ (es:List (List D))(n:Int)(K:Nat->Prop):Prop where
 lo:0<=n
 hi:n<es.length
 k:K n.toNat
theorem zk2 (es:List (List D))(n:Int)(K:Nat->Prop):IZ es n K=(0<=n/\n<es.length/\K n.toNat):=propext ⟨fun h=>⟨h.1,h.2,h.3⟩,fun h=>⟨h.1,h.2.1,h.2.2⟩⟩
structure sO (es:List (Value×List D))(k:Value)(ds:List D)(K:List (Value×List D)->Prop):Prop where
 k:K (wW es k ds)
theorem cl1 (es:List (Value×List D))(k:Value)(ds:List D)(K:List (Value×List D)->Prop):sO es k ds K=K (wW es k ds):=propext ⟨fun h=>h.1,fun h=>⟨h⟩⟩
structure wP (n0:Nat)(A B:List SV->List ak->(DX->List SV->List ak->Prop)->Prop)(env:List SV)(own:List ak)(K:DX->List SV->List ak->Prop):Prop where
 k:YX n0 A B env own K
theorem ez1 (n0:Nat)(A B:List SV->List ak->(DX->List SV->List ak->Prop)->Prop)(env:List SV)(own:List ak)(K:DX->List SV->List ak->Prop):wP n0 A B env own K=YX n0 A B env own K:=propext ⟨fun h=>h.1,fun h=>⟨h⟩⟩
noncomputable def Xk (own:List ak)(sz:Nat)(x i:SV)(K:SV->Prop):Prop :=
 match x,i with
 | .d (.sl es),.d (.val (.int _ n))=>xq es n sz K
 | .hd r,.d (.val (.int _ n))=>(match bG own r with | .row _ s es=>(match Nat.beq s sz with|true=>IZ es n (fun i=>K (.rp r s i 0))|false=>False)|_=>False)
 | .rs r s i,.d (.val (.int _ n))=>(match bG own r with
  | .row _ s' es=>(match Nat.beq s sz&&Nat.beq s' sz with|true=>NW es i n (fun _=>K (.rp r s' (io.Ih i n) 0))|false=>False)
  |_=>False)
 |_,_=>False
theorem ek1 (own:List ak)(sz:Nat)(x i:SV):Xk own sz x i=DK own sz x i:=by
 rw[<- V4];funext K;unfold Xk TT;simp only[jq,nX,zk2,dy1];rfl
noncomputable def Yb (own:List ak)(sz:Nat)(x v:SV)(K:List ak->Prop):Prop :=
 match x with
 | .ptr r k=>(match bG own r with
  | .cells cs ty=>(match v.flat&&(Nat.beq v.cells.length sz&&(v.cells.all SV.one&&Nat.ble (k+sz) cs.length)) with
   |true=>K (nC own r (.cells (splice k v.cells cs) ty))
   |false=>False)
  |_=>False)
 | .rp r s i j=>(match bG own r with
  | .row ty s' es=>(match Nat.beq s s'&&(v.flat&&(Nat.beq v.cells.length sz&&Nat.ble (j+sz) s)) with
   |true=>(match nD own v.cells with
    |some ds'=>IX es i j ds' (fun zs=>K (nC own r (.row ty s zs)))
    |none=>False)
   |false=>False)
  |_=>False)
 |_=>False
theorem km1 (own:List ak)(sz:Nat)(x v:SV):Yb own sz x v=Hg own sz x v:=by
 rw[<- kc1];funext K;unfold Yb Yh;simp only[qo2,YU,jq,nX];rfl
noncomputable def Zl (own:List ak)(ty sz n:Nat)(es:Option (List (List D)))(K:SV->List ak->Prop):Prop :=
 match es with
 |some es=>(match Nat.beq es.length n&&Nat.ble (n * sz) 16777216 with|true=>Gj es (fun zs=>K (.hd own.length) (own++[.row ty sz zs]))|false=>False)
 |none=>False
theorem lb1 (own:List ak)(ty sz n:Nat)(es:Option (List (List D))):Zl own ty sz n es=Ju own ty sz n es:=by
 rw[<- om0];funext K;unfold Zl WC;simp only[do1];rfl
noncomputable def Y8 (sz n:Nat)(es:Option (List (List D)))(R:SV->Prop):Prop :=
 match es with
 |some es=>(match Nat.beq es.length n&&Nat.ble (n * sz) 16777216 with|true=>Gj es (fun zs=>R (.d (.sl zs)))|false=>False)
 |none=>False
theorem uf1 (sz n:Nat)(es:Option (List (List D)))(R:SV->Prop):Y8 sz n es R=Yy sz n es R:=by
 unfold Y8 Yy;simp only[do1];rfl
noncomputable def YW (own:List ak)(ty sz bytes:Nat)(x:SV)(ys:Option (List (List D)))(K:SV->List ak->Prop):Prop :=
 match ys with
 |none=>False
 |some ys =>
  match x with
  | .d (.val (.slice none 0 0))=>Bl [] ys sz bytes (fun zs=>K (.hd own.length) (own++[.row ty sz zs]))
  | .hd r=>(match bG own r with
   | .row ty' sz' xs=>(match Nat.beq ty' ty&&Nat.beq sz' sz with
    |true=>Bl xs ys sz bytes (fun zs=>K (.hd own.length) (nC own r .gone++[.row ty sz zs]))
    |false=>False)
   |_=>False)
  |_=>False
theorem wy2 (own:List ak)(ty sz bytes:Nat)(x:SV)(ys:Option (List (List D))):YW own ty sz bytes x ys=KN own ty sz bytes x ys:=by
 rw[<- ed1];funext K;unfold YW Xr;simp only[ww2,du1,jq,nX,zN];rfl
noncomputable def VF (sz:Nat)(x:SV)(lo hi:Option SV)(K:SV->Prop):Prop :=
 match x with
 | .d (.sl es)=>(match bnd (.ofNat 0) lo,Xp es hi with
  |some l,some h=>IY es l h sz (fun zs=>K (.d (.sl zs)))
  |_,_=>False)
 |_=>False
theorem dw1 (sz:Nat)(x:SV)(lo hi:Option SV):VF sz x lo hi=BZ sz x lo hi:=by
 rw[<- V5];funext K;unfold VF Oq;simp only[zx2,dz1,jq,nX];rfl
noncomputable def V7 (x:SV)(lo hi:Option SV)(K:SV->Prop):Prop :=
 match x with
 | .d (.val (.string s))=>(match bnd (.ofNat 0) lo,Xf s hi with
  |some l,some h=>IV s l h (fun z=>K (.d (.val (.string z))))
  |_,_=>False)
 |_=>False
theorem dj1 (x:SV)(lo hi:Option SV):V7 x lo hi=Hy x lo hi:=by
 rw[<- Yp];funext K;unfold V7 VB;simp only[qe2,fi1,jq,nX];rfl
noncomputable def Wp (own:List ak)(ty sz bytes:Nat)(zs:Option (List D))(l k:SV)(K:SV->List ak->Prop):Prop :=
 match zs,l,k with
 |some zs,.d (.val (.int .i64 n)),.d (.val (.int .i64 m))=>(match Nat.beq zs.length sz with
  |true=>I5 n m bytes zs (fun es=>K (.hd own.length) (own++[.row ty sz es]))
  |false=>False)
 |_,_,_=>False
theorem zh2 (own:List ak)(ty sz bytes:Nat)(zs:Option (List D))(l k:SV):Wp own ty sz bytes zs l k=Hz own ty sz bytes zs l k:=by
 rw[<- cn1];funext K;unfold Wp TV;simp only[zp2,df1,jq,nX];rfl
noncomputable def V8 (len sz:Nat)(x i:SV)(K:SV->Prop):Prop :=
 match x,i with
 | .ptr r k,.d (.val (.int _ n))=>oV n len (fun i=>K (.ptr r (k+i * sz)))
 | .fp ds,.d (.val (.int _ n))=>oV n len (fun i=>K (.fp (ds.drop (i * sz))))
 |_,_=>False
theorem da1 (len sz:Nat)(x i:SV):V8 len sz x i=Hw len sz x i:=by
 rw[<- Yn];funext K;unfold V8 Vf;simp only[dg1,db1,jq,nX];rfl
noncomputable def Wi (len sz:Nat)(agg:Bool)(x i:SV)(K:SV->Prop):Prop :=
 match x,i with
 | .agg cs,.d (.val (.int _ n))=>oV n len (fun i=>fK (GR (i * sz) sz agg (.agg cs)) K)
 |_,_=>False
theorem dn1 (len sz:Nat)(agg:Bool)(x i:SV):Wi len sz agg x i=Gy len sz agg x i:=by
 funext K;unfold Wi Gy;simp only[dg1];rfl
structure IW (s:ByteArray)(n:Int)(K:Int->Prop):Prop where
 lo:0<=n
 hi:n<s.size
 k:∀ b:UInt8,s[n.toNat]?=some b->K b.toNat
theorem qi2 (s:ByteArray)(n:Int)(K:Int->Prop):IW s n K=(0<=n/\n<s.size/\∀ b:UInt8,s[n.toNat]?=some b->K b.toNat):=propext ⟨fun h=>⟨h.1,h.2,h.3⟩,fun h=>⟨h.1,h.2.1,h.2.2⟩⟩
noncomputable def Yg (x i:SV)(K:SV->Prop):Prop :=
 match x,i with
 | .d (.val (.string s)),.d (.val (.int _ n))=>IW s n (fun b=>K (.d (.val (.int .u8 b))))
 |_,_=>False
theorem kt1 (x i:SV):Yg x i=Ho x i:=by
 funext K;unfold Yg Ho;simp only[qi2];rfl
noncomputable def cd1 (own:List ak)(mk:MK)(agg:Bool)(x k v:SV)(K:List ak->Prop):Prop :=
 match x,k with
 | .hd r,.d (.val kv)=>(match bG own r with
  | .mp mk' agg' es=>(match decide (mk'=mk)&&((agg' == agg)&&(mk.ok kv&&(v.flat&&(v.isAgg == agg)))) with
   |true=>(match nD own v.cells with|some ds=>sO es kv ds (fun zs=>K (nC own r (.mp mk agg zs)))|none=>False)
   |false=>False)
  | .kC mk' es=>(match decide (mk'=mk)&&((false == agg)&&(mk.ok kv&&v.WS)) with|true=>K (nC own r (.kC mk (wW es kv v)))|false=>False)
  |_=>False)
 |_,_=>False
theorem cc1 (own:List ak)(mk:MK)(agg:Bool)(x k v:SV)(K:List ak->Prop):cd1 own mk agg x k v K=Py own mk agg x k v K:=by
 rw[<- dh1];unfold cd1 Wx;simp only[cl1,jq,nX];rfl
structure Ja (es:List (List D))(K:ByteArray->Prop):Prop where
 ex:∃ ns,numsOf es=some ns/\K (strOfNums ns)
theorem wk2 (es:List (List D))(K:ByteArray->Prop):Ja es K=∃ ns,numsOf es=some ns/\K (strOfNums ns):=propext ⟨fun h=>h.1,fun h=>⟨h⟩⟩
noncomputable def Xt (ys:Option (List (List D)))(K:SV->Prop):Prop :=
 match ys with
 |some es=>Ja es (fun s=>K (.d (.val (.string s))))
 |none=>False
theorem ec1 (ys:Option (List (List D))):Xt ys=GY ys:=by
 funext K;unfold Xt GY;simp only[wk2];rfl
structure Ce (es:List (List D))(h:Int)(K:List (List D)->Prop):Prop where
 h0:0<=h
 h1:h<=es.length
 k:K (es.take h.toNat)
theorem ew1 (es:List (List D))(h:Int)(K:List (List D)->Prop):Ce es h K=(0<=h/\h<=es.length/\K (es.take h.toNat)):=propext ⟨fun h=>⟨h.1,h.2,h.3⟩,fun h=>⟨h.1,h.2.1,h.2.2⟩⟩
noncomputable def Wj (own:List ak)(sz:Nat)(x:SV)(lo hi:Option SV)(K:SV->List ak->Prop):Prop :=
 match x with
 | .hd r=>(match bG own r with
  | .row ty s es=>(match lo,hi with
   |none,some (.d (.val (.int _ h)))=>Ce es h (fun zs=>K (.hd own.length) (nC own r .gone++[.row ty s zs]))
   |some (.d (.val (.int _ l))),none=>(match Nat.beq s sz with|true=>Cc es l (fun _=>K (.rs r s (io.nat l)) own)|false=>False)
   |_,_=>False)
  |_=>False)
 | .d d=>Vj own d lo hi K
 |_=>False
theorem zz2 (own:List ak)(sz:Nat)(x:SV)(lo hi:Option SV)(K:SV->List ak->Prop):Wj own sz x lo hi K=PD own sz x lo hi K:=by
 unfold Wj PD;simp only[ew1,ks1,jq,nX]
 cases x with
 |hd r =>
  dsimp only
  cases bG own r with
  |row ty s es=>rfl
  |_=>rfl
 |d d=>rfl
 |_=>rfl
noncomputable def RQ (P:Program)(d:jO)(env:List SV)(own:List ak)(K:SV->List ak->Prop):Prop :=
 match d with
 | .aQ sz x i=>Xk own sz (aA own env x) (aA own env i) (fun sv=>K sv own)
 | .eH n sz x i=>V8 n sz (aA own env x) (aA own env i) (fun sv=>K sv own)
 | .lD n sz agg x i=>Wi n sz agg (aA own env x) (aA own env i) (fun sv=>K sv own)
 | .uH x i=>Yg (aA own env x) (aA own env i) (fun sv=>K sv own)
 | .FY x=>Xt (src own (aA own env x)) (fun sv=>K sv own)
 | .store sz x v=>Yb (Ib own (aA own env x) (aA own env v)) sz (aA own env x) (aA (Ib own (aA own env x) (aA own env v)) env v) (fun own'=>K (.dO []) own')
 | .aU ty sz n _ ps=>Zl (mV own (ps.map fun p=>aA own env p.2)) ty sz n (wF (mV own (ps.map fun p=>aA own env p.2)) sz 0 (ps.map fun p=>(p.1,aA own env p.2))) K
 | .app ty sz bytes _ x y=>YW own ty sz bytes (aA own env x) (src own (aA own env y)) K
 | .slc sz x lo hi=>(match aA own env x with
  | .hd r=>N7 (fun _=>VF sz (aA (oq own (aA own env x)) env x) (lo.map (aA own env)) (hi.map (aA own env)) (fun sv=>K sv (oq own (aA own env x)))) (fun _=>Wj own sz (.hd r) (lo.map (aA own env)) (hi.map (aA own env)) K)
  | .d (.val (.slice none 0 0))=>Wj own sz (.d (.val (.slice none 0 0))) (lo.map (aA own env)) (hi.map (aA own env)) K
  |_=>VF sz (aA (oq own (aA own env x)) env x) (lo.map (aA own env)) (hi.map (aA own env)) (fun sv=>K sv (oq own (aA own env x))))
 | .uf x lo hi=>V7 (aA own env x) (lo.map (aA own env)) (hi.map (aA own env)) (fun sv=>K sv own)
 | .FZ ty sz bytes z x n=>Vh (aA own env x) (Wp own ty sz bytes (nD own (cval z).cells) (aA own env n) (aA own env n) K)
 | .Pq ty sz bytes z l k=>Wp own ty sz bytes (nD own (cval z).cells) (aA own env l) (aA own env k) K
 | .lq mk agg x k v=>cd1 (oq own (aA own env v)) mk agg (aA own env x) (Aq (aA own env k)) (aA (oq own (aA own env v)) env v) (fun own'=>K (.dO []) own')
 |d=>opC P d env own K
theorem bw1 (P:Program)(d:jO)(env:List SV)(own:List ak)(K:SV->List ak->Prop):RQ P d env own K=kJ P d env own K:=by
 rw[<- by1];cases d<;>first|rfl|(rw[by1];simp only[RQ,kJ,ek1,da1,dn1,kt1,ec1,km1,lb1,wy2,dw1,dj1,zh2,cc1,cm1,zz2,dx1])
 case slc sz x lo hi =>
  exact yx1 _ _ _ _ _ _ _
noncomputable def U7 (P:Program)(d:jO)(env:List SV)(own:List ak)(R:SV->Prop):Prop :=
 match d with
 | .aQ sz x i=>Xk own sz (aA own env x) (aA own env i) R
 | .eH n sz x i=>V8 n sz (aA own env x) (aA own env i) R
 | .lD n sz agg x i=>Wi n sz agg (aA own env x) (aA own env i) R
 | .uH x i=>Yg (aA own env x) (aA own env i) R
 | .FY x=>Xt (src own (aA own env x)) R
 | .slc sz x lo hi=>VF sz (aA own env x) (lo.map (aA own env)) (hi.map (aA own env)) R
 | .uf x lo hi=>V7 (aA own env x) (lo.map (aA own env)) (hi.map (aA own env)) R
 | .aU _ sz n _ ps=>Y8 sz n (wF own sz 0 (ps.map fun p=>(p.1,aA own env p.2))) R
 |d=>U8 P d env own R
theorem ZT (P:Program)(d:jO)(env:List SV)(own:List ak)(R:SV->Prop):U7 P d env own R=tC P d env own R:=by
 rw[<- yf2];cases d<;>first|rfl|(simp only[U7,U8,ek1,da1,dn1,kt1,ec1,dw1,dj1,uf1,V4,Yn,V5,Yp])
noncomputable def Jh (P:Program):List ah->List SV->List ak->(List SV->List ak->Prop)->Prop
 |[],env,own,K=>K env own
 |g::l,env,own,K =>
  JG g.guard env (fun env=>RQ P g.op env own (fun sv own'=>Jh P l (jk env g.dst sv) own' K)) (fun env=>Jh P l (jk env g.dst (.dO [])) own K)
theorem WZ (P:Program)(l:List ah):∀ (env:List SV)(own:List ak)(K:List SV->List ak->Prop),Jh P l env own K=run P l env own K:=by
 induction l with
 |nil=>intro env own K;rfl
 |cons g l ih=>intro env own K;simp only[Jh,run,Qm,bw1,ih]
noncomputable def Jf (P:Program):List ah->List SV->List ak->(List SV->Prop)->Prop
 |[],env,_,K=>K env
 |g::l,env,own,K =>
  JG g.guard env (fun env=>U7 P g.op env own (fun sv=>Jf P l (jk env g.dst sv) own K)) (fun env=>Jf P l (jk env g.dst (.dO [])) own K)
theorem Z4 (P:Program)(l:List ah):∀ (env:List SV)(own:List ak)(K:List SV->Prop),Jf P l env own K=xO P l env own K:=by
 induction l with
 |nil=>intro env own K;rfl
 |cons g l ih=>intro env own K;simp only[Jf,xO,Qm,ZT,ih]
noncomputable def KY (P:Program):List ah->List SV->List ak->(List SV->List ak->Prop)->Prop
 |[],env,own,K=>K env own
 |g::l,env,own,K =>
  match g.isApp with
  |true=>match Qu g.op (aA own env) with
   |true=>RQ P g.op env own (fun sv own'=>KY P l (jk env g.dst sv) own' K)
   |false=>False
  |false=>JG g.guard env (fun env=>U7 P g.op env (lC own) (fun sv=>KY P l (jk env g.dst sv) own K)) (fun env=>KY P l (jk env g.dst (.dO [])) own K)
theorem gc1 (P:Program)(l:List ah):∀ (env:List SV)(own:List ak)(K:List SV->List ak->Prop),KY P l env own K=DN P l env own K:=by
 induction l with
 |nil=>intro env own K;rfl
 |cons g l ih =>
  intro env own K;simp only[KY,DN,Qm,bw1,ZT,ih];cases g.isApp
  ·rfl
  ·cases Qu g.op (aA own env)<;>rfl
structure I7 (A:(Nat->Bool)->Prop):Prop where
 ex:∃ M,A M
theorem zr2 (A:(Nat->Bool)->Prop):I7 A=∃ M,A M:=propext ⟨fun h=>h.1,fun h=>⟨h⟩⟩
theorem I7.g (l:List Nat){A:(Nat->Bool)->Prop}(h:A (fun r=>l.any (Nat.beq r))):I7 A:=⟨_,h⟩
noncomputable def Rt (M:Nat->Bool):Nat->List ak->List ak
 |_,[]=>[]
 |k,x::l=>kK M k x::Rt M (k+1) l
theorem ol1 (M:Nat->Bool)(own:List ak):Rt M 0 own=qh M own:=by
 have:∀ (own:List ak) k,Rt M k own=own.mapIdx fun i x=>kK M (k+i) x:=by
  intro own
  induction own with
  |nil=>intro k;rfl
  |cons x l ih=>intro k;rw[Rt,ih,List.mapIdx_cons];simp[Nat.add_assoc,Nat.add_comm 1]
 rw[this,qh];simp
noncomputable def OU (P:Program)(M:Nat->Bool):List ah->List SV->List ak->(List SV->List ak->Prop)->Prop
 |[],env,own,K=>K env own
 |g::l,env,own,K =>
  match g.op with
  | .store sz x v=>(match g.guard with
   |none=>(match aA own env x with
    | .ptr r k=>(match M r with
     |true=>Yb own sz (.ptr r k) (aA own env v) (fun own'=>OU P M l (jk env g.dst (.dO [])) own' K)
     |false=>False)
    |_=>False)
   |some _=>False)
  |_=>JG g.guard env (fun env=>U7 P g.op env (Rt M 0 own) (fun sv=>OU P M l (jk env g.dst sv) own K)) (fun env=>OU P M l (jk env g.dst (.dO [])) own K)
theorem iu1 (P:Program)(M:Nat->Bool)(l:List ah):∀ (env:List SV)(own:List ak)(K:List SV->List ak->Prop),OU P M l env own K=GZ P M l env own K:=by
 induction l with
 |nil=>intro env own K;rfl
 |cons g l ih =>
  intro env own K;unfold OU GZ;simp only[Qm,ZT,km1,ol1,ih]
  cases g.op with
  |store sz x v =>
   dsimp only
   cases g.guard with
   |some q=>simp
   |none =>
    dsimp only
    cases aA own env x with
    |ptr r k=>cases hM:M r<;>simp[hM]
    |_=>simp
  |_=>rfl
noncomputable def Xg (P:Program)(gl:List ah)(env:List SV)(own:List ak)(K:List SV->List ak->Prop):Option (Nat×MK×Bool)->Prop
 |none=>Jh P gl env own K
 |some (d,mk,agg)=>Jh P gl (jk env (some d) (.hd own.length)) (own++[.mp mk agg []]) K
theorem oq1 (P:Program)(gl:List ah)(env:List SV)(own:List ak)(K:List SV->List ak->Prop)(om:Option (Nat×MK×Bool)):Xg P gl env own K om=runM P gl env own K om:=by
 cases om with
 |none=>simp only[Xg,runM,WZ]
 |some x=>obtain⟨d,mk,agg⟩:=x;simp only[Xg,runM,WZ]
noncomputable def pR (P:Program)(n0:Nat):DE->List SV->List ak->(DX->List SV->List ak->Prop)->Prop
 | .skip,env,own,K=>K .normal env own
 | .reg gs,env,own,K=>Jh P gs env own (fun env own=>K .normal env own)
 | .par _ _ _ _ gs,env,own,K=>(match gs.any ah.rW with
  |true=>(match uF env.length gs with
   |true=>Jf P (gs.map ah.blank) env own (fun env'=>yG gs env' own gs env' own (fun env own=>K .normal env own))
   |false=>False)
  |false=>Jf P gs env own (fun env=>K .normal env own))
 | .hys _ _ _ gs,env,own,K=>I7 (fun M=>OU P M gs env own (fun env own=>K .normal env own))
 | .hyb _ _ _ gs,env,own,K=>(match uF env.length gs with
  |true=>KY P (gs.map ah.blank) env own (fun env' own'=>yG gs env' own' gs env' own' (fun env own=>K .normal env own))
  |false=>False)
 | .hyl _ _ _ gs gl,env,own,K=>(match uF env.length gs with
  |true=>KY P (gs.map ah.blank) env own (fun env' own'=>yG gs env' own' gs env' own' (fun env own=>RQ P gl.op env own (fun sv own=>K .normal (jk env gl.dst sv) own)))
  |false=>False)
 | .sfx _ _ _ gs gl,env,own,K=>Jf P gs env own (fun env'=>Jh P gl env' own (fun env own=>K .normal env own))
 | .Ro _ _ _ m gs gl,env,own,K=>(match OC gs m with
  |true=>Jf P (sV gs m) env own (fun env'=>Xg P gl env' own (fun env own=>K .normal env own) (wV gs m))
  |false=>False)
 | .seq a b,env,own,K=>pR P n0 a env own (fun e env' own'=>match e with | .normal=>pR P n0 b env' own' K|e=>K e env' own')
 | .cond c x y,env,own,K=>WB (aA own env c) (fun _=>pR P n0 x env own K) (fun _=>pR P n0 y env own K)
 | .block id c,env,own,K=>pR P n0 c env own (fun e env' own'=>match e with | .exit id'=>(match Nat.beq id' id with|true=>K .normal env' own'|false=>K (.exit id') env' own')|e=>K e env' own')
 | .loop c,env,own,K=>uY n0 (pR P n0 c) env own K
 | .exit id,env,own,K=>K (.exit id) env own
 | .ret,env,own,K=>K .ret env own
 | .join a b,env,own,K=>wP n0 (pR P n0 a) (pR P n0 b) env own K
theorem xo2 (P:Program)(n0:Nat)(c:DE):pR P n0 c=pU P n0 c:=by
 induction c with
 |skip=>rfl
 |reg gs=>funext env own K;simp only[pR,pU,WZ]
 |par hy hl hs tl gs =>
  funext env own K;simp only[pR,pU,Z4]
  cases gs.any ah.rW with
  |false=>rfl
  |true =>
   cases uF env.length gs with
   |false=>rfl
   |true=>rfl
 |seq a b iha ihb =>
  funext env own K;simp only[pR,pU,iha,ihb];congr 1
 |cond c x y wL ihy=>funext env own K;simp only[pR,pU,de1,wL,ihy]
 |block id c ih =>
  funext env own K;simp only[pR,pU,ih];congr 1;funext e env' own'
  cases e with
  |exit id' =>
   simp only;cases h:Nat.beq id' id
   ·simp[BX h]
   ·simp[vY h]
  |_=>rfl
 |hys hy hl tl gs=>funext env own K;simp only[pR,pU,zr2,iu1]
 |hyb hl hs tl gs =>
  funext env own K;simp only[pR,pU,gc1]
  cases uF env.length gs with
  |false=>rfl
  |true=>rfl
 |hyl hy hs tl gs gl =>
  funext env own K;simp only[pR,pU,gc1,bw1]
  cases uF env.length gs with
  |false=>rfl
  |true=>rfl
 |sfx hy hl hs gs gl=>funext env own K;simp only[pR,pU,Z4,WZ]
 |Ro hy hl hs m gs gl =>
  funext env own K;simp only[pR,pU,Z4,oq1];cases OC gs m<;>rfl
 |loop c ih=>funext env own K;simp only[pR,pU,ih,kl1]
 |exit id=>rfl
 |ret=>rfl
 |join a b iha ihb=>funext env own K;simp only[pR,pU,iha,ihb,ez1]
theorem Ya {P:Program}{f:FuncId}{df:fJ}{own:List ak}{args:List SV}{K:SV->List ak->Prop}(hf:fD P f=some df.er)
  (h:pR P own.length df.code (pad df.ntmps args) own (Dc df.res K)):dX P f own args K:=vl1 hf (by rw[<- xo2];exact h)
theorem dX.mJ {P:Program}{f:FuncId}{df:fJ}{args:List SV}{K0:SV->List ak->Prop}(hf:fD P f=some df.er)
  (h:∀ K:SV->List ak->Prop,(∀ sv own',K0 sv own'->K sv own')->pR P 0 df.code (pad df.ntmps args) [] (Dc df.res K)):dX P f [] args K0:=Ya hf (h K0 fun _ _ h=>h)
end Go.SX
