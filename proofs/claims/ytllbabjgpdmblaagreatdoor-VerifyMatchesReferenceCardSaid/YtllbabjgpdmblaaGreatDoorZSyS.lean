/- Parts of the proof. -/
import Derived.Test.YtllbabjgpdmblaaGreatDoorZSyR
set_option linter.unusedSimpArgs false
set_option linter.unusedVariables false
set_option linter.unusedSectionVars false
namespace Go.SX
open Go
variable [Tabs]
theorem Y9 : Nonempty { f:(α:Type)->(α->List D)->List α->List (List D) // f=fun _ e l=>l.map e }:=⟨⟨_,rfl⟩⟩
noncomputable def W {α:Type}(e:α->List D)(l:List α):List (List D):=(Classical.choice Y9).1 α e l
theorem og {α:Type}(e:α->List D)(l:List α):W e l=l.map e:=by unfold W;rw[(Classical.choice Y9).2]
theorem rX {α:Type}(e:α->List D)(l:List α):(W e l).length=l.length:=by rw[og,qY]
theorem zZ {α:Type}(e:α->List D):W e []=[]:=by rw[og];rfl
theorem DZ {α:Type}(e:α->List D):(Classical.choice Y9).1 α e []=[]:=zZ e
theorem jP {α:Type}(e:α->List D):[]=W e []:=(zZ e).symm
theorem om2 : Nonempty { f:(κ α:Type)->(κ->Value)->(α->List D)->List (κ×α)->List (Value×List D) // f=fun _ _ kw e l=>l.map fun p=>(kw p.1,e p.2) }:=⟨⟨_,rfl⟩⟩
noncomputable def WM {κ α:Type}(kw:κ->Value)(e:α->List D)(l:List (κ×α)):List (Value×List D):=(Classical.choice om2).1 κ α kw e l
theorem Vx {κ α:Type}(kw:κ->Value)(e:α->List D)(l:List (κ×α)):WM kw e l=l.map fun p=>(kw p.1,e p.2):=by unfold WM;rw[(Classical.choice om2).2]
theorem Yd {κ α:Type}(kw:κ->Value)(e:α->List D):WM kw e []=[]:=by rw[Vx];rfl
theorem IK {κ α:Type}(kw:κ->Value)(e:α->List D):(Classical.choice om2).1 κ α kw e []=[]:=Yd kw e
theorem GK {κ α:Type}(kw:κ->Value)(e:α->List D):[]=WM kw e []:=(Yd kw e).symm
def xR {κ α:Type}[DecidableEq κ]:List (κ×α)->κ->Option α
 |[],_=>none
 |(k',v)::l,k=>if k=k' then some v else xR l k
def sW {κ α:Type}[DecidableEq κ]:List (κ×α)->κ->α->List (κ×α)
 |[],k,v=>[(k,v)]
 |(k',v')::l,k,v=>if k=k' then (k,v)::l else (k',v')::sW l k v
def nI {κ α:Type}[DecidableEq κ](m:List (κ×α))(k:κ)(z:α):α:=(xR m k).getD z
def optG {α ρ:Type}(o:Option α)(F:α->Option ρ)(G:Option ρ):Option ρ:=match o with|some x=>F x|none=>G
theorem Q8 {κ α:Type}[DecidableEq κ]{kw:κ->Value}{e:α->List D}(hkw:∀ a b,pK (kw a) (kw b)=decide (a=b))(k:κ):∀ m:List (κ×α),lI (WM kw e m) (kw k)=(xR m k).map e
 |[]=>by rw[Yd];rfl
 |(k',v)::l=>by
  have ih:=Q8 (e:=e) hkw k l;rw[Vx] at ih ⊢;simp only[zC,lI,xR,hkw];by_cases h:k=k'<;>simp[h,ih]
theorem WW {κ α:Type}[DecidableEq κ]{kw:κ->Value}{e:α->List D}(hkw:∀ a b,pK (kw a) (kw b)=decide (a=b))(k:κ)(v:α):∀ m:List (κ×α),wW (WM kw e m) (kw k) (e v)=WM kw e (sW m k v)
 |[]=>by rw[Yd,Vx];rfl
 |(k',v')::l=>by
  have ih:=WW (e:=e) hkw k v l;rw[Vx,Vx] at ih ⊢;simp only[zC,wW,sW,hkw];by_cases h:k=k'<;>simp[h,ih]
theorem Y5 (q:IntKind)(a b:Int):pK (.int q a) (.int q b)=decide (a=b):=by simp[pK]
theorem Y0 (a b:ByteArray):pK (.string a) (.string b)=decide (a=b):=by
 simp only[pK];congr 1;simp only[eq_iff_iff]
 constructor
 ·intro h;cases a;cases b;simp_all
 ·rintro rfl;rfl
section plain
variable {α β σ τ ρ:Type}
def bU (xs:List α)(n:Int):Option α:=if 0<=n then xs[n.toNat]? else none
def oL (xs:List α)(n:Int):Option Nat:=if 0<=n/\n<xs.length then some n.toNat else none
def oh (len:Nat)(n:Int):Option Nat:=if 0<=n/\n<len then some n.toNat else none
def BF (xs:List α)(a b:Int):Option (List α):=if 0<=a/\a<=b/\b<=xs.length then some ((xs.take b.toNat).drop a.toNat) else none
def Rf (s:ByteArray)(a b:Int):Option ByteArray:=if 0<=a/\a<=b/\b<=s.size then some (s.extract a.toNat b.toNat) else none
def appG (xs ys:List α):Option (List α):=if xs.length+ys.length<=1000000000 then some (xs++ys) else none
def U4 (n:Int)(z:α):Option (List α):=if 0<=n/\n<=1000000000 then some (List.replicate n.toNat z) else none
def QU (xs:List α)(i:Nat)(g:α->α):Option (List α):=match xs[i]? with|some x=>some (xs.set i (g x))|none=>none
def yg2 (s:ByteArray)(n:Int):Option Int:=if 0<=n/\n<s.size then (s[n.toNat]?).map fun b=>(b.toNat:Int) else none
open Classical in
noncomputable def RX (xs:List α)(F:Bool->Option ρ):Option ρ:=match xs with|[]=>if F true=F false then F false else none|_::_=>F false
def gh2 (xs:List α)(n:Int):Option (List α):=if 0<=n/\n<=xs.length then some (xs.take n.toNat) else none
def Vt (b:Int):Option Unit:=if b=0 then none else some ()
def gu (m:Option (τ ⊕ ρ))(k:τ->Option ρ):Option ρ:=m.bind fun y=>match y with | .inl t=>k t | .inr r=>some r
def runN (step:σ->Option (σ ⊕ τ)):Nat->σ->Option τ
 |0,_=>none
 |n+1,s=>match step s with
  |none=>none
  |some (.inl s')=>runN step n s'
  |some (.inr t)=>some t
open Classical in
noncomputable def dw (step:σ->Option (σ ⊕ τ))(s:σ):Option τ:=if h:∃ t,∃ n,runN step n s=some t then some h.choose else none
theorem gm1 (step:σ->Option (σ ⊕ τ)):∀ (n m:Nat)(s:σ)(t u:τ),runN step n s=some t->runN step m s=some u->t=u
 |0,_,_,_,_,h,_=>by cases h
 |_+1,0,_,_,_,_,h=>by cases h
 |n+1,m+1,s,t,u,h,h'=>by
  simp only[runN] at h h'
  cases hs:step s with
  |none=>rw[hs] at h;cases h
  |some x =>
   rw[hs] at h h'
   cases x with
   |inl s'=>exact gm1 step n m s' t u h h'
   |inr t'=>simp at h h';rw[<- h,<- h']
theorem an0 {step:σ->Option (σ ⊕ τ)}{s:σ}{t:τ}:dw step s=some t↔∃ n,runN step n s=some t:=by
 unfold dw
 constructor
 ·intro h;split at h
  ·rename_i hx;simp at h;rw[<- h];exact hx.choose_spec
  ·cases h
 ·rintro ⟨n,hn⟩;have hx:∃ t,∃ n,runN step n s=some t:=⟨t,n,hn⟩;rw[dif_pos hx];obtain⟨m,hm⟩:=hx.choose_spec;rw[gm1 step m n s _ _ hm hn]
theorem xM (step:σ->Option (σ ⊕ τ))(s:σ):dw step s=match step s with|none=>none|some (.inl s')=>dw step s'|some (.inr t)=>some t:=by
 apply Option.ext;intro t;rw[an0]
 cases hs:step s with
 |none =>
  simp only[reduceCtorEq,iff_false];rintro ⟨n,hn⟩
  cases n with
  |zero=>cases hn
  |succ n=>simp[runN,hs] at hn
 |some x =>
  cases x with
  |inl s' =>
   simp only[an0]
   constructor
   ·rintro ⟨n,hn⟩
    cases n with
    |zero=>cases hn
    |succ n=>simp only[runN,hs] at hn;exact⟨n,hn⟩
   ·rintro ⟨n,hn⟩;exact⟨n+1,by simp only[runN,hs];exact hn⟩
  |inr t' =>
   simp only[zI]
   constructor
   ·rintro ⟨n,hn⟩
    cases n with
    |zero=>cases hn
    |succ n=>simpa [runN,hs] using hn
   ·rintro rfl;exact⟨1,by simp only[runN,hs]⟩
end plain
theorem uY.g {σ τ:Type}{step:σ->Option (σ ⊕ τ)}{s0:σ}{r:τ}{n0:Nat}{body:List SV->List ak->(DX->List SV->List ak->Prop)->Prop}{env:List SV}{own:List ak}{K:DX->List SV->List ak->Prop}
  (h:dw step s0=some r) (S:σ->List SV) (O:σ->List ak) (h0:jM n0 env own (S s0) (O s0))
  (hb:∀ s x,step s=some x->(∀ t,x=.inr t->t=r)->∀ Kn:List SV->List ak->Prop,(∀ s' env' own',x=.inl s'->jM n0 env' own' (S s') (O s')->Kn env' own')->body (S s) (O s) (fun e env' own'=>match e with | .normal=>Kn env' own'|e=>K e env' own')) :
  uY n0 body env own K:=by
 have hφ:∀ s,dw step s=some r->∃ n,runN step n s=some r:=fun s hs=>an0.1 hs
 classical
 refine⟨σ,S,O,(fun s=>dw step s=some r),(fun s=>if hs:∃ n,runN step n s=some r then Classical.choose (exists_least _ hs) else 0),⟨s0,h,h0⟩,fun s hs=>?_⟩
 replace hs:dw step s=some r:=hs
 rw[xM] at hs;have hs0:∃ n,runN step n s=some r:=hφ s (by rw[xM];exact hs)
 cases hx:step s with
 |none=>rw[hx] at hs;cases hs
 |some x =>
  rw[hx] at hs;refine hb s x hx (fun t ht=>by subst ht;simpa using hs) _ fun s' env' own' hs' hle=>?_
  subst hs';refine⟨s',hs,?_,hle⟩;have hs1:=hφ s' hs;show (if hs:∃ n,runN step n s'=some r then Classical.choose (exists_least _ hs) else 0)<(if hs:∃ n,runN step n s=some r then Classical.choose (exists_least _ hs) else 0);rw[dif_pos hs1,dif_pos hs0];obtain⟨k1,k2⟩:=Classical.choose_spec (exists_least _ hs1);obtain⟨m1,m2⟩:=Classical.choose_spec (exists_least _ hs0);generalize Classical.choose (exists_least _ hs0)=m at m1 m2 ⊢;generalize Classical.choose (exists_least _ hs1)=k at k1 k2 ⊢
  cases m with
  |zero=>cases m1
  |succ m =>
   simp only[runN,hx] at m1;have:=k2 m m1;omega
theorem wP.g {τ ρ:Type}{m:Option τ}{k:τ->Option ρ}{r:ρ}{n0:Nat}{A B:List SV->List ak->(DX->List SV->List ak->Prop)->Prop}{env:List SV}{own:List ak}{K:DX->List SV->List ak->Prop}
  (h:m.bind k=some r) (S:τ->List SV) (O:τ->List ak)
  (ha:∀ t,m=some t->∀ Kn:List SV->List ak->Prop,(∀ t' env' own',t=t'->jM n0 env' own' (S t') (O t')->Kn env' own')->A env own (fun e env' own'=>match e with | .normal=>Kn env' own'|e=>K e env' own'))
  (hb:∀ t,k t=some r->B (S t) (O t) K):wP n0 A B env own K:=by
 cases hm:m with
 |none=>rw[hm] at h;cases h
 |some t =>
  rw[hm] at h;exact⟨⟨τ,S,O,fun t=>k t=some r,ha t hm _ (fun t' env' own' e hle=>⟨t,h,e▸hle⟩),hb⟩⟩
theorem wP.ga {τ ρ:Type}{m:Option (τ ⊕ ρ)}{k:τ->Option ρ}{r:ρ}{n0:Nat}{A B:List SV->List ak->(DX->List SV->List ak->Prop)->Prop}{env:List SV}{own:List ak}{K:DX->List SV->List ak->Prop}
  (h:gu m k=some r) (S:τ->List SV) (O:τ->List ak)
  (ha:∀ y,m=some y->(∀ r',y=.inr r'->r'=r)->∀ Kn:List SV->List ak->Prop,(∀ t env' own',y=.inl t->jM n0 env' own' (S t) (O t)->Kn env' own')->A env own (fun e env' own'=>match e with | .normal=>Kn env' own'|e=>K e env' own'))
  (hb:∀ t,k t=some r->B (S t) (O t) K):wP n0 A B env own K:=by
 cases hm:m with
 |none=>rw[hm] at h;cases h
 |some y =>
  rw[hm] at h;refine⟨⟨τ,S,O,fun t=>k t=some r,ha y hm (fun r' e=>by subst e;simpa [gu] using h) _ (fun t env' own' e hle=>⟨t,by subst e;simpa [gu] using h,hle⟩),hb⟩⟩
theorem aG {ρ:Type}{b:Bool}{x y:Option ρ}{r:ρ}{A B:Prop}:(bif b then x else y)=some r->(x=some r->A)->(y=some r->B)->(match b with|true=>A|false=>B):=by
 cases b
 ·exact fun h _ hB=>hB h
 ·exact fun h hA _=>hA h
section rules
variable {α ρ:Type}{e:α->List D}{r:ρ}
theorem xq.g {xs:List α}{n:Int}{sz:Nat}{k:α->Option ρ}{K:SV->Prop}(h:(bU xs n).bind k=some r)(hsz:∀ x,(e x).length=sz)(hk:∀ x,k x=some r->K (.fp (e x))):xq (W e xs) n sz K:=by
 unfold bU at h;split at h
 ·rename_i h0
  cases hx:xs[n.toNat]? with
  |none=>rw[hx] at h;cases h
  |some x =>
   rw[hx] at h;have hlt:=(qA.1 hx).1;refine⟨h0,by rw[rX];omega,fun ds hd=>?_⟩;rw[og,qF,hx] at hd;simp at hd;subst hd;exact⟨hsz x,hk x h⟩
 ·cases h
theorem IZ.g {xs:List α}{n:Int}{k:Nat->Option ρ}{K:Nat->Prop}(h:(oL xs n).bind k=some r)(hk:∀ i,k i=some r->K i):IZ (W e xs) n K:=by
 unfold oL at h;split at h
 ·rename_i h0;exact⟨h0.1,by rw[rX];exact h0.2,hk _ h⟩
 ·cases h
theorem A8.g {xs:List α}{i:Nat}{k:α->Option ρ}{K:List D->Prop}(h:(xs[i]?).bind k=some r)(hk:∀ x,k x=some r->K (e x)):A8 (W e xs) i K:=by
 cases hx:xs[i]? with
 |none=>rw[hx] at h;cases h
 |some x =>
  rw[hx] at h;have hlt:=(qA.1 hx).1;refine⟨by rw[rX];exact hlt,fun ds hd=>?_⟩;rw[og,qF,hx] at hd;simp at hd;subst hd;exact hk x h
theorem IX.g {xs:List α}{i j:Nat}{ds':List D}{g:α->α}{k:List α->Option ρ}{K:List (List D)->Prop}(h:(QU xs i g).bind k=some r)(hg:∀ x,e (g x)=splice j ds' (e x))(hk:∀ zs,k zs=some r->K (W e zs)):IX (W e xs) i j ds' K:=by
 unfold QU at h
 cases hx:xs[i]? with
 |none=>rw[hx] at h;cases h
 |some x =>
  rw[hx] at h;have hlt:=(qA.1 hx).1;refine⟨by rw[rX];exact hlt,fun ds hd=>?_⟩;rw[og,qF,hx] at hd;simp at hd;subst hd;rw[<- hg x];have:(W e xs).set i (e (g x))=W e (xs.set i (g x)):=by rw[og,og,List.map_set]
  rw[this];exact hk _ h
theorem oV.cs {n:Int}{len:Nat}{k:Nat->Option ρ}{K:Nat->Prop}(h:(oh len n).bind k=some r)(hk:∀ i:Nat,i<len->n=(i:Int)->k i=some r->K i):oV n len K:=by
 unfold oh at h;split at h
 ·rename_i h0;exact⟨h0.1,h0.2,hk _ (by omega) (by omega) h⟩
 ·cases h
theorem oV.at {n:Int}{len:Nat}{K:Nat->Prop}(i:Nat)(hn:n=(i:Int))(hi:i<len)(hk:K i):oV n len K:=⟨by omega,by omega,by subst hn;simpa using hk⟩
theorem oV.c2 {n:Int}{k:Nat->Option ρ}{K:Nat->Prop}(h:(oh 2 n).bind k=some r)(h0:n=0->k 0=some r->K 0)(h1:n=1->k 1=some r->K 1):oV n 2 K :=
 .cs h fun i hi he hk=>match i,hi,he,hk with|0,_,e,h=>h0 e h|1,_,e,h=>h1 e h
theorem oV.c10 {n:Int}{k:Nat->Option ρ}{K:Nat->Prop}(h:(oh 10 n).bind k=some r)(h0:n=0->k 0=some r->K 0)(h1:n=1->k 1=some r->K 1)(h2:n=2->k 2=some r->K 2)(h3:n=3->k 3=some r->K 3)(h4:n=4->k 4=some r->K 4)(h5:n=5->k 5=some r->K 5)(h6:n=6->k 6=some r->K 6)(h7:n=7->k 7=some r->K 7)(h8:n=8->k 8=some r->K 8)(h9:n=9->k 9=some r->K 9):oV n 10 K :=
 .cs h fun i hi he hk=>match i,hi,he,hk with|0,_,e,h=>h0 e h|1,_,e,h=>h1 e h|2,_,e,h=>h2 e h|3,_,e,h=>h3 e h|4,_,e,h=>h4 e h|5,_,e,h=>h5 e h|6,_,e,h=>h6 e h|7,_,e,h=>h7 e h|8,_,e,h=>h8 e h|9,_,e,h=>h9 e h
theorem oV.lit {n:Int}{len:Nat}{K:Nat->Prop}(i:Nat)(h:n=(i:Int))(hi:i<len)(hk:K i):oV n len K:=⟨by omega,by omega,by subst h;simpa using hk⟩
theorem I8.g {b:Int}{k:Unit->Option ρ}{K:Unit->Prop}(h:(Vt b).bind k=some r)(hk:k ()=some r->K ()):I8 b K:=by
 unfold Vt at h;split at h
 ·cases h
 ·rename_i hb;exact⟨hb,hk h⟩
theorem Ce.g {xs:List α}{n:Int}{k:List α->Option ρ}{K:List (List D)->Prop}(h:(gh2 xs n).bind k=some r)(hk:∀ zs,k zs=some r->K (W e zs)):Ce (W e xs) n K:=by
 unfold gh2 at h;split at h
 ·rename_i hn;refine⟨hn.1,by rw[rX];exact hn.2,?_⟩;have:=hk _ h;rw[og] at this ⊢
  rwa [<- List.map_take]
 ·cases h
theorem F6.g {xs:List α}{F:Bool->Option ρ}{K:Bool->Prop}(h:RX xs F=some r)(hK:∀ b,F b=some r->K b):F6 (W e xs) K:=by
 cases xs with
 |nil =>
  simp only[RX] at h;split at h
  ·rename_i he;exact⟨fun _=>hK true (he.trans h),hK false h⟩
  ·cases h
 |cons x l=>exact⟨fun h0=>by have:=congrArg List.length h0;simp[rX] at this,hK false h⟩
theorem IY.g {xs:List α}{a b:Int}{sz:Nat}{k:List α->Option ρ}{K:List (List D)->Prop}(h:(BF xs a b).bind k=some r)(hsz:∀ x,(e x).length=sz)(hk:∀ zs,k zs=some r->K (W e zs)):IY (W e xs) a b sz K:=by
 unfold BF at h;split at h
 ·rename_i h0;refine⟨h0.1,h0.2.1,by rw[rX];exact h0.2.2,fun ds hd=>?_,?_⟩
  ·rw[og] at hd;obtain⟨x,_,rfl⟩:=zJ.1 hd;exact hsz x
  ·have:((W e xs).take b.toNat).drop a.toNat=W e ((xs.take b.toNat).drop a.toNat):=by rw[og,og,List.map_drop,List.map_take]
   rw[this];exact hk _ h
 ·cases h
theorem IV.g {s:ByteArray}{a b:Int}{k:ByteArray->Option ρ}{K:ByteArray->Prop}(h:(Rf s a b).bind k=some r)(hk:∀ z,k z=some r->K z):IV s a b K:=by
 unfold Rf at h;split at h
 ·rename_i h0;exact⟨h0.1,h0.2.1,h0.2.2,hk _ h⟩
 ·cases h
theorem Bl.g {xs ys:List α}{d:List (List D)}{sz bytes:Nat}{k:List α->Option ρ}{K:List (List D)->Prop}(h:(appG xs ys).bind k=some r)(hd:d=W e ys)(hsz:∀ x,(e x).length=sz)(hb:bytes<=100000)(hk:∀ zs,k zs=some r->K (W e zs)) :
  Bl (W e xs) d sz bytes K:=by
 unfold appG at h;split at h
 ·rename_i h0;subst hd;refine⟨fun ds hd=>?_,?_,?_,?_⟩
  ·rw[og] at hd;obtain⟨x,_,rfl⟩:=zJ.1 hd;exact hsz x
  ·rw[rX,rX];exact Nat.le_trans (Nat.mul_le_mul h0 hb) (by decide)
  ·rw[rX,rX,maxLen];omega
  ·have:W e xs++W e ys=W e (xs++ys):=by rw[og,og,og,List.map_append]
   rw[this];exact hk _ h
 ·cases h
theorem Bl.g0 {ys:List α}{d:List (List D)}{sz bytes:Nat}{k:List α->Option ρ}{K:List (List D)->Prop}(h:(appG [] ys).bind k=some r)(hd:d=W e ys)(hsz:∀ x,(e x).length=sz)(hb:bytes<=100000)(hk:∀ zs,k zs=some r->K (W e zs)) :
  Bl [] d sz bytes K:=by
 rw[jP e];exact .g h hd hsz hb hk
theorem gU {x:α}{xs:List α}{d:List D}{ds:List (List D)}(h:d=e x)(h':ds=W e xs):d::ds=W e (x::xs):=by rw[og,h,h',og];rfl
theorem Gj.g {ys:List α}{d:List (List D)}{k:List α->Option ρ}{K:List (List D)->Prop}(h:(some ys).bind k=some r)(hd:d=W e ys)(hk:∀ zs,k zs=some r->K (W e zs)):Gj d K:=⟨by rw[hd];exact hk ys h⟩
theorem iO.g {κ:Type}[DecidableEq κ]{kw:κ->Value}{e:α->List D}(hkw:∀ a b,pK (kw a) (kw b)=decide (a=b)){m:List (κ×α)}{es:List (Value×List D)}{k:κ}{z:α}{f:α->Option ρ}{A:List D->Prop}{B:Unit->Prop}
  (h:(some (nI m k z)).bind f=some r) (hes:es=WM kw e m) (hB:A (e z)->B ()) (hA:∀ x,f x=some r->A (e x)):iO es (kw k) A B:=by
 subst hes;have h:f (nI m k z)=some r:=h;unfold nI at h
 constructor
 ·intro ds hd;rw[Q8 hkw,Option.map_eq_some_iff] at hd;obtain⟨x,hx,rfl⟩:=hd;rw[hx] at h;exact hA x h
 ·intro hn;rw[Q8 hkw,Option.map_eq_none_iff] at hn;rw[hn] at h;exact hB (hA z h)
theorem iO.gs {e:α->List D}{m:List (ByteArray×α)}{es:List (Value×List D)}{k:ByteArray}{z:α}{f:α->Option ρ}{A:List D->Prop}{B:Unit->Prop}
  (h:(some (nI m k z)).bind f=some r) (hes:es=WM Value.string e m) (hB:A (e z)->B ()) (hA:∀ x,f x=some r->A (e x)):iO es (.string k) A B:=iO.g Y0 h hes hB hA
theorem iO.gi {q:IntKind}{e:α->List D}{m:List (Int×α)}{es:List (Value×List D)}{k:Int}{z:α}{f:α->Option ρ}{A:List D->Prop}{B:Unit->Prop}
  (h:(some (nI m k z)).bind f=some r) (hes:es=WM (Value.int q) e m) (hB:A (e z)->B ()) (hA:∀ x,f x=some r->A (e x)):iO es (.int q k) A B:=iO.g (Y5 q) h hes hB hA
theorem iO.o {κ:Type}[DecidableEq κ]{kw:κ->Value}{e:α->List D}(hkw:∀ a b,pK (kw a) (kw b)=decide (a=b)){m:List (κ×α)}{es:List (Value×List D)}{k:κ}{f:α->Option ρ}{g:Option ρ}{A:List D->Prop}{B:Unit->Prop}
  (h:optG (xR m k) f g=some r) (hes:es=WM kw e m) (hA:∀ x,f x=some r->A (e x)) (hB:g=some r->B ()):iO es (kw k) A B:=by
 subst hes
 constructor
 ·intro ds hd;rw[Q8 hkw,Option.map_eq_some_iff] at hd;obtain⟨x,hx,rfl⟩:=hd;rw[hx] at h;exact hA x h
 ·intro hn;rw[Q8 hkw,Option.map_eq_none_iff] at hn;rw[hn] at h;exact hB h
theorem iO.os {e:α->List D}{m:List (ByteArray×α)}{es:List (Value×List D)}{k:ByteArray}{f:α->Option ρ}{g:Option ρ}{A:List D->Prop}{B:Unit->Prop}
  (h:optG (xR m k) f g=some r) (hes:es=WM Value.string e m) (hA:∀ x,f x=some r->A (e x)) (hB:g=some r->B ()):iO es (.string k) A B:=iO.o Y0 h hes hA hB
theorem iO.oi {q:IntKind}{e:α->List D}{m:List (Int×α)}{es:List (Value×List D)}{k:Int}{f:α->Option ρ}{g:Option ρ}{A:List D->Prop}{B:Unit->Prop}
  (h:optG (xR m k) f g=some r) (hes:es=WM (Value.int q) e m) (hA:∀ x,f x=some r->A (e x)) (hB:g=some r->B ()):iO es (.int q k) A B:=iO.o (Y5 q) h hes hA hB
theorem sO.gs {e:α->List D}{m:List (ByteArray×α)}{es:List (Value×List D)}{k:ByteArray}{v:α}{ds:List D}{f:List (ByteArray×α)->Option ρ}{K:List (Value×List D)->Prop}
  (h:(some (sW m k v)).bind f=some r) (hes:es=WM Value.string e m) (hd:ds=e v) (hk:∀ m',f m'=some r->K (WM Value.string e m')):sO es (.string k) ds K :=
 ⟨by rw[hes,hd,WW Y0];exact hk _ h⟩
theorem sO.gk {κ:Type}[DecidableEq κ]{kw:κ->Value}(hkw:∀ a b,pK (kw a) (kw b)=decide (a=b)){e:α->List D}{m:List (κ×α)}{es:List (Value×List D)}{k:κ}{v:α}{ds:List D}{f:List (κ×α)->Option ρ}{K:List (Value×List D)->Prop}
  (h:(some (sW m k v)).bind f=some r) (hes:es=WM kw e m) (hd:ds=e v) (hk:∀ m',f m'=some r->K (WM kw e m')):sO es (kw k) ds K :=
 ⟨by rw[hes,hd,WW hkw];exact hk _ h⟩
theorem sO.gi {q:IntKind}{e:α->List D}{m:List (Int×α)}{es:List (Value×List D)}{k:Int}{v:α}{ds:List D}{f:List (Int×α)->Option ρ}{K:List (Value×List D)->Prop}
  (h:(some (sW m k v)).bind f=some r) (hes:es=WM (Value.int q) e m) (hd:ds=e v) (hk:∀ m',f m'=some r->K (WM (Value.int q) e m')):sO es (.int q k) ds K :=
 ⟨by rw[hes,hd,WW (Y5 q)];exact hk _ h⟩
theorem gi1 {e:Int->List D}(he:∀ x,e x=[.val (.int .u8 x)]):∀ l:List Int,numsOf (W e l)=some l
 |[]=>by rw[zZ];rfl
 |n::l=>by
  have ih:=gi1 he l;rw[og] at ih ⊢;simp only[zC,he,numsOf,ih,zH]
theorem Ja.g {e:Int->List D}{l:List Int}{es:List (List D)}{f:ByteArray->Option ρ}{K:ByteArray->Prop}(h:(some (strOfNums l)).bind f=some r)(he:∀ x,e x=[.val (.int .u8 x)])(hes:es=W e l)(hk:∀ s,f s=some r->K s):Ja es K :=
 ⟨l,by rw[hes];exact gi1 he l,hk _ h⟩
theorem IW.g {s:ByteArray}{n:Int}{k:Int->Option ρ}{K:Int->Prop}(h:(yg2 s n).bind k=some r)(hk:∀ b,k b=some r->K b):IW s n K:=by
 unfold yg2 at h;split at h
 ·rename_i h0
  cases hb:s[n.toNat]? with
  |none=>rw[hb] at h;cases h
  |some b =>
   rw[hb] at h;exact⟨h0.1,h0.2,fun b' hb'=>by rw[hb] at hb';simp at hb';subst hb';exact hk _ h⟩
 ·cases h
theorem I5.g {n:Int}{z:α}{zs:List D}{bytes:Nat}{k:List α->Option ρ}{K:List (List D)->Prop}(h:(U4 n z).bind k=some r)(hz:zs=e z)(hb:bytes<=100000)(hk:∀ zs,k zs=some r->K (W e zs)):I5 n n bytes zs K:=by
 unfold U4 at h;split at h
 ·rename_i h0;refine⟨h0.1,rfl,?_,by rw[maxLen];omega,?_⟩
  ·exact Nat.le_trans (Nat.mul_le_mul (by omega:n.toNat<=1000000000) hb) (by decide)
  ·have:List.replicate n.toNat zs=W e (List.replicate n.toNat z):=by rw[og,List.map_replicate,hz]
   rw[this];exact hk _ h
 ·cases h
end rules
def Me (own:List ak):SV->SV
 | .clo fn fs cs=>.clo fn (fs.map (nrm own)) (cs.map (nrm own))
 |s=>FX own s
theorem SC {c:Cx}{own:List ak}{w:World}(hS:Sat c own w){s:SV}{u:Value}(h:Rel c s u):Rel c (Me own s) u:=by
 unfold Me;split
 ·obtain⟨us,vs,rfl,h2,h3⟩:=Rel.Ag.1 h;exact Rel.Ag.2 ⟨us,vs,rfl,FP.nrm own _ c w us hS h2,FP.nrm own _ c w vs hS h3⟩
 ·exact Sl hS h
theorem dV.g {α ρ:Type}{ev:α->SV}{P:Program}{f:FuncId}{own:List ak}{args args1:List SV}{K:SV->List ak->Prop}{m:Option α}{k:α->Option ρ}{r:ρ}
  (h:m.bind k=some r) (hR:∀ v,m=some v->Fn1 P f args1 (ev v)) (ha:args.map (Me (mV own args))=args1) (hc:xP args1=true) (hs:∀ v,(ev v).closed=true) (hK:∀ v,k v=some r->K (ev v) (mV own args)):dV P f own args K:=by
 cases hm:m with
 |none=>rw[hm] at h;cases h
 |some v =>
  rw[hm] at h;refine⟨⟨_,args1,fun _ _ hS=>CJ args hS,?_,((hR v hm).fn hc (hs v)).mono fun sv own' ⟨h1,h2⟩=>by subst h1;subst h2;exact hK v h⟩⟩;rw[<- ha];exact .map _ fun _ _ _ _ hS h=>SC hS h
theorem iW.g {α ρ:Type}{ev:α->SV}{P:Program}{f:FuncId}{own:List ak}{args args1:List SV}{R:SV->Prop}{m:Option α}{k:α->Option ρ}{r:ρ}
  (h:m.bind k=some r) (hR:∀ v,m=some v->Fn1 P f args1 (ev v)) (ha:args.map (Me own)=args1) (hc:xP args1=true) (hs:∀ v,(ev v).closed=true) (hK:∀ v,k v=some r->R (ev v)):iW P f own args R:=by
 cases hm:m with
 |none=>rw[hm] at h;cases h
 |some v =>
  rw[hm] at h;exact .fn (((hR v hm).fn hc (hs v)).arg (by rw[<- ha];exact .map _ fun _ _ _ _ hS h=>SC hS h)) (hK v h)
theorem dV.gl {α ρ:Type}{ev:α->Value}{P:Program}{f:FuncId}{own:List ak}{args args1:List SV}{K:SV->List ak->Prop}{m:Option α}{k:α->Option ρ}{r:ρ}(rs:List Nat)
  (h:m.bind k=some r) (hR:∀ v,m=some v->Fn1 P f args1 (.d (.val (ev v)))) (ha:args.map (Me (FW (mV own args) rs))=args1) (hc:xP args1=true) (hK:∀ v,k v=some r->K (.d (.val (ev v))) own):dV P f own args K:=by
 cases hm:m with
 |none=>rw[hm] at h;cases h
 |some v =>
  rw[hm] at h;exact .fn (dX.OB (hR v hm) (BJ.trans (fun _ _ hS=>CJ args hS) (OM rs _)) (by rw[<- ha];exact .map _ fun _ _ _ _ hS h=>SC hS h) hc) (hK v h)
theorem iW.gl {α ρ:Type}{ev:α->Value}{P:Program}{f:FuncId}{own:List ak}{args args1:List SV}{R:SV->Prop}{m:Option α}{k:α->Option ρ}{r:ρ}(rs:List Nat)
  (h:m.bind k=some r) (hR:∀ v,m=some v->Fn1 P f args1 (.d (.val (ev v)))) (ha:args.map (Me (FW (mV own args) rs))=args1) (hc:xP args1=true) (hK:∀ v,k v=some r->R (.d (.val (ev v)))):iW P f own args R:=by
 cases hm:m with
 |none=>rw[hm] at h;cases h
 |some v =>
  rw[hm] at h;exact .fn (dX.OB (hR v hm) (BJ.trans (fun _ _ hS=>CJ args hS) (OM rs _)) (by rw[<- ha];exact .map _ fun _ _ _ _ hS h=>SC hS h) hc) (hK v h)
theorem dV.inl {P:Program}{f:FuncId}{own:List ak}{args:List SV}{K:SV->List ak->Prop}{df:fJ}(hf:fD P f=some df.er)(h:pR P own.length df.code (pad df.ntmps args) own (Dc df.res K)):dV P f own args K :=
 .own (Ya hf h) fun _ _ h=>h
structure EqK (es' es:List Value)(R:Unit->Prop):Prop where
 h:es'=es
 k:R ()
def qj3 (own:List ak)(p:List Nat)(s' s:SV)(R:Unit->Prop):Prop :=
 match s' with
 | .top=>R ()
 | .d d'=>(match nrm own s with
  | .d (.val (.slice none 0 0))=>(match s,d' with
   | .d (.val (.slice none 0 0)),.sl es'=>VR es' [] R
   |_,d'=>EqD d' (.val (.slice none 0 0)) R)
  | .d d=>EqD d' d R
  |_=>False)
 |s'=>VQ (xU p s') (some s) R
theorem kz2 {own:List ak}{p:List Nat}{s' s:SV}{R:Unit->Prop}(h:qj3 own p s' s R):SA own p s' s/\R ():=by
 unfold qj3 at h;split at h
 ·exact⟨.inl rfl,h⟩
 ·rename_i d';split at h
  ·rename_i hd;split at h
   ·rename_i es';obtain⟨rfl,h⟩:=h;exact⟨.inr (.inr (.inr ⟨rfl,rfl⟩)),h⟩
   ·obtain⟨rfl,h⟩:=h;exact⟨.inr (.inr (.inl (by simp[xU,hd]))),h⟩
  ·rename_i d _ hd;obtain⟨rfl,h⟩:=h;exact⟨.inr (.inr (.inl (by simp[xU,hd]))),h⟩
  ·exact h.elim
 ·exact⟨.inr (.inl h.h),h.k⟩
def QM (own:List ak)(p:List Nat):List SV->List SV->(Unit->Prop)->Prop
 |[],[],R=>R ()
 |s'::l',s::l,R=>qj3 own p s' s (fun _=>QM own p l' l R)
 |_,_,_=>False
theorem Q7 {own:List ak}{p:List Nat}:∀ {l' l:List SV}{R:Unit->Prop},QM own p l' l R->Gw own p l' l/\R ()
 |[],[],_,h=>⟨trivial,h⟩
 |s'::l',s::l,R,h=>by
  obtain⟨h1,h2⟩:=kz2 h;obtain⟨h3,h4⟩:=Q7 h2;exact⟨⟨h1,h3⟩,h4⟩
 |[],_::_,_,h=>h.elim
 |_::_,[],_,h=>h.elim
def Z7 (own:List ak)(p:List Nat)(x' x:ak)(R:Unit->Prop):Prop :=
 match x',x with
 | .gone,_=>R ()
 | .fz es',.fz es=>VR es' es R
 | .row ty' sz' es',.row ty sz es=>(match Nat.beq ty' ty&&Nat.beq sz' sz with|true=>VR es' es R|false=>False)
 | .cells cs' ty',.cells cs ty=>(match Nat.beq ty' ty with|true=>QM own p cs' cs R|false=>False)
 | .wz ds',.wz ds=>VT ds' ds R
 | .mp mk' agg' es',.mp mk agg es=>(match decide (mk'=mk)&&(agg' == agg) with|true=>EqM es' es R|false=>False)
 | .kC mk' es',.kC mk es=>(match decide (mk'=mk) with|true=>EqK (es'.map (·.1)) (es.map (·.1)) (fun _=>QM own p (es'.map (·.2)) (es.map (·.2)) R)|false=>False)
 |_,_=>False
theorem kj2 {own:List ak}{p:List Nat}{x' x:ak}{R:Unit->Prop}(h:Z7 own p x' x R):Am own p x' x/\R ():=by
 unfold Z7 at h;split at h
 ·exact⟨by simp[Am],h⟩
 ·exact⟨h.h,h.k⟩
 ·rename_i ty' sz' es' ty sz es;cases h1:Nat.beq ty' ty<;>simp[h1] at h;cases h2:Nat.beq sz' sz<;>simp[h2] at h;exact⟨⟨vY h1,vY h2,h.h⟩,h.k⟩
 ·rename_i cs' ty' cs ty;cases h1:Nat.beq ty' ty<;>simp[h1] at h;obtain⟨h3,h4⟩:=Q7 h;exact⟨⟨vY h1,h3⟩,h4⟩
 ·exact⟨h.h,h.k⟩
 ·rename_i mk' agg' es' mk agg es
  cases h1:(decide (mk'=mk)&&(agg' == agg)) with
  |false=>rw[h1] at h;exact h.elim
  |true =>
   rw[h1] at h;simp at h1;exact⟨⟨h1.1,h1.2,h.h⟩,h.k⟩
 ·rename_i mk' es' mk es
  cases h1:decide (mk'=mk) with
  |false=>rw[h1] at h;exact h.elim
  |true =>
   rw[h1] at h;obtain⟨hk,h⟩:=h;obtain⟨h3,h4⟩:=Q7 h;exact⟨⟨by simpa using h1,hk,h3⟩,h4⟩
 ·exact h.elim
def qk3 (own:List ak)(p:List Nat):List Nat->List ak->(Unit->Prop)->Prop
 |[],[],R=>R ()
 |r::q,x'::l',R=>Z7 own p x' (bG own r) (fun _=>qk3 own p q l' R)
 |_,_,_=>False
theorem YZ {own:List ak}{p:List Nat}:∀ {q:List Nat}{l':List ak}{R:Unit->Prop},qk3 own p q l' R->Gv own p q l'/\R ()
 |[],[],_,h=>⟨trivial,h⟩
 |r::q,x'::l',R,h=>by
  obtain⟨h1,h2⟩:=kj2 h;obtain⟨h3,h4⟩:=YZ h2;exact⟨⟨h1,h3⟩,h4⟩
 |[],_::_,_,h=>h.elim
 |_::_,[],_,h=>h.elim
def frees (r:Nat):List Nat->List ak->Bool
 |s::p,x::l=>(match x.live with|true=>!Nat.beq r s|false=>true)&&frees r p l
 |_,_=>true
def JD : List Nat->List ak->Nat->Bool
 |[],_,_=>true
 |r::p,x::l,n=>Nat.blt r n&&((match x.live with|true=>frees r p l|false=>true)&&JD p l n)
 |_::_,[],_=>false
theorem bm1 : ∀ {p:List Nat}{l:List ak}{n:Nat},JD p l n=true->∀ r∈p,r<n
 |[],_,_,_,r,h=>by simp at h
 |a::p,[],_,h,_,_=>by simp[JD] at h
 |a::p,x::l,n,h,r,hr=>by
  simp only[JD,qK] at h;rcases List.mem_cons.1 hr with rfl|hr
  ·exact of_decide_eq_true (by simpa [Nat.blt_eq] using h.1)
  ·exact bm1 h.2.2 r hr
theorem YT {r:Nat}:∀ {p:List Nat}{l:List ak},frees r p l=true->∀ (j:Nat) y,p[j]?=some r->l[j]?=some y->y.live=true->False
 |[],_,_,j,y,h1,_,_=>by simp at h1
 |s::p,[],_,j,y,_,h2,_=>by simp at h2
 |s::p,x::l,h,j,y,h1,h2,h3=>by
  simp only[frees,qK] at h
  cases j with
  |zero =>
   simp at h1 h2;subst h1;subst h2;rw[h3] at h;simp[Nat.beq_refl] at h
  |succ j=>exact YT h.2 j y (by simpa using h1) (by simpa using h2) h3
theorem bf1 : ∀ {p:List Nat}{l:List ak}{n:Nat},JD p l n=true->N8 p l
 |[],_,_,_=>fun i j r x y h1=>by simp at h1
 |a::p,[],_,h=>by simp[JD] at h
 |a::p,x::l,n,h=>by
  simp only[JD,qK] at h;intro i j r u v h1 h2 h3 h4 h5 h6
  cases i with
  |zero =>
   simp at h1 h3;subst h1;subst h3
   cases j with
   |zero=>rfl
   |succ j =>
    rw[h5] at h;exact(YT h.2.1 j v (by simpa using h2) (by simpa using h4) h6).elim
  |succ i =>
   cases j with
   |zero =>
    simp at h2 h4;subst h2;subst h4;rw[h6] at h;exact(YT h.2.1 i u (by simpa using h1) (by simpa using h3) h5).elim
   |succ j=>rw[bf1 h.2.2 i j r u v (by simpa using h1) (by simpa using h2) (by simpa using h3) (by simpa using h4) h5 h6]
noncomputable def aB (n0:Nat)(p:List Nat)(env:List SV)(own:List ak)(env':List SV)(own':List ak):Prop :=
 match JD p own' own.length&&RS p 0 n0 with
 |true=>QM own p env' env (fun _=>qk3 own p p own' (fun _=>True))
 |false=>False
theorem jM.aB {n0:Nat}{env env':List SV}{own own':List ak}(p:List Nat)(h:Go.SX.aB n0 p env own env' own'):jM n0 env own env' own':=by
 unfold Go.SX.aB at h;split at h
 ·rename_i hp;rw[qK] at hp;obtain⟨h1,h2⟩:=Q7 h;obtain⟨h3,_⟩:=YZ h2;exact .mkL p (bf1 hp.1) (bm1 hp.1) (fun r hr=>by have:=WV p 0 n0 hp.2 r (Nat.zero_le _) hr;simpa using this) h1 h3
 ·exact h.elim
theorem jM.nz {n0:Nat}{env env':List SV}{own own':List ak}(h:jM n0 (env.map (FX own)) own env' own'):jM n0 env own env' own':=by
 intro c a w hn hE hS;refine h c a w hn ⟨by simp[hE.size],fun i s u hs hu=>?_⟩ hS;rw[qF,Option.map_eq_some_iff] at hs;obtain⟨s0,hs0,rfl⟩:=hs;exact Sl hS (hE.rel i s0 u hs0 hu)
theorem jM.Mc {n0:Nat}{env env':List SV}{own own':List ak}(i:Nat)(ty sz:Nat)(hi:eu env i=.d (.val (.slice none 0 0)))(h:jM n0 (wX env i (.hd own.length)) (own++[.row ty sz []]) env' own'):jM n0 env own env' own':=(jM.row i ty sz hi).trans h
theorem jM.DF {n0:Nat}{env env':List SV}{own own':List ak}(r j ty sz:Nat)(cs:List SV)(t:TypeId)(hr:bG own r=.cells cs t)(hj:cs[j]?=some (.d (.val (.slice none 0 0))))
  (h:jM n0 env (nC own r (.cells (cs.set j (.hd own.length)) t)++[.row ty sz []]) env' own'):jM n0 env own env' own':=by
 refine jM.trans ?_ h;intro c a w hn hE hS;have hx:own[r]?=some (.cells cs t):=by
  rw[nV] at hr
  cases hx:own[r]? with
  |none=>rw[hx] at hr;cases hr
  |some y=>rw[hx] at hr;simp at hr;rw[hr]
 have Az:r<own.length:=(qA.1 hx).1;obtain⟨k1,k2,k3⟩:=hS.push (w':=w) none own rfl (fun s y hy=>.inr ⟨hy,fun _ b hb=>by cases hb⟩) (fun b hb=>by cases hb) rfl rfl rfl (qR _) (fun _ _ _=>rfl) (.slice none 0 0) (.row ty sz []) rfl (fun b hb=>by simp[jA] at hb)
  ⟨by simp,[],World.ownsRow_nil w 0 ty sz,by simp⟩
 have hset:(nC own r (.cells (cs.set j (.hd own.length)) t)++[ak.row ty sz []])=(own++[ak.row ty sz []]).set r (.cells (cs.set j (.hd own.length)) t):=by
  rw[yF,List.set_append_left _ _ Az]
 have hxr:(own++[ak.row ty sz []])[r]?=some (.cells cs t):=by rw[qQ Az];exact hx
 have hget:∀ (s:Nat) y,((own++[ak.row ty sz []]).set r (.cells (cs.set j (.hd own.length)) t))[s]?=some y->(s=r/\y=.cells (cs.set j (.hd own.length)) t)\/(s≠r/\(own++[ak.row ty sz []])[s]?=some y):=fun s y hy=>by
  rw[List.getElem?_set] at hy;split at hy
  ·rename_i e;subst e;split at hy
   ·cases hy;exact .inl ⟨rfl,rfl⟩
   ·cases hy
  ·rename_i e;exact .inr ⟨fun e'=>e e'.symm,hy⟩
 have hold:∀ (s:Nat) y,((own++[ak.row ty sz []]).set r (.cells (cs.set j (.hd own.length)) t))[s]?=some y->∃ y0,(own++[ak.row ty sz []])[s]?=some y0/\(y0.live=y.live):=fun s y hy=>by
  rcases hget s y hy with ⟨rfl,rfl⟩|⟨_,h⟩
  ·exact⟨_,hxr,rfl⟩
  ·exact⟨y,h,rfl⟩
 have AQ:∀ b,Own (c.push (.slice none 0 0)) ((own++[ak.row ty sz []]).set r (.cells (cs.set j (.hd own.length)) t)) b->Own (c.push (.slice none 0 0)) (own++[ak.row ty sz []]) b:=fun b ⟨s,y,hy,hl,hb⟩=>by
  obtain⟨y0,h1,h2⟩:=hold s y hy;exact⟨s,y0,h1,by rw[h2];exact hl,hb⟩
 rw[hset];refine⟨c.push (.slice none 0 0),hE.mono k2,⟨by rw[List.length_set];exact k1.n,fun s y hy=>?_,fun s q x y b hx' hy' hl hl' hb hb'=>?_,fun s x b hx' hl hb=>?_,k1.le,k1.one,k1.tab⟩,fun q hq=>k2.t q (by omega),Nat.le_trans hn k2.n,
  ⟨k3.os,k3.tape,k3.output,k3.size,k3.keep,k3.newF,fun b hb=>k3.jR b (AQ b hb),k3.f⟩⟩
 ·rcases hget s y hy with ⟨rfl,rfl⟩|⟨_,h1⟩
  ·obtain⟨b,us,h1,h2,h3,h4⟩:=k1.res s _ hxr;refine⟨b,us,h1,h2,by rw[List.length_set];exact h3,fun i s' hi=>?_⟩;rw[List.getElem?_set] at hi;split at hi
   ·rename_i e;subst e;split at hi
    ·cases hi;obtain⟨u,m1,m2,m3⟩:=h4 j _ hj;have hu:=m3.gB;subst hu;exact⟨_,m1,m2,.hd (by simp[Cx.push,hS.n]) (by simp[Cx.push,hS.n])⟩
    ·cases hi
   ·exact h4 i s' hi
  ·exact k1.res s y h1
 ·obtain⟨x0,h1,h2⟩:=hold s x hx';obtain⟨y0,h3,h4⟩:=hold q y hy';exact k1.apart s q x0 y0 b h1 h3 (by rw[h2];exact hl) (by rw[h4];exact hl') hb hb'
 ·obtain⟨x0,h1,h2⟩:=hold s x hx';exact k1.iw s x0 b h1 (by rw[h2];exact hl) hb
theorem jM.ng {n0:Nat}{env env':List SV}{own own':List ak}(l:List SV)(h:jM n0 env (mV own l) env' own'):jM n0 env own env' own':=by
 intro c a w hn hE hS;obtain⟨c1,k1,k2,k3⟩:=CJ l hS;obtain⟨c2,m1,m2,m3,m4,m5⟩:=h c1 a w (Nat.le_trans hn k2.n) (hE.mono k2) k1;exact⟨c2,m1,m2,fun r hr=>(m3 r hr).trans (k2.t r (by omega)),m4,k3.trans m5⟩
theorem Fn1.mJ {P:Program}{f:FuncId}{df:fJ}{args:List SV}{s:SV}(hf:fD P f=some df.er)
  (h:∀ K:SV->List ak->Prop,(∀ sv own',FX (CV own' sv) sv=s->K sv own')->pR P 0 df.code (pad df.ntmps args) [] (Dc df.res K)):Fn1 P f args s :=
 dX.data (K0:=fun sv own'=>FX (CV own' sv) sv=s) (dX.mJ hf h) fun _ _ h=>h
end Go.SX
