/- Parts of the proof. -/
import Derived.Test.YtlpempbeenpilaaGreatDoorZSyR
set_option linter.unusedSimpArgs false
set_option linter.unusedVariables false
set_option linter.unusedSectionVars false
namespace Go.SX
open Go
variable [Tabs]
theorem wEx : Nonempty { f:(α:Type)→(α→List D)→List α→List (List D) // f=fun _ e l=>l.map e }:=⟨⟨_,rfl⟩⟩
noncomputable def W {α:Type}(e:α→List D)(l:List α):List (List D):=(Classical.choice wEx).1 α e l
theorem W_eq {α:Type}(e:α→List D)(l:List α):W e l=l.map e:=by unfold W;rw[(Classical.choice wEx).2]
theorem W_len {α:Type}(e:α→List D)(l:List α):(W e l).length=l.length:=by rw[W_eq,qO]
theorem W_nil {α:Type}(e:α→List D):W e []=[]:=by rw[W_eq];rfl
theorem W_nilx {α:Type}(e:α→List D):(Classical.choice wEx).1 α e []=[]:=W_nil e
theorem W_nil' {α:Type}(e:α→List D):[]=W e []:=(W_nil e).symm
theorem wmEx : Nonempty { f:(κ α:Type)→(κ→Value)→(α→List D)→List (κ×α)→List (Value×List D) // f=fun _ _ kw e l=>l.map fun p=>(kw p.1,e p.2) }:=⟨⟨_,rfl⟩⟩
noncomputable def WM {κ α:Type}(kw:κ→Value)(e:α→List D)(l:List (κ×α)):List (Value×List D):=(Classical.choice wmEx).1 κ α kw e l
theorem WM_eq {κ α:Type}(kw:κ→Value)(e:α→List D)(l:List (κ×α)):WM kw e l=l.map fun p=>(kw p.1,e p.2):=by unfold WM;rw[(Classical.choice wmEx).2]
theorem WM_nil {κ α:Type}(kw:κ→Value)(e:α→List D):WM kw e []=[]:=by rw[WM_eq];rfl
theorem WM_nilx {κ α:Type}(kw:κ→Value)(e:α→List D):(Classical.choice wmEx).1 κ α kw e []=[]:=WM_nil kw e
theorem WM_nil' {κ α:Type}(kw:κ→Value)(e:α→List D):[]=WM kw e []:=(WM_nil kw e).symm
def mlook {κ α:Type}[DecidableEq κ]:List (κ×α)→κ→Option α
 | [],_=>none
 | (k',v)::l,k=>if k=k' then some v else mlook l k
def mputG {κ α:Type}[DecidableEq κ]:List (κ×α)→κ→α→List (κ×α)
 | [],k,v=>[(k,v)]
 | (k',v')::l,k,v=>if k=k' then (k,v)::l else (k',v')::mputG l k v
def mdelG {κ α:Type}[DecidableEq κ]:List (κ×α)→κ→List (κ×α)
 | [],_=>[]
 | (k',v')::l,k=>if k=k' then l else (k',v')::mdelG l k
def mlookD {κ α:Type}[DecidableEq κ](m:List (κ×α))(k:κ)(z:α):α:=(mlook m k).getD z
def optG {α ρ:Type}(o:Option α)(F:α→Option ρ)(G:Option ρ):Option ρ:=match o with | some x=>F x | none=>G
theorem mget_WM {κ α:Type}[DecidableEq κ]{kw:κ→Value}{e:α→List D}(hkw:∀ a b,keyEq (kw a) (kw b)=decide (a=b))(k:κ):∀ m:List (κ×α),mget (WM kw e m) (kw k)=(mlook m k).map e
 | []=>by rw[WM_nil];rfl
 | (k',v)::l=>by
  have ih:=mget_WM (e:=e) hkw k l;rw[WM_eq] at ih ⊢;simp only[qR,mget,mlook,hkw];by_cases h:k=k'<;>simp[h,ih]
theorem mput_WM {κ α:Type}[DecidableEq κ]{kw:κ→Value}{e:α→List D}(hkw:∀ a b,keyEq (kw a) (kw b)=decide (a=b))(k:κ)(v:α):∀ m:List (κ×α),mput (WM kw e m) (kw k) (e v)=WM kw e (mputG m k v)
 | []=>by rw[WM_nil,WM_eq];rfl
 | (k',v')::l=>by
  have ih:=mput_WM (e:=e) hkw k v l;rw[WM_eq,WM_eq] at ih ⊢;simp only[qR,mput,mputG,hkw];by_cases h:k=k'<;>simp[h,ih]
theorem mdel_WM {κ α:Type}[DecidableEq κ]{kw:κ→Value}{e:α→List D}(hkw:∀ a b,keyEq (kw a) (kw b)=decide (a=b))(k:κ):∀ m:List (κ×α),mdel (WM kw e m) (kw k)=WM kw e (mdelG m k)
 | []=>by rw[WM_nil];exact(WM_nil kw e).symm
 | (k',v')::l=>by
  have ih:=mdel_WM (e:=e) hkw k l;rw[WM_eq,WM_eq] at ih ⊢;simp only[qR,mdel,mdelG,hkw];by_cases h:k=k'<;>simp[h,ih]
theorem WM_len {κ α:Type}(kw:κ→Value)(e:α→List D)(l:List (κ×α)):(WM kw e l).length=l.length:=by rw[WM_eq,qO]
theorem keyEq_i (q:IntKind)(a b:Int):keyEq (.int q a) (.int q b)=decide (a=b):=by simp[keyEq]
theorem keyEq_s (a b:ByteArray):keyEq (.string a) (.string b)=decide (a=b):=by
 simp only[keyEq];congr 1;simp only[eq_iff_iff]
 constructor
 ·intro h;cases a;cases b;simp_all
 ·rintro rfl;rfl
section plain
variable {α β σ τ ρ:Type}
def idxG (xs:List α)(n:Int):Option α:=if 0≤n then xs[n.toNat]? else none
def rixG (xs:List α)(n:Int):Option Nat:=if 0≤n∧n<xs.length then some n.toNat else none
def pixG (len:Nat)(n:Int):Option Nat:=if 0≤n∧n<len then some n.toNat else none
def subG (xs:List α)(a b:Int):Option (List α):=if 0≤a∧a≤b∧b≤xs.length then some ((xs.take b.toNat).drop a.toNat) else none
def subS (s:ByteArray)(a b:Int):Option ByteArray:=if 0≤a∧a≤b∧b≤s.size then some (s.extract a.toNat b.toNat) else none
def appG (xs ys:List α):Option (List α):=if xs.length+ys.length≤1000000000 then some (xs++ys) else none
def mksG (n:Int)(z:α):Option (List α):=if 0≤n∧n≤1000000000 then some (List.replicate n.toNat z) else none
def updG (xs:List α)(i:Nat)(g:α→α):Option (List α):=match xs[i]? with | some x=>some (xs.set i (g x)) | none=>none
def idxStr (s:ByteArray)(n:Int):Option Int:=if 0≤n∧n<s.size then (s[n.toNat]?).map fun b=>(b.toNat:Int) else none
open Classical in
noncomputable def nilQ (xs:List α)(F:Bool→Option ρ):Option ρ:=match xs with | []=>if F true=F false then F false else none | _::_=>F false
def headG (xs:List α)(n:Int):Option (List α):=if 0≤n∧n≤xs.length then some (xs.take n.toNat) else none
def divG (b:Int):Option Unit:=if b=0 then none else some ()
def orR (m:Option (τ ⊕ ρ))(k:τ→Option ρ):Option ρ:=m.bind fun y=>match y with | .inl t=>k t | .inr r=>some r
def runN (step:σ→Option (σ ⊕ τ)):Nat→σ→Option τ
 | 0,_=>none
 | n+1,s=>match step s with
  | none=>none
  | some (.inl s')=>runN step n s'
  | some (.inr t)=>some t
open Classical in
noncomputable def whileG (step:σ→Option (σ ⊕ τ))(s:σ):Option τ:=if h:∃ t,∃ n,runN step n s=some t then some h.choose else none
theorem runN_det (step:σ→Option (σ ⊕ τ)):∀ (n m:Nat)(s:σ)(t u:τ),runN step n s=some t→runN step m s=some u→t=u
 | 0,_,_,_,_,h,_=>by cases h
 | _+1,0,_,_,_,_,h=>by cases h
 | n+1,m+1,s,t,u,h,h'=>by
  simp only[runN] at h h'
  cases hs:step s with
  | none=>rw[hs] at h;cases h
  | some x =>
   rw[hs] at h h'
   cases x with
   | inl s'=>exact runN_det step n m s' t u h h'
   | inr t'=>simp at h h';rw[← h,← h']
theorem whileG_some {step:σ→Option (σ ⊕ τ)}{s:σ}{t:τ}:whileG step s=some t↔∃ n,runN step n s=some t:=by
 unfold whileG
 constructor
 ·intro h;split at h
  ·rename_i hx;simp at h;rw[← h];exact hx.choose_spec
  ·cases h
 ·rintro ⟨n,hn⟩;have hx:∃ t,∃ n,runN step n s=some t:=⟨t,n,hn⟩;rw[dif_pos hx];obtain⟨m,hm⟩:=hx.choose_spec;rw[runN_det step m n s _ _ hm hn]
theorem whileG_eq (step:σ→Option (σ ⊕ τ))(s:σ):whileG step s=match step s with | none=>none | some (.inl s')=>whileG step s' | some (.inr t)=>some t:=by
 apply Option.ext;intro t;rw[whileG_some]
 cases hs:step s with
 | none =>
  simp only[reduceCtorEq,iff_false];rintro ⟨n,hn⟩
  cases n with
  | zero=>cases hn
  | succ n=>simp[runN,hs] at hn
 | some x =>
  cases x with
  | inl s' =>
   simp only[whileG_some]
   constructor
   ·rintro ⟨n,hn⟩
    cases n with
    | zero=>cases hn
    | succ n=>simp only[runN,hs] at hn;exact⟨n,hn⟩
   ·rintro ⟨n,hn⟩;exact⟨n+1,by simp only[runN,hs];exact hn⟩
  | inr t' =>
   simp only[qZ]
   constructor
   ·rintro ⟨n,hn⟩
    cases n with
    | zero=>cases hn
    | succ n=>simpa [runN,hs] using hn
   ·rintro rfl;exact⟨1,by simp only[runN,hs]⟩
end plain
theorem LoopS.g {σ τ:Type}{step:σ→Option (σ ⊕ τ)}{s0:σ}{r:τ}{n0:Nat}{body:List SV→List Res→(DX→List SV→List Res→Prop)→Prop}{env:List SV}{own:List Res}{K:DX→List SV→List Res→Prop}
  (h:whileG step s0=some r) (S:σ→List SV) (O:σ→List Res) (h0:StLe n0 env own (S s0) (O s0))
  (hb:∀ s x,step s=some x→(∀ t,x=.inr t→t=r)→∀ Kn:List SV→List Res→Prop,(∀ s' env' own',x=.inl s'→StLe n0 env' own' (S s') (O s')→Kn env' own')→body (S s) (O s) (fun e env' own'=>match e with | .normal=>Kn env' own' | e=>K e env' own')) :
  LoopS n0 body env own K:=by
 have hφ:∀ s,whileG step s=some r→∃ n,runN step n s=some r:=fun s hs=>whileG_some.1 hs
 classical
 refine⟨σ,S,O,(fun s=>whileG step s=some r),(fun s=>if hs:∃ n,runN step n s=some r then Classical.choose (exists_least _ hs) else 0),⟨s0,h,h0⟩,fun s hs=>?_⟩
 replace hs:whileG step s=some r:=hs
 rw[whileG_eq] at hs;have hs0:∃ n,runN step n s=some r:=hφ s (by rw[whileG_eq];exact hs)
 cases hx:step s with
 | none=>rw[hx] at hs;cases hs
 | some x =>
  rw[hx] at hs;refine hb s x hx (fun t ht=>by subst ht;simpa using hs) _ fun s' env' own' hs' hle=>?_
  subst hs';refine⟨s',hs,?_,hle⟩;have hs1:=hφ s' hs;show (if hs:∃ n,runN step n s'=some r then Classical.choose (exists_least _ hs) else 0)<(if hs:∃ n,runN step n s=some r then Classical.choose (exists_least _ hs) else 0);rw[dif_pos hs1,dif_pos hs0];obtain⟨k1,k2⟩:=Classical.choose_spec (exists_least _ hs1);obtain⟨m1,m2⟩:=Classical.choose_spec (exists_least _ hs0);generalize Classical.choose (exists_least _ hs0)=m at m1 m2 ⊢;generalize Classical.choose (exists_least _ hs1)=k at k1 k2 ⊢
  cases m with
  | zero=>cases m1
  | succ m =>
   simp only[runN,hx] at m1;have:=k2 m m1;omega
theorem JoinS.g {τ ρ:Type}{m:Option τ}{k:τ→Option ρ}{r:ρ}{n0:Nat}{A B:List SV→List Res→(DX→List SV→List Res→Prop)→Prop}{env:List SV}{own:List Res}{K:DX→List SV→List Res→Prop}
  (h:m.bind k=some r) (S:τ→List SV) (O:τ→List Res)
  (ha:∀ t,m=some t→∀ Kn:List SV→List Res→Prop,(∀ t' env' own',t=t'→StLe n0 env' own' (S t') (O t')→Kn env' own')→A env own (fun e env' own'=>match e with | .normal=>Kn env' own' | e=>K e env' own'))
  (hb:∀ t,k t=some r→B (S t) (O t) K):JoinS n0 A B env own K:=by
 cases hm:m with
 | none=>rw[hm] at h;cases h
 | some t =>
  rw[hm] at h;exact⟨⟨τ,S,O,fun t=>k t=some r,ha t hm _ (fun t' env' own' e hle=>⟨t,h,e▸hle⟩),hb⟩⟩
theorem JoinS.ga {τ ρ:Type}{m:Option (τ ⊕ ρ)}{k:τ→Option ρ}{r:ρ}{n0:Nat}{A B:List SV→List Res→(DX→List SV→List Res→Prop)→Prop}{env:List SV}{own:List Res}{K:DX→List SV→List Res→Prop}
  (h:orR m k=some r) (S:τ→List SV) (O:τ→List Res)
  (ha:∀ y,m=some y→(∀ r',y=.inr r'→r'=r)→∀ Kn:List SV→List Res→Prop,(∀ t env' own',y=.inl t→StLe n0 env' own' (S t) (O t)→Kn env' own')→A env own (fun e env' own'=>match e with | .normal=>Kn env' own' | e=>K e env' own'))
  (hb:∀ t,k t=some r→B (S t) (O t) K):JoinS n0 A B env own K:=by
 cases hm:m with
 | none=>rw[hm] at h;cases h
 | some y =>
  rw[hm] at h;refine⟨⟨τ,S,O,fun t=>k t=some r,ha y hm (fun r' e=>by subst e;simpa [orR] using h) _ (fun t env' own' e hle=>⟨t,by subst e;simpa [orR] using h,hle⟩),hb⟩⟩
theorem brkG {ρ:Type}{b:Bool}{x y:Option ρ}{r:ρ}{A B:Prop}:(bif b then x else y)=some r→(x=some r→A)→(y=some r→B)→(match b with | true=>A | false=>B):=by
 cases b
 ·exact fun h _ hB=>hB h
 ·exact fun h hA _=>hA h
section rules
variable {α ρ:Type}{e:α→List D}{r:ρ}
theorem IdxS.g {xs:List α}{n:Int}{sz:Nat}{k:α→Option ρ}{K:SV→Prop}(h:(idxG xs n).bind k=some r)(hsz:∀ x,(e x).length=sz)(hk:∀ x,k x=some r→K (.fp (e x))):IdxS (W e xs) n sz K:=by
 unfold idxG at h;split at h
 ·rename_i h0
  cases hx:xs[n.toNat]? with
  | none=>rw[hx] at h;cases h
  | some x =>
   rw[hx] at h;have hlt:=(qC.1 hx).1;refine⟨h0,by rw[W_len];omega,fun ds hd=>?_⟩;rw[W_eq,qI,hx] at hd;simp at hd;subst hd;exact⟨hsz x,hk x h⟩
 ·cases h
theorem RowE.g {xs:List α}{n:Int}{k:Nat→Option ρ}{K:Nat→Prop}(h:(rixG xs n).bind k=some r)(hk:∀ i,k i=some r→K i):RowE (W e xs) n K:=by
 unfold rixG at h;split at h
 ·rename_i h0;exact⟨h0.1,by rw[W_len];exact h0.2,hk _ h⟩
 ·cases h
theorem RowS.g {xs:List α}{i:Nat}{k:α→Option ρ}{K:List D→Prop}(h:(xs[i]?).bind k=some r)(hk:∀ x,k x=some r→K (e x)):RowS (W e xs) i K:=by
 cases hx:xs[i]? with
 | none=>rw[hx] at h;cases h
 | some x =>
  rw[hx] at h;have hlt:=(qC.1 hx).1;refine⟨by rw[W_len];exact hlt,fun ds hd=>?_⟩;rw[W_eq,qI,hx] at hd;simp at hd;subst hd;exact hk x h
theorem StoE.g {xs:List α}{i j:Nat}{ds':List D}{g:α→α}{k:List α→Option ρ}{K:List (List D)→Prop}(h:(updG xs i g).bind k=some r)(hg:∀ x,e (g x)=splice j ds' (e x))(hk:∀ zs,k zs=some r→K (W e zs)):StoE (W e xs) i j ds' K:=by
 unfold updG at h
 cases hx:xs[i]? with
 | none=>rw[hx] at h;cases h
 | some x =>
  rw[hx] at h;have hlt:=(qC.1 hx).1;refine⟨by rw[W_len];exact hlt,fun ds hd=>?_⟩;rw[W_eq,qI,hx] at hd;simp at hd;subst hd;rw[← hg x];have:(W e xs).set i (e (g x))=W e (xs.set i (g x)):=by rw[W_eq,W_eq,List.map_set]
  rw[this];exact hk _ h
theorem PixE.cs {n:Int}{len:Nat}{k:Nat→Option ρ}{K:Nat→Prop}(h:(pixG len n).bind k=some r)(hk:∀ i:Nat,i<len→n=(i:Int)→k i=some r→K i):PixE n len K:=by
 unfold pixG at h;split at h
 ·rename_i h0;exact⟨h0.1,h0.2,hk _ (by omega) (by omega) h⟩
 ·cases h
theorem PixE.at {n:Int}{len:Nat}{K:Nat→Prop}(i:Nat)(hn:n=(i:Int))(hi:i<len)(hk:K i):PixE n len K:=⟨by omega,by omega,by subst hn;simpa using hk⟩
theorem PixE.c2 {n:Int}{k:Nat→Option ρ}{K:Nat→Prop}(h:(pixG 2 n).bind k=some r)(h0:n=0→k 0=some r→K 0)(h1:n=1→k 1=some r→K 1):PixE n 2 K :=
 .cs h fun i hi he hk=>match i,hi,he,hk with | 0,_,e,h=>h0 e h | 1,_,e,h=>h1 e h
theorem PixE.c10 {n:Int}{k:Nat→Option ρ}{K:Nat→Prop}(h:(pixG 10 n).bind k=some r)(h0:n=0→k 0=some r→K 0)(h1:n=1→k 1=some r→K 1)(h2:n=2→k 2=some r→K 2)(h3:n=3→k 3=some r→K 3)(h4:n=4→k 4=some r→K 4)(h5:n=5→k 5=some r→K 5)(h6:n=6→k 6=some r→K 6)(h7:n=7→k 7=some r→K 7)(h8:n=8→k 8=some r→K 8)(h9:n=9→k 9=some r→K 9):PixE n 10 K :=
 .cs h fun i hi he hk=>match i,hi,he,hk with | 0,_,e,h=>h0 e h | 1,_,e,h=>h1 e h | 2,_,e,h=>h2 e h | 3,_,e,h=>h3 e h | 4,_,e,h=>h4 e h | 5,_,e,h=>h5 e h | 6,_,e,h=>h6 e h | 7,_,e,h=>h7 e h | 8,_,e,h=>h8 e h | 9,_,e,h=>h9 e h
theorem PixE.lit {n:Int}{len:Nat}{K:Nat→Prop}(i:Nat)(h:n=(i:Int))(hi:i<len)(hk:K i):PixE n len K:=⟨by omega,by omega,by subst h;simpa using hk⟩
def shG (b:Int):Option Unit:=if 0≤b then some () else none
theorem ShS.g {b:Int}{k:Unit→Option ρ}{K:Unit→Prop}(h:(shG b).bind k=some r)(hk:k ()=some r→K ()):ShS b K:=by
 unfold shG at h;split at h
 ·rename_i hb;exact⟨hb,hk h⟩
 ·cases h
def catG (a b:ByteArray):Option Unit:=if a.size+b.size≤9223372036854775807 then some () else none
theorem CatS.g {a b:ByteArray}{k:Unit→Option ρ}{K:Unit→Prop}(h:(catG a b).bind k=some r)(hk:k ()=some r→K ()):CatS a b K:=by
 unfold catG at h;split at h
 ·rename_i hb;exact⟨hb,hk h⟩
 ·cases h
theorem DivS.g {b:Int}{k:Unit→Option ρ}{K:Unit→Prop}(h:(divG b).bind k=some r)(hk:k ()=some r→K ()):DivS b K:=by
 unfold divG at h;split at h
 ·cases h
 ·rename_i hb;exact⟨hb,hk h⟩
theorem HeadE.g {xs:List α}{n:Int}{k:List α→Option ρ}{K:List (List D)→Prop}(h:(headG xs n).bind k=some r)(hk:∀ zs,k zs=some r→K (W e zs)):HeadE (W e xs) n K:=by
 unfold headG at h;split at h
 ·rename_i hn;refine⟨hn.1,by rw[W_len];exact hn.2,?_⟩;have:=hk _ h;rw[W_eq] at this ⊢
  rwa [← List.map_take]
 ·cases h
theorem NilS.g {xs:List α}{F:Bool→Option ρ}{K:Bool→Prop}(h:nilQ xs F=some r)(hK:∀ b,F b=some r→K b):NilS (W e xs) K:=by
 cases xs with
 | nil =>
  simp only[nilQ] at h;split at h
  ·rename_i he;exact⟨fun _=>hK true (he.trans h),hK false h⟩
  ·cases h
 | cons x l=>exact⟨fun h0=>by have:=congrArg List.length h0;simp[W_len] at this,hK false h⟩
theorem SlcE.g {xs:List α}{a b:Int}{sz:Nat}{k:List α→Option ρ}{K:List (List D)→Prop}(h:(subG xs a b).bind k=some r)(hsz:∀ x,(e x).length=sz)(hk:∀ zs,k zs=some r→K (W e zs)):SlcE (W e xs) a b sz K:=by
 unfold subG at h;split at h
 ·rename_i h0;refine⟨h0.1,h0.2.1,by rw[W_len];exact h0.2.2,fun ds hd=>?_,?_⟩
  ·rw[W_eq] at hd;obtain⟨x,_,rfl⟩:=List.mem_map.1 hd;exact hsz x
  ·have:((W e xs).take b.toNat).drop a.toNat=W e ((xs.take b.toNat).drop a.toNat):=by rw[W_eq,W_eq,List.map_drop,List.map_take]
   rw[this];exact hk _ h
 ·cases h
theorem SubE.g {s:ByteArray}{a b:Int}{k:ByteArray→Option ρ}{K:ByteArray→Prop}(h:(subS s a b).bind k=some r)(hk:∀ z,k z=some r→K z):SubE s a b K:=by
 unfold subS at h;split at h
 ·rename_i h0;exact⟨h0.1,h0.2.1,h0.2.2,hk _ h⟩
 ·cases h
theorem AppE.g {xs ys:List α}{d:List (List D)}{sz bytes:Nat}{k:List α→Option ρ}{K:List (List D)→Prop}(h:(appG xs ys).bind k=some r)(hd:d=W e ys)(hsz:∀ x,(e x).length=sz)(hb:bytes≤100000)(hk:∀ zs,k zs=some r→K (W e zs)) :
  AppE (W e xs) d sz bytes K:=by
 unfold appG at h;split at h
 ·rename_i h0;subst hd;refine⟨fun ds hd=>?_,?_,?_,?_⟩
  ·rw[W_eq] at hd;obtain⟨x,_,rfl⟩:=List.mem_map.1 hd;exact hsz x
  ·rw[W_len,W_len];exact Nat.le_trans (Nat.mul_le_mul h0 hb) (by decide)
  ·rw[W_len,W_len,maxLen];omega
  ·have:W e xs++W e ys=W e (xs++ys):=by rw[W_eq,W_eq,W_eq,List.map_append]
   rw[this];exact hk _ h
 ·cases h
theorem AppE.g0 {ys:List α}{d:List (List D)}{sz bytes:Nat}{k:List α→Option ρ}{K:List (List D)→Prop}(h:(appG [] ys).bind k=some r)(hd:d=W e ys)(hsz:∀ x,(e x).length=sz)(hb:bytes≤100000)(hk:∀ zs,k zs=some r→K (W e zs)) :
  AppE [] d sz bytes K:=by
 rw[W_nil' e];exact .g h hd hsz hb hk
theorem W_one {x:α}{d:List D}(h:d=e x):[d]=W e [x]:=by rw[W_eq,h];rfl
theorem W_cons {x:α}{xs:List α}{d:List D}{ds:List (List D)}(h:d=e x)(h':ds=W e xs):d::ds=W e (x::xs):=by rw[W_eq,h,h',W_eq];rfl
theorem BslE.g {ys:List α}{d:List (List D)}{k:List α→Option ρ}{K:List (List D)→Prop}(h:(some ys).bind k=some r)(hd:d=W e ys)(hk:∀ zs,k zs=some r→K (W e zs)):BslE d K:=⟨by rw[hd];exact hk ys h⟩
theorem LookS.g {κ:Type}[DecidableEq κ]{kw:κ→Value}{e:α→List D}(hkw:∀ a b,keyEq (kw a) (kw b)=decide (a=b)){m:List (κ×α)}{es:List (Value×List D)}{k:κ}{z:α}{f:α→Option ρ}{A:List D→Prop}{B:Unit→Prop}
  (h:(some (mlookD m k z)).bind f=some r) (hes:es=WM kw e m) (hB:A (e z)→B ()) (hA:∀ x,f x=some r→A (e x)):LookS es (kw k) A B:=by
 subst hes;have h:f (mlookD m k z)=some r:=h;unfold mlookD at h
 constructor
 ·intro ds hd;rw[mget_WM hkw,Option.map_eq_some_iff] at hd;obtain⟨x,hx,rfl⟩:=hd;rw[hx] at h;exact hA x h
 ·intro hn;rw[mget_WM hkw,Option.map_eq_none_iff] at hn;rw[hn] at h;exact hB (hA z h)
theorem LookS.gs {e:α→List D}{m:List (ByteArray×α)}{es:List (Value×List D)}{k:ByteArray}{z:α}{f:α→Option ρ}{A:List D→Prop}{B:Unit→Prop}
  (h:(some (mlookD m k z)).bind f=some r) (hes:es=WM Value.string e m) (hB:A (e z)→B ()) (hA:∀ x,f x=some r→A (e x)):LookS es (.string k) A B:=LookS.g keyEq_s h hes hB hA
theorem LookS.gi {q:IntKind}{e:α→List D}{m:List (Int×α)}{es:List (Value×List D)}{k:Int}{z:α}{f:α→Option ρ}{A:List D→Prop}{B:Unit→Prop}
  (h:(some (mlookD m k z)).bind f=some r) (hes:es=WM (Value.int q) e m) (hB:A (e z)→B ()) (hA:∀ x,f x=some r→A (e x)):LookS es (.int q k) A B:=LookS.g (keyEq_i q) h hes hB hA
theorem LookS.o {κ:Type}[DecidableEq κ]{kw:κ→Value}{e:α→List D}(hkw:∀ a b,keyEq (kw a) (kw b)=decide (a=b)){m:List (κ×α)}{es:List (Value×List D)}{k:κ}{f:α→Option ρ}{g:Option ρ}{A:List D→Prop}{B:Unit→Prop}
  (h:optG (mlook m k) f g=some r) (hes:es=WM kw e m) (hA:∀ x,f x=some r→A (e x)) (hB:g=some r→B ()):LookS es (kw k) A B:=by
 subst hes
 constructor
 ·intro ds hd;rw[mget_WM hkw,Option.map_eq_some_iff] at hd;obtain⟨x,hx,rfl⟩:=hd;rw[hx] at h;exact hA x h
 ·intro hn;rw[mget_WM hkw,Option.map_eq_none_iff] at hn;rw[hn] at h;exact hB h
theorem LookS.os {e:α→List D}{m:List (ByteArray×α)}{es:List (Value×List D)}{k:ByteArray}{f:α→Option ρ}{g:Option ρ}{A:List D→Prop}{B:Unit→Prop}
  (h:optG (mlook m k) f g=some r) (hes:es=WM Value.string e m) (hA:∀ x,f x=some r→A (e x)) (hB:g=some r→B ()):LookS es (.string k) A B:=LookS.o keyEq_s h hes hA hB
theorem LookS.oi {q:IntKind}{e:α→List D}{m:List (Int×α)}{es:List (Value×List D)}{k:Int}{f:α→Option ρ}{g:Option ρ}{A:List D→Prop}{B:Unit→Prop}
  (h:optG (mlook m k) f g=some r) (hes:es=WM (Value.int q) e m) (hA:∀ x,f x=some r→A (e x)) (hB:g=some r→B ()):LookS es (.int q k) A B:=LookS.o (keyEq_i q) h hes hA hB
theorem MdelS.gi {q:IntKind}{e:α→List D}{m:List (Int×α)}{es:List (Value×List D)}{k:Int}{f:List (Int×α)→Option ρ}{K:List (Value×List D)→Prop}
  (h:(some (mdelG m k)).bind f=some r) (hes:es=WM (Value.int q) e m) (hk:∀ m',f m'=some r→K (WM (Value.int q) e m')):MdelS es (.int q k) K :=
 ⟨by rw[hes,mdel_WM (keyEq_i q)];exact hk _ h⟩
theorem MputE.gs {e:α→List D}{m:List (ByteArray×α)}{es:List (Value×List D)}{k:ByteArray}{v:α}{ds:List D}{f:List (ByteArray×α)→Option ρ}{K:List (Value×List D)→Prop}
  (h:(some (mputG m k v)).bind f=some r) (hes:es=WM Value.string e m) (hd:ds=e v) (hk:∀ m',f m'=some r→K (WM Value.string e m')):MputE es (.string k) ds K :=
 ⟨by rw[hes,hd,mput_WM keyEq_s];exact hk _ h⟩
theorem MputE.gk {κ:Type}[DecidableEq κ]{kw:κ→Value}(hkw:∀ a b,keyEq (kw a) (kw b)=decide (a=b)){e:α→List D}{m:List (κ×α)}{es:List (Value×List D)}{k:κ}{v:α}{ds:List D}{f:List (κ×α)→Option ρ}{K:List (Value×List D)→Prop}
  (h:(some (mputG m k v)).bind f=some r) (hes:es=WM kw e m) (hd:ds=e v) (hk:∀ m',f m'=some r→K (WM kw e m')):MputE es (kw k) ds K :=
 ⟨by rw[hes,hd,mput_WM hkw];exact hk _ h⟩
theorem MputE.gi {q:IntKind}{e:α→List D}{m:List (Int×α)}{es:List (Value×List D)}{k:Int}{v:α}{ds:List D}{f:List (Int×α)→Option ρ}{K:List (Value×List D)→Prop}
  (h:(some (mputG m k v)).bind f=some r) (hes:es=WM (Value.int q) e m) (hd:ds=e v) (hk:∀ m',f m'=some r→K (WM (Value.int q) e m')):MputE es (.int q k) ds K :=
 ⟨by rw[hes,hd,mput_WM (keyEq_i q)];exact hk _ h⟩
theorem numsOf_W {e:Int→List D}(he:∀ x,e x=[.val (.int .u8 x)]):∀ l:List Int,numsOf (W e l)=some l
 | []=>by rw[W_nil];rfl
 | n::l=>by
  have ih:=numsOf_W he l;rw[W_eq] at ih ⊢;simp only[qR,he,numsOf,ih,qS]
theorem B2sS.g {e:Int→List D}{l:List Int}{es:List (List D)}{f:ByteArray→Option ρ}{K:ByteArray→Prop}(h:(some (strOfNums l)).bind f=some r)(he:∀ x,e x=[.val (.int .u8 x)])(hes:es=W e l)(hk:∀ s,f s=some r→K s):B2sS es K :=
 ⟨l,by rw[hes];exact numsOf_W he l,hk _ h⟩
theorem StrE.g {s:ByteArray}{n:Int}{k:Int→Option ρ}{K:Int→Prop}(h:(idxStr s n).bind k=some r)(hk:∀ b,k b=some r→K b):StrE s n K:=by
 unfold idxStr at h;split at h
 ·rename_i h0
  cases hb:s[n.toNat]? with
  | none=>rw[hb] at h;cases h
  | some b =>
   rw[hb] at h;exact⟨h0.1,h0.2,fun b' hb'=>by rw[hb] at hb';simp at hb';subst hb';exact hk _ h⟩
 ·cases h
theorem MksE.g {n:Int}{z:α}{zs:List D}{bytes:Nat}{k:List α→Option ρ}{K:List (List D)→Prop}(h:(mksG n z).bind k=some r)(hz:zs=e z)(hb:bytes≤100000)(hk:∀ zs,k zs=some r→K (W e zs)):MksE n n bytes zs K:=by
 unfold mksG at h;split at h
 ·rename_i h0;refine⟨h0.1,rfl,?_,by rw[maxLen];omega,?_⟩
  ·exact Nat.le_trans (Nat.mul_le_mul (by omega:n.toNat≤1000000000) hb) (by decide)
  ·have:List.replicate n.toNat zs=W e (List.replicate n.toNat z):=by rw[W_eq,List.map_replicate,hz]
   rw[this];exact hk _ h
 ·cases h
end rules
def nrmE (own:List Res):SV→SV
 | .clo fn fs cs=>.clo fn (fs.map (nrm own)) (cs.map (nrm own))
 | s=>nrmR own s
theorem nrmE_rel {c:Cx}{own:List Res}{w:World}(hS:Sat c own w){s:SV}{u:Value}(h:Rel c s u):Rel c (nrmE own s) u:=by
 unfold nrmE;split
 ·obtain⟨us,vs,rfl,h2,h3⟩:=Rel.clo_iff.1 h;exact Rel.clo_iff.2 ⟨us,vs,rfl,ArgLe.nrm own _ c w us hS h2,ArgLe.nrm own _ c w vs hS h3⟩
 ·exact nrmR_rel hS h
theorem CallS.g {α ρ:Type}{ev:α→SV}{P:Program}{f:FuncId}{own:List Res}{args args1:List SV}{K:SV→List Res→Prop}{m:Option α}{k:α→Option ρ}{r:ρ}
  (h:m.bind k=some r) (hR:∀ v,m=some v→Fn1 P f args1 (ev v)) (ha:args.map (nrmE (frzL own args))=args1) (hc:closedL args1=true) (hs:∀ v,(ev v).closed=true) (hK:∀ v,k v=some r→K (ev v) (frzL own args)):CallS P f own args K:=by
 cases hm:m with
 | none=>rw[hm] at h;cases h
 | some v =>
  rw[hm] at h;refine⟨⟨_,args1,fun _ _ hS=>frzL_ok args hS,?_,((hR v hm).fn hc (hs v)).mono fun sv own' ⟨h1,h2⟩=>by subst h1;subst h2;exact hK v h⟩⟩;rw[← ha];exact .map _ fun _ _ _ _ hS h=>nrmE_rel hS h
theorem FCallS.g {α ρ:Type}{ev:α→SV}{P:Program}{f:FuncId}{own:List Res}{args args1:List SV}{R:SV→Prop}{m:Option α}{k:α→Option ρ}{r:ρ}
  (h:m.bind k=some r) (hR:∀ v,m=some v→Fn1 P f args1 (ev v)) (ha:args.map (nrmE own)=args1) (hc:closedL args1=true) (hs:∀ v,(ev v).closed=true) (hK:∀ v,k v=some r→R (ev v)):FCallS P f own args R:=by
 cases hm:m with
 | none=>rw[hm] at h;cases h
 | some v =>
  rw[hm] at h;exact .fn (((hR v hm).fn hc (hs v)).arg (by rw[← ha];exact .map _ fun _ _ _ _ hS h=>nrmE_rel hS h)) (hK v h)
def zS : SV→SV
 | .agg cs=>.agg (cs.map nilZ)
 | s=>nilZ s
theorem zS_rel {c:Cx}{s:SV}{u:Value}(h:Rel c s u):Rel c (zS s) u:=by
 unfold zS;split
 ·obtain⟨us,rfl,h2⟩:=Rel.agg_iff.1 h;exact Rel.agg_iff.2 ⟨us,rfl,by rw[h2.1,qO],fun i s u hs hu=>by
   rw[qI,Option.map_eq_some_iff] at hs;obtain⟨s0,hs0,rfl⟩:=hs;exact nilZ_rel (h2.2 i s0 u hs0 hu)⟩
 ·exact nilZ_rel h
theorem XCallS.g {α ρ:Type}{ev:α→SV}{P:Program}{f:FuncId}{args args1:List SV}{R:SV→Prop}{m:Option α}{k:α→Option ρ}{r:ρ}
  (h:m.bind k=some r) (hR:∀ v,m=some v→Fn1 P f args1 (ev v)) (ha:args.map zS=args1) (hc:closedL args1=true) (hs:∀ v,(ev v).closed=true) (hK:∀ v,k v=some r→R (ev v)):XCallS P f args R:=by
 cases hm:m with
 | none=>rw[hm] at h;cases h
 | some v =>
  rw[hm] at h;exact⟨args1,ev v,fun c us hr=>by
   rw[← ha];exact⟨by rw[hr.1,qO],fun i s u hs hu=>by
    rw[qI,Option.map_eq_some_iff] at hs;obtain⟨s0,hs0,rfl⟩:=hs;exact zS_rel (hr.2 i s0 u hs0 hu)⟩,hR v hm,hc,hs v,hK v h⟩
theorem CallS.gl {α ρ:Type}{ev:α→Value}{P:Program}{f:FuncId}{own:List Res}{args args1:List SV}{K:SV→List Res→Prop}{m:Option α}{k:α→Option ρ}{r:ρ}(rs:List Nat)
  (h:m.bind k=some r) (hR:∀ v,m=some v→Fn1 P f args1 (.d (.val (ev v)))) (ha:args.map (nrmE (frzPs (frzL own args) rs))=args1) (hc:closedL args1=true) (hK:∀ v,k v=some r→K (.d (.val (ev v))) own):CallS P f own args K:=by
 cases hm:m with
 | none=>rw[hm] at h;cases h
 | some v =>
  rw[hm] at h;exact .fn (SCall.lent (hR v hm) (OwnLe.trans (fun _ _ hS=>frzL_ok args hS) (frzPs_ok rs _)) (by rw[← ha];exact .map _ fun _ _ _ _ hS h=>nrmE_rel hS h) hc) (hK v h)
theorem FCallS.gl {α ρ:Type}{ev:α→Value}{P:Program}{f:FuncId}{own:List Res}{args args1:List SV}{R:SV→Prop}{m:Option α}{k:α→Option ρ}{r:ρ}(rs:List Nat)
  (h:m.bind k=some r) (hR:∀ v,m=some v→Fn1 P f args1 (.d (.val (ev v)))) (ha:args.map (nrmE (frzPs (frzL own args) rs))=args1) (hc:closedL args1=true) (hK:∀ v,k v=some r→R (.d (.val (ev v)))):FCallS P f own args R:=by
 cases hm:m with
 | none=>rw[hm] at h;cases h
 | some v =>
  rw[hm] at h;exact .fn (SCall.lent (hR v hm) (OwnLe.trans (fun _ _ hS=>frzL_ok args hS) (frzPs_ok rs _)) (by rw[← ha];exact .map _ fun _ _ _ _ hS h=>nrmE_rel hS h) hc) (hK v h)
theorem CallS.inl {P:Program}{f:FuncId}{own:List Res}{args:List SV}{K:SV→List Res→Prop}{df:EFn}(hf:compF P f=some df.er)(h:wpW P own.length df.code (pad df.ntmps args) own (EndN df.res K)):CallS P f own args K :=
 .own (scall_walkE hf h) fun _ _ h=>h
structure EqK (es' es:List Value)(R:Unit→Prop):Prop where
 h:es'=es
 k:R ()
def mtS' (own:List Res)(p:List Nat)(s' s:SV)(R:Unit→Prop):Prop :=
 match s' with
 | .top=>R ()
 | .d d'=>(match nrm own s with
  | .d (.val (.slice none 0 0))=>(match s,d' with
   | .d (.val (.slice none 0 0)),.sl es'=>EqL es' [] R
   | _,d'=>EqD d' (.val (.slice none 0 0)) R)
  | .d d=>EqD d' d R
  | _=>False)
 | s'=>EqSV (renSV p s') (some s) R
theorem mtS'_le {own:List Res}{p:List Nat}{s' s:SV}{R:Unit→Prop}(h:mtS' own p s' s R):leS own p s' s∧R ():=by
 unfold mtS' at h;split at h
 ·exact⟨.inl rfl,h⟩
 ·rename_i d';split at h
  ·rename_i hd;split at h
   ·rename_i es';obtain⟨rfl,h⟩:=h;exact⟨.inr (.inr (.inr ⟨rfl,rfl⟩)),h⟩
   ·obtain⟨rfl,h⟩:=h;exact⟨.inr (.inr (.inl (by simp[renSV,hd]))),h⟩
  ·rename_i d _ hd;obtain⟨rfl,h⟩:=h;exact⟨.inr (.inr (.inl (by simp[renSV,hd]))),h⟩
  ·exact h.elim
 ·exact⟨.inr (.inl h.h),h.k⟩
def mtL' (own:List Res)(p:List Nat):List SV→List SV→(Unit→Prop)→Prop
 | [],[],R=>R ()
 | s'::l',s::l,R=>mtS' own p s' s (fun _=>mtL' own p l' l R)
 | _,_,_=>False
theorem mtL'_le {own:List Res}{p:List Nat}:∀ {l' l:List SV}{R:Unit→Prop},mtL' own p l' l R→leL own p l' l∧R ()
 | [],[],_,h=>⟨trivial,h⟩
 | s'::l',s::l,R,h=>by
  obtain⟨h1,h2⟩:=mtS'_le h;obtain⟨h3,h4⟩:=mtL'_le h2;exact⟨⟨h1,h3⟩,h4⟩
 | [],_::_,_,h=>h.elim
 | _::_,[],_,h=>h.elim
def mtR' (own:List Res)(p:List Nat)(x' x:Res)(R:Unit→Prop):Prop :=
 match x',x with
 | .gone,_=>R ()
 | .fz es',.fz es=>EqL es' es R
 | .row ty' sz' es',.row ty sz es=>(match Nat.beq ty' ty&&Nat.beq sz' sz with | true=>EqL es' es R | false=>False)
 | .cells cs' ty',.cells cs ty=>(match Nat.beq ty' ty with | true=>mtL' own p cs' cs R | false=>False)
 | .fzc ds',.fzc ds=>EqDs ds' ds R
 | .mp mk' agg' es',.mp mk agg es=>(match decide (mk'=mk)&&(agg' == agg) with | true=>EqM es' es R | false=>False)
 | .mpf mk' es',.mpf mk es=>(match decide (mk'=mk) with | true=>EqK (es'.map (·.1)) (es.map (·.1)) (fun _=>mtL' own p (es'.map (·.2)) (es.map (·.2)) R) | false=>False)
 | _,_=>False
theorem mtR'_le {own:List Res}{p:List Nat}{x' x:Res}{R:Unit→Prop}(h:mtR' own p x' x R):leR own p x' x∧R ():=by
 unfold mtR' at h;split at h
 ·exact⟨by simp[leR],h⟩
 ·exact⟨h.h,h.k⟩
 ·rename_i ty' sz' es' ty sz es;cases h1:Nat.beq ty' ty<;>simp[h1] at h;cases h2:Nat.beq sz' sz<;>simp[h2] at h;exact⟨⟨beqT h1,beqT h2,h.h⟩,h.k⟩
 ·rename_i cs' ty' cs ty;cases h1:Nat.beq ty' ty<;>simp[h1] at h;obtain⟨h3,h4⟩:=mtL'_le h;exact⟨⟨beqT h1,h3⟩,h4⟩
 ·exact⟨h.h,h.k⟩
 ·rename_i mk' agg' es' mk agg es
  cases h1:(decide (mk'=mk)&&(agg' == agg)) with
  | false=>rw[h1] at h;exact h.elim
  | true =>
   rw[h1] at h;simp at h1;exact⟨⟨h1.1,h1.2,h.h⟩,h.k⟩
 ·rename_i mk' es' mk es
  cases h1:decide (mk'=mk) with
  | false=>rw[h1] at h;exact h.elim
  | true =>
   rw[h1] at h;obtain⟨hk,h⟩:=h;obtain⟨h3,h4⟩:=mtL'_le h;exact⟨⟨by simpa using h1,hk,h3⟩,h4⟩
 ·exact h.elim
def mtO' (own:List Res)(p:List Nat):List Nat→List Res→(Unit→Prop)→Prop
 | [],[],R=>R ()
 | r::q,x'::l',R=>mtR' own p x' (getr own r) (fun _=>mtO' own p q l' R)
 | _,_,_=>False
theorem mtO'_le {own:List Res}{p:List Nat}:∀ {q:List Nat}{l':List Res}{R:Unit→Prop},mtO' own p q l' R→leO own p q l'∧R ()
 | [],[],_,h=>⟨trivial,h⟩
 | r::q,x'::l',R,h=>by
  obtain⟨h1,h2⟩:=mtR'_le h;obtain⟨h3,h4⟩:=mtO'_le h2;exact⟨⟨h1,h3⟩,h4⟩
 | [],_::_,_,h=>h.elim
 | _::_,[],_,h=>h.elim
def frees (r:Nat):List Nat→List Res→Bool
 | s::p,x::l=>(match x.live with | true=>!Nat.beq r s | false=>true)&&frees r p l
 | _,_=>true
def okG : List Nat→List Res→Nat→Bool
 | [],_,_=>true
 | r::p,x::l,n=>Nat.blt r n&&((match x.live with | true=>frees r p l | false=>true)&&okG p l n)
 | _::_,[],_=>false
theorem okG_lt : ∀ {p:List Nat}{l:List Res}{n:Nat},okG p l n=true→∀ r∈p,r<n
 | [],_,_,_,r,h=>by simp at h
 | a::p,[],_,h,_,_=>by simp[okG] at h
 | a::p,x::l,n,h,r,hr=>by
  simp only[okG,qJ] at h;rcases List.mem_cons.1 hr with rfl | hr
  ·exact of_decide_eq_true (by simpa [Nat.blt_eq] using h.1)
  ·exact okG_lt h.2.2 r hr
theorem frees_ok {r:Nat}:∀ {p:List Nat}{l:List Res},frees r p l=true→∀ (j:Nat) y,p[j]?=some r→l[j]?=some y→y.live=true→False
 | [],_,_,j,y,h1,_,_=>by simp at h1
 | s::p,[],_,j,y,_,h2,_=>by simp at h2
 | s::p,x::l,h,j,y,h1,h2,h3=>by
  simp only[frees,qJ] at h
  cases j with
  | zero =>
   simp at h1 h2;subst h1;subst h2;rw[h3] at h;simp[Nat.beq_refl] at h
  | succ j=>exact frees_ok h.2 j y (by simpa using h1) (by simpa using h2) h3
theorem okG_nd : ∀ {p:List Nat}{l:List Res}{n:Nat},okG p l n=true→LNd p l
 | [],_,_,_=>fun i j r x y h1=>by simp at h1
 | a::p,[],_,h=>by simp[okG] at h
 | a::p,x::l,n,h=>by
  simp only[okG,qJ] at h;intro i j r u v h1 h2 h3 h4 h5 h6
  cases i with
  | zero =>
   simp at h1 h3;subst h1;subst h3
   cases j with
   | zero=>rfl
   | succ j =>
    rw[h5] at h;exact(frees_ok h.2.1 j v (by simpa using h2) (by simpa using h4) h6).elim
  | succ i =>
   cases j with
   | zero =>
    simp at h2 h4;subst h2;subst h4;rw[h6] at h;exact(frees_ok h.2.1 i u (by simpa using h1) (by simpa using h3) h5).elim
   | succ j=>rw[okG_nd h.2.2 i j r u v (by simpa using h1) (by simpa using h2) (by simpa using h3) (by simpa using h4) h5 h6]
noncomputable def mtE (n0:Nat)(p:List Nat)(env:List SV)(own:List Res)(env':List SV)(own':List Res):Prop :=
 match okG p own' own.length&&okQ p 0 n0 with
 | true=>mtL' own p env' env (fun _=>mtO' own p p own' (fun _=>True))
 | false=>False
theorem StLe.mtE {n0:Nat}{env env':List SV}{own own':List Res}(p:List Nat)(h:Go.SX.mtE n0 p env own env' own'):StLe n0 env own env' own':=by
 unfold Go.SX.mtE at h;split at h
 ·rename_i hp;rw[qJ] at hp;obtain⟨h1,h2⟩:=mtL'_le h;obtain⟨h3,_⟩:=mtO'_le h2;exact .mkL p (okG_nd hp.1) (okG_lt hp.1) (fun r hr=>by have:=okQ_get p 0 n0 hp.2 r (Nat.zero_le _) hr;simpa using this) h1 h3
 ·exact h.elim
theorem StLe.nz {n0:Nat}{env env':List SV}{own own':List Res}(h:StLe n0 (env.map (nrmR own)) own env' own'):StLe n0 env own env' own':=by
 intro c a w hn hE hS;refine h c a w hn ⟨by simp[hE.size],fun i s u hs hu=>?_⟩ hS;rw[qI,Option.map_eq_some_iff] at hs;obtain⟨s0,hs0,rfl⟩:=hs;exact nrmR_rel hS (hE.rel i s0 u hs0 hu)
theorem StLe.nilr {n0:Nat}{env env':List SV}{own own':List Res}(i:Nat)(ty sz:Nat)(hi:geti env i=.d (.val (.slice none 0 0)))(h:StLe n0 (seti env i (.hd own.length)) (own++[.row ty sz []]) env' own'):StLe n0 env own env' own':=(StLe.row i ty sz hi).trans h
theorem StLe.frz {n0:Nat}{env env':List SV}{own own':List Res}(l:List SV)(h:StLe n0 env (frzL own l) env' own'):StLe n0 env own env' own':=by
 intro c a w hn hE hS;obtain⟨c1,k1,k2,k3⟩:=frzL_ok l hS;obtain⟨c2,m1,m2,m3,m4,m5⟩:=h c1 a w (Nat.le_trans hn k2.n) (hE.mono k2) k1;exact⟨c2,m1,m2,fun r hr=>(m3 r hr).trans (k2.t r (by omega)),m4,k3.trans m5⟩
theorem Fn1.walkE {P:Program}{f:FuncId}{df:EFn}{args:List SV}{s:SV}(hf:compF P f=some df.er)
  (h:∀ K:SV→List Res→Prop,(∀ sv own',nrmR (frzR own' sv) sv=s→K sv own')→wpW P 0 df.code (pad df.ntmps args) [] (EndN df.res K)):Fn1 P f args s :=
 SCall.data (K0:=fun sv own'=>nrmR (frzR own' sv) sv=s) (SCall.walkE hf h) fun _ _ h=>h
end Go.SX
