/- Parts of the proof. -/
import Derived.Test.YtllbabjgpdmblaaGreatDoorZSyS
set_option linter.unusedSimpArgs false
set_option linter.unusedVariables false
set_option linter.unusedSectionVars false
namespace Go.SX
open Go
variable [Tabs]
theorem dX.trim {P:Program}{f:FuncId}{own base:List ak}{args:List SV}{s:SV}(p:List Nat)(hl:base.length=p.length)(hn:own.length<=p.length)(hp:∀ i,i<own.length->p[i]?=some i)
  (h:dX P f own args (fun sv own'=>mt p [sv] own' [s] base)):dX P f own args (fun sv own'=>sv=s/\own'=base):=by
 refine⟨h.1,fun c w us hS hr=>(h.2 c w us hS hr).mono ?_⟩;rintro e w' ⟨c',own',sv,u,rfl,k1,k2,k3,k4,k5⟩;unfold Go.SX.mt at k5;split at k5
 ·rename_i hok;obtain⟨m1,m2⟩:=Lr k5;obtain⟨m3,_⟩:=Qd m2;have hlt:=Qg hok;have hpN:∀ r∈p,r<c'.N:=fun r hr=>by rw[<- k2.n];exact hlt r hr
  have hS2:=k2.ren (Qi hok) hlt m3;have hcN:c.N=own.length:=hS.n.symm;refine⟨c'.ren p,base,s,u,rfl,Kz k2 hpN m1.1 k1,hS2,⟨by simp only[Cx.ren];omega,fun r hr=>?_,k3.f⟩,?_,rfl,rfl⟩
  ·simp only[Cx.ren,hp r (by omega)];exact k3.t r hr
  ·refine⟨k4.os,k4.tape,k4.output,k4.size,k4.keep,k4.newF,fun b hb=>?_,k4.f⟩;obtain⟨r,x,_,h1,h2,h3⟩:=Xa hlt m3 hb;exact k4.jR b ⟨r,x,h1,h2,h3⟩
 ·exact k5.elim
theorem dX.walkT {P:Program}{f:FuncId}{df:fJ}{own base:List ak}{args:List SV}{s:SV}(p:List Nat)(n:Nat)(hl:base.length=p.length)(h0:own.length=n)(hn:n<=p.length)(hp:∀ i,i<n->p[i]?=some i)(hf:fD P f=some df.er)
  (h:∀ K:SV->List ak->Prop,(∀ sv own',mt p [sv] own' [s] base->K sv own')->pR P own.length df.code (pad df.ntmps args) own (Dc df.res K)):dX P f own args (fun sv own'=>sv=s/\own'=base):=by
 subst h0;exact dX.trim p hl hn hp (Ya hf (h _ fun _ _ h=>h))
theorem dX.OY {P:Program}{f:FuncId}{df:fJ}{own base:List ak}{args:List SV}{s:SV}(n:Nat)(h0:own.length=n)(hn:n<=base.length)(hf:fD P f=some df.er)
  (h:∀ K:SV->List ak->Prop,(∀ sv own' (p:List Nat),aB n p [sv] own' [s] base->K sv own')->pR P own.length df.code (pad df.ntmps args) own (Dc df.res K)):dX P f own args (fun sv own'=>sv=s/\own'=base):=by
 subst h0;have hS:=Ya hf (h (fun sv own'=>∃ p,aB own.length p [sv] own' [s] base) fun sv own' p hp=>⟨p,hp⟩);refine⟨hS.1,fun c w us hs hr=>(hS.2 c w us hs hr).mono ?_⟩;rintro e w' ⟨c',own',sv,u,rfl,k1,k2,k3,k4,p,k5⟩;unfold Go.SX.aB at k5;split at k5
 ·rename_i hok;rw[qK] at hok;obtain⟨m1,m2⟩:=Q7 k5;obtain⟨m3,_⟩:=YZ m2;have hlt:=bm1 hok.1;have hp:∀ i,i<own.length->p[i]?=some i:=fun i hi=>by have:=WV p 0 own.length hok.2 i (Nat.zero_le _) hi;simpa using this
  have hpN:∀ r∈p,r<c'.N:=fun r hr=>by rw[<- k2.n];exact hlt r hr
  have hS2:=k2.Eu (bf1 hok.1) hlt m3;have hcN:c.N=own.length:=hs.n.symm;have hlen:own.length<=p.length:=by have:=(Q5 m3).1;omega
  refine⟨c'.ren p,base,s,u,rfl,Kz k2 hpN m1.1 k1,hS2,⟨by simp only[Cx.ren];omega,fun r hr=>?_,k3.f⟩,?_,rfl,rfl⟩
  ·simp only[Cx.ren,hp r (by omega)];exact k3.t r hr
  ·refine⟨k4.os,k4.tape,k4.output,k4.size,k4.keep,k4.newF,fun b hb=>?_,k4.f⟩;obtain⟨r,x,_,h1,h2,h3⟩:=Xa hlt m3 hb;exact k4.jR b ⟨r,x,h1,h2,h3⟩
 ·exact k5.elim
theorem dV.ut2 {P:Program}{f:FuncId}{own dK:List ak}{args:List SV}{K:SV->List ak->Prop}(ho:BJ own dK)(h:dV P f dK args K):dV P f own args K:=by
 obtain⟨mY,args2,h1,h2,h3⟩:=h.k;exact⟨mY,args2,.trans ho h1,h2,h3⟩
theorem dV.frzh {P:Program}{f:FuncId}{own:List ak}{args:List SV}{K:SV->List ak->Prop}(l:List SV)(h:dV P f (mV own l) args K):dV P f own args K:=.ut2 (fun _ _ hS=>CJ l hS) h
theorem dV.DF {P:Program}{f:FuncId}{own:List ak}{args:List SV}{K:SV->List ak->Prop}(r j ty sz:Nat)(cs:List SV)(t:TypeId)(hr:bG own r=.cells cs t)(hj:cs[j]?=some (.d (.val (.slice none 0 0))))
  (h:dV P f (nC own r (.cells (cs.set j (.hd own.length)) t)++[.row ty sz []]) args K):dV P f own args K:=by
 refine .ut2 (fun c w hS=>?_) h;have hrefl:jM c.N [] (nC own r (.cells (cs.set j (.hd own.length)) t)++[.row ty sz []]) [] (nC own r (.cells (cs.set j (.hd own.length)) t)++[.row ty sz []]):=fun c a w hn hE hS=>⟨c,hE,hS,fun _ _=>rfl,hn,.refl c _ _⟩
 obtain⟨c1,k1,k2,k3,k4,k5⟩:=jM.DF (n0:=c.N) r j ty sz cs t hr hj hrefl c ⟨#[],[]⟩ w (qR _) ⟨rfl,fun i s u hs=>by simp at hs⟩ hS;exact⟨c1,k2,⟨k4,k3,k5.f⟩,k5⟩
theorem dV.DL {P:Program}{fn:FuncId}{own dG:List ak}{args oP:List SV}{K K0:SV->List ak->Prop}(q:List Nat)(h:dX P fn dG oP K0)(hm:Go.SX.mt q (args.map (Me (mV own args))) (mV own args) oP dG)
  (hK:∀ sv0 jo,K0 sv0 jo->q.length<=jo.length->K (Kv (Go.SX.xg q (mV own args).length) sv0) (xH (mV own args) q (jo.map (G5 (Go.SX.xg q (mV own args).length)))++(jo.drop q.length).map (G5 (Go.SX.xg q (mV own args).length)))):dV P fn own args K:=by
 unfold Go.SX.mt at hm;split at hm
 ·rename_i hp;obtain⟨h1,h2⟩:=Lr hm;obtain⟨h3,_⟩:=Qd h2;exact⟨⟨_,_,fun _ _ hS=>CJ args hS,.map _ fun _ _ _ _ hS h=>SC hS h,(h.embed q (Qi hp) (Qg hp) h3 h1).mono fun sv own' ⟨sv0,jo,k1,k2,k3,k4⟩=>by subst k3;subst k4;exact hK _ _ k1 k2⟩⟩
 ·exact hm.elim
theorem jM.Ox {n0:Nat}{env env':List SV}{own own':List ak}(rs:List Nat)(h:jM n0 env (FW own rs) env' own'):jM n0 env own env' own':=by
 intro c a w hn hE hS;obtain⟨c1,k1,k2,k3⟩:=OM rs own c w hS;obtain⟨c2,m1,m2,m3,m4,m5⟩:=h c1 a w (Nat.le_trans hn k2.n) (hE.mono k2) k1;exact⟨c2,m1,m2,fun r hr=>(m3 r hr).trans (k2.t r (by omega)),m4,k3.trans m5⟩
def Vg (sv:SV)(own':List ak)(ty:TypeId)(sz:Nat)(es:List (List D)):Prop :=
 match sv with
 | .hd r=>bG own' r=.row ty sz es
 | .d (.val (.slice none 0 0))=>es=[]
 |_=>False
theorem dX.row {P:Program}{f:FuncId}{args:List SV}{ty:TypeId}{sz:Nat}{es:List (List D)}(h:dX P f [] args (fun sv own'=>Vg sv own' ty sz es)) :
  dX P f [] args (fun sv own'=>sv=.hd 0/\own'=[.row ty sz es]):=by
 refine⟨h.1,fun c w us hS hr=>(h.2 c w us hS hr).mono ?_⟩;rintro e w' ⟨c',own',sv,u,rfl,k2,k3,k4,k5,k6⟩;have hN:c.N=0:=hS.n.symm;have fin:∀ (hone:u.oneCell'=true)(hres:FN { θ:=fun r=>if r=0 then u else .slice none 0 0,F:=c'.F,N:=1 } w' u (.row ty sz es))(hown:∀ b,jA u=some b->Own c' own' b/\c'.F b=none),
   ∃ c' own' sv u',Ending.returned u=.returned u'/\Rel c' sv u'/\Sat c' own' w'/\c.le c'/\Goes c [] w c' own' w'/\sv=.hd 0/\own'=[.row ty sz es]:=by
  intro hone hres hown;refine⟨{ θ:=fun r=>if r=0 then u else .slice none 0 0,F:=c'.F,N:=1 },_,.hd 0,u,rfl,.hd (Nat.zero_lt_one) (by simp),⟨rfl,?_,?_,?_,k3.le,?_,k3.tab⟩,⟨by omega,fun r hr=>by omega,k4.f⟩,⟨k5.os,k5.tape,k5.output,k5.size,k5.keep,k5.newF,?_,k5.f⟩,rfl,rfl⟩
  ·intro r x hx
   cases r with
   |zero=>simp at hx;subst hx;exact hres
   |succ r=>simp at hx
  ·intro r s x y b hx hy _ _ _ _
   cases r with
   |zero=>cases s with
    |zero=>rfl
    |succ s=>simp at hy
   |succ r=>simp at hx
  ·intro r x b hx _ hb
   cases r with
   |zero=>exact(hown b hb).2
   |succ r=>simp at hx
  ·intro r;show (if r=0 then u else .slice none 0 0).oneCell'=true;split
   ·exact hone
   ·rfl
  ·rintro b ⟨r,x,hx,_,hb⟩
   cases r with
   |zero=>exact k5.jR b (hown b hb).1
   |succ r=>simp at hx
 unfold Vg at k6;split at k6
 ·rename_i r;have hx:=zT k6 (by simp);cases k2 with|hd hr0 hθ =>
  have hres:=k3.res r _ hx;rw[hθ] at hres;exact fin (by rw[<- hθ];exact k3.one r) hres fun b hb=>⟨⟨r,_,hx,rfl,by rw[hθ];exact hb⟩,k3.iw r _ b hx rfl (by rw[hθ];exact hb)⟩
 ·subst k6;obtain rfl:=k2.gB;exact fin rfl ⟨by simp,[],World.ownsRow_nil w' 0 ty sz,by simp⟩ fun b hb=>by simp[jA] at hb
 ·exact k6.elim
end Go.SX
namespace Go.SX
open Go
variable [Tabs]
def VH (own:List ak):SV->SV
 | .dO cs=>.dO (cs.map (FX own))
 |s=>FX own s
theorem bs1 {c:Cx}{own:List ak}{w:World}(hS:Sat c own w){s:SV}{u:Value}(h:Rel c s u):Rel c (VH own s) u:=by
 unfold VH;split
 ·obtain⟨us,rfl,h2⟩:=Rel.yD.1 h;exact Rel.yD.2 ⟨us,rfl,by rw[h2.1,qY],fun i s u hs hu=>by
   rw[qF,Option.map_eq_some_iff] at hs;obtain⟨s0,hs0,rfl⟩:=hs;exact Sl hS (h2.2 i s0 u hs0 hu)⟩
 ·exact Sl hS h
theorem dX.qm3 {P:Program}{f:FuncId}{own:List ak}{args:List SV}{K0 K1:SV->List ak->Prop}(h:dX P f own args K0)(hK:∀ sv own',K0 sv own'->K1 (VH (CV own' sv) sv) (CV own' sv)):dX P f own args K1:=by
 refine⟨h.1,fun c w us hS hr=>(h.2 c w us hS hr).mono ?_⟩;rintro e w' ⟨c',own',sv,u,rfl,h2,h3,h4,h5,h6⟩;obtain⟨c1,k1,k2,k3⟩:=rs1 sv h3;exact⟨c1,_,_,u,rfl,bs1 k1 (h2.mono k2),k1,h4.trans k2,h5.trans k3,hK _ _ h6⟩
theorem Fn1.uq2 {P:Program}{f:FuncId}{df:fJ}{args:List SV}{s:SV}(hf:fD P f=some df.er)
  (h:∀ K:SV->List ak->Prop,(∀ sv own',VH (CV own' sv) sv=s->K sv own')->pR P 0 df.code (pad df.ntmps args) [] (Dc df.res K)):Fn1 P f args s :=
 dX.qm3 (K0:=fun sv own'=>VH (CV own' sv) sv=s) (dX.mJ hf h) fun _ _ h=>h
end Go.SX
