/- Parts of the proof. -/
import Derived.Test.YtllbabjgpdmblaaDoorZSyS
set_option linter.unusedSimpArgs false
set_option linter.unusedVariables false
set_option linter.unusedSectionVars false
namespace Go.SX
open Go
variable [Tabs]
theorem SCall.trim {P:Program}{f:FuncId}{own base:List Res}{args:List SV}{s:SV}(p:List Nat)(hl:base.length=p.length)(hn:own.length≤p.length)(hp:∀ i,i<own.length→p[i]?=some i)
  (h:SCall P f own args (fun sv own'=>mt p [sv] own' [s] base)):SCall P f own args (fun sv own'=>sv=s∧own'=base):=by
 refine⟨h.1,fun c w us hS hr=>(h.2 c w us hS hr).mono ?_⟩
 rintro e w' ⟨c',own',sv,u,rfl,k1,k2,k3,k4,k5⟩
 unfold Go.SX.mt at k5
 split at k5
 ·rename_i hok
  obtain⟨m1,m2⟩:=ah0 k5
  obtain⟨m3,_⟩:=mp0 m2
  have hlt:=my0 hok
  have hpN:∀ r∈p,r<c'.N:=fun r hr=>by rw[← k2.n];exact hlt r hr
  have hS2:=k2.ren (kg0 hok) hlt m3
  have hcN:c.N=own.length:=hS.n.symm
  refine⟨c'.ren p,base,s,u,rfl,vt0 k2 hpN m1.1 k1,hS2,⟨by simp only[Cx.ren];omega,fun r hr=>?_,k3.f⟩,?_,rfl,rfl⟩
  ·simp only[Cx.ren,hp r (by omega)]
   exact k3.t r hr
  ·refine⟨k4.os,k4.tape,k4.output,k4.size,k4.keep,k4.newF,fun b hb=>?_,k4.f⟩
   obtain⟨r,x,_,h1,h2,h3⟩:=nw0 hlt m3 hb
   exact k4.newO b ⟨r,x,h1,h2,h3⟩
 ·exact k5.elim
theorem SCall.walkT {P:Program}{f:FuncId}{df:EFn}{own base:List Res}{args:List SV}{s:SV}(p:List Nat)(n:Nat)(hl:base.length=p.length)(h0:own.length=n)(hn:n≤p.length)(hp:∀ i,i<n→p[i]?=some i)(hf:compF P f=some df.er)
  (h:∀ K:SV→List Res→Prop,(∀ sv own',mt p [sv] own' [s] base→K sv own')→wpW P own.length df.code (pad df.ntmps args) own (EndN df.res K)):SCall P f own args (fun sv own'=>sv=s∧own'=base):=by
 subst h0
 exact SCall.trim p hl hn hp (kn0 hf (h _ fun _ _ h=>h))
theorem SCall.walkG {P:Program}{f:FuncId}{df:EFn}{own base:List Res}{args:List SV}{s:SV}(n:Nat)(h0:own.length=n)(hn:n≤base.length)(hf:compF P f=some df.er)
  (h:∀ K:SV→List Res→Prop,(∀ sv own' (p:List Nat),mtE n p [sv] own' [s] base→K sv own')→wpW P own.length df.code (pad df.ntmps args) own (EndN df.res K)):SCall P f own args (fun sv own'=>sv=s∧own'=base):=by
 subst h0
 have hS:=kn0 hf (h (fun sv own'=>∃ p,mtE own.length p [sv] own' [s] base) fun sv own' p hp=>⟨p,hp⟩)
 refine⟨hS.1,fun c w us hs hr=>(hS.2 c w us hs hr).mono ?_⟩
 rintro e w' ⟨c',own',sv,u,rfl,k1,k2,k3,k4,p,k5⟩
 unfold Go.SX.mtE at k5
 split at k5
 ·rename_i hok
  rw[Bool.and_eq_true] at hok
  obtain⟨m1,m2⟩:=af0 k5
  obtain⟨m3,_⟩:=mtO'_le m2
  have hlt:=okG_lt hok.1
  have hp:∀ i,i<own.length→p[i]?=some i:=fun i hi=>by have:=nc0 p 0 own.length hok.2 i (Nat.zero_le _) hi;simpa using this
  have hpN:∀ r∈p,r<c'.N:=fun r hr=>by rw[← k2.n];exact hlt r hr
  have hS2:=k2.renL (okG_nd hok.1) hlt m3
  have hcN:c.N=own.length:=hs.n.symm
  have hlen:own.length≤p.length:=by have:=(au0 m3).1;omega
  refine⟨c'.ren p,base,s,u,rfl,vt0 k2 hpN m1.1 k1,hS2,⟨by simp only[Cx.ren];omega,fun r hr=>?_,k3.f⟩,?_,rfl,rfl⟩
  ·simp only[Cx.ren,hp r (by omega)]
   exact k3.t r hr
  ·refine⟨k4.os,k4.tape,k4.output,k4.size,k4.keep,k4.newF,fun b hb=>?_,k4.f⟩
   obtain⟨r,x,_,h1,h2,h3⟩:=nw0 hlt m3 hb
   exact k4.newO b ⟨r,x,h1,h2,h3⟩
 ·exact k5.elim
theorem CallS.ownLe {P:Program}{f:FuncId}{own own1:List Res}{args:List SV}{K:SV→List Res→Prop}(ho:gr0 own own1)(h:CallS P f own1 args K):CallS P f own args K:=by
 obtain⟨own2,args2,h1,h2,h3⟩:=h.k
 exact⟨own2,args2,.trans ho h1,h2,h3⟩
theorem CallS.frzh {P:Program}{f:FuncId}{own:List Res}{args:List SV}{K:SV→List Res→Prop}(l:List SV)(h:CallS P f (xg0 own l) args K):CallS P f own args K:=.ownLe (fun _ _ hS=>yr0 l hS) h
theorem CallS.nilcell {P:Program}{f:FuncId}{own:List Res}{args:List SV}{K:SV→List Res→Prop}(r j ty sz:Nat)(cs:List SV)(t:TypeId)(hr:qm0 own r=.cells cs t)(hj:cs[j]?=some (.d (.val (.slice none 0 0))))
  (h:CallS P f (xt0 own r (.cells (cs.set j (.hd own.length)) t)++[.row ty sz []]) args K):CallS P f own args K:=by
 refine .ownLe (fun c w hS=>?_) h
 have hrefl:js0 c.N [] (xt0 own r (.cells (cs.set j (.hd own.length)) t)++[.row ty sz []]) [] (xt0 own r (.cells (cs.set j (.hd own.length)) t)++[.row ty sz []]):=fun c a w hn hE hS=>⟨c,hE,hS,fun _ _=>rfl,hn,.refl c _ _⟩
 obtain⟨c1,k1,k2,k3,k4,k5⟩:=js0.nilcell (n0:=c.N) r j ty sz cs t hr hj hrefl c ⟨#[],[]⟩ w (Nat.le_refl _) ⟨rfl,fun i s u hs=>by simp at hs⟩ hS
 exact⟨c1,k2,⟨k4,k3,k5.f⟩,k5⟩
theorem CallS.embL {P:Program}{fn:FuncId}{own own0:List Res}{args args0:List SV}{K K0:SV→List Res→Prop}(q:List Nat)(h:SCall P fn own0 args0 K0)(hm:Go.SX.mt q (args.map (nrmE (xg0 own args))) (xg0 own args) args0 own0)
  (hK:∀ sv0 own0',K0 sv0 own0'→q.length≤own0'.length→K (emS (Go.SX.emb q (xg0 own args).length) sv0) (yw0 (xg0 own args) q (own0'.map (emR (Go.SX.emb q (xg0 own args).length)))++(own0'.drop q.length).map (emR (Go.SX.emb q (xg0 own args).length)))):CallS P fn own args K:=by
 unfold Go.SX.mt at hm
 split at hm
 ·rename_i hp
  obtain⟨h1,h2⟩:=ah0 hm
  obtain⟨h3,_⟩:=mp0 h2
  exact⟨⟨_,_,fun _ _ hS=>yr0 args hS,.map _ fun _ _ _ _ hS h=>gv0 hS h,(h.embed q (kg0 hp) (my0 hp) h3 h1).mono fun sv own' ⟨sv0,own0',k1,k2,k3,k4⟩=>by subst k3;subst k4;exact hK _ _ k1 k2⟩⟩
 ·exact hm.elim
theorem js0.frzP {n0:Nat}{env env':List SV}{own own':List Res}(rs:List Nat)(h:js0 n0 env (pv0 own rs) env' own'):js0 n0 env own env' own':=by
 intro c a w hn hE hS
 obtain⟨c1,k1,k2,k3⟩:=xb0 rs own c w hS
 obtain⟨c2,m1,m2,m3,m4,m5⟩:=h c1 a w (Nat.le_trans hn k2.n) (hE.mono k2) k1
 exact⟨c2,m1,m2,fun r hr=>(m3 r hr).trans (k2.t r (by omega)),m4,k3.trans m5⟩
def endO (sv:SV)(own':List Res)(ty:TypeId)(sz:Nat)(es:List (List D)):Prop :=
 match sv with
 | .hd r=>qm0 own' r=.row ty sz es
 | .d (.val (.slice none 0 0))=>es=[]
 | _=>False
theorem SCall.row {P:Program}{f:FuncId}{args:List SV}{ty:TypeId}{sz:Nat}{es:List (List D)}(h:SCall P f [] args (fun sv own'=>endO sv own' ty sz es)) :
  SCall P f [] args (fun sv own'=>sv=.hd 0∧own'=[.row ty sz es]):=by
 refine⟨h.1,fun c w us hS hr=>(h.2 c w us hS hr).mono ?_⟩
 rintro e w' ⟨c',own',sv,u,rfl,k2,k3,k4,k5,k6⟩
 have hN:c.N=0:=hS.n.symm
 have fin:∀ (hone:u.oneCell'=true)(hres:lq0 { θ:=fun r=>if r=0 then u else .slice none 0 0,F:=c'.F,N:=1 } w' u (.row ty sz es))(hown:∀ b,zt0 u=some b→Own c' own' b∧c'.F b=none),
   ∃ c' own' sv u',Ending.returned u=.returned u'∧Rel c' sv u'∧Sat c' own' w'∧c.le c'∧Goes c [] w c' own' w'∧sv=.hd 0∧own'=[.row ty sz es]:=by
  intro hone hres hown
  refine⟨{ θ:=fun r=>if r=0 then u else .slice none 0 0,F:=c'.F,N:=1 },_,.hd 0,u,rfl,.hd (Nat.zero_lt_one) (by simp),⟨rfl,?_,?_,?_,k3.le,?_,k3.tab⟩,⟨by omega,fun r hr=>by omega,k4.f⟩,⟨k5.os,k5.tape,k5.output,k5.size,k5.keep,k5.newF,?_,k5.f⟩,rfl,rfl⟩
  ·intro r x hx
   cases r with
   | zero=>simp at hx;subst hx;exact hres
   | succ r=>simp at hx
  ·intro r s x y b hx hy _ _ _ _
   cases r with
   | zero=>cases s with
    | zero=>rfl
    | succ s=>simp at hy
   | succ r=>simp at hx
  ·intro r x b hx _ hb
   cases r with
   | zero=>exact(hown b hb).2
   | succ r=>simp at hx
  ·intro r
   show (if r=0 then u else .slice none 0 0).oneCell'=true
   split
   ·exact hone
   ·rfl
  ·rintro b ⟨r,x,hx,_,hb⟩
   cases r with
   | zero=>exact k5.newO b (hown b hb).1
   | succ r=>simp at hx
 unfold endO at k6
 split at k6
 ·rename_i r
  have hx:=zp0 k6 (by simp)
  cases k2 with | hd hr0 hθ =>
  have hres:=k3.res r _ hx
  rw[hθ] at hres
  exact fin (by rw[← hθ];exact k3.one r) hres fun b hb=>⟨⟨r,_,hx,rfl,by rw[hθ];exact hb⟩,k3.notF r _ b hx rfl (by rw[hθ];exact hb)⟩
 ·subst k6
  obtain rfl:=k2.qw0
  exact fin rfl ⟨by simp,[],World.ownsRow_nil w' 0 ty sz,by simp⟩ fun b hb=>by simp[zt0] at hb
 ·exact k6.elim
end Go.SX
