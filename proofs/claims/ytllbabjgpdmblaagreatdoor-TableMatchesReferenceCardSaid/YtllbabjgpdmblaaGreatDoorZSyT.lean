/- Parts of the proof. -/
import Derived.Test.YtllbabjgpdmblaaGreatDoorZSyS
set_option linter.unusedSimpArgs false
set_option linter.unusedVariables false
set_option linter.unusedSectionVars false
namespace Go.SX
open Go
variable [Tabs]
theorem qe0.trim {P:Program}{f:FuncId}{own base:List Res}{args:List SV}{s:SV}(p:List Nat)(hl:base.length=p.length)(hn:own.length≤p.length)(hp:∀ i,i<own.length→p[i]?=some i)
  (h:qe0 P f own args (fun sv own'=>mt p [sv] own' [s] base)):qe0 P f own args (fun sv own'=>sv=s∧own'=base):=by
 refine⟨h.1,fun c w us hS hr=>(h.2 c w us hS hr).mono ?_⟩;rintro e w' ⟨c',own',sv,u,rfl,k1,k2,k3,k4,k5⟩;unfold Go.SX.mt at k5;split at k5
 ·rename_i hok;obtain⟨m1,m2⟩:=bi0 k5;obtain⟨m3,_⟩:=ey0 m2;have hlt:=ex0 hok;have hpN:∀ r∈p,r<c'.N:=fun r hr=>by rw[← k2.n];exact hlt r hr
  have hS2:=k2.ren (fw0 hok) hlt m3;have hcN:c.N=own.length:=hS.n.symm;refine⟨c'.ren p,base,s,u,rfl,dl0 k2 hpN m1.1 k1,hS2,⟨by simp only[Cx.ren];omega,fun r hr=>?_,k3.f⟩,?_,rfl,rfl⟩
  ·simp only[Cx.ren,hp r (by omega)];exact k3.t r hr
  ·refine⟨k4.os,k4.tape,k4.output,k4.size,k4.keep,k4.newF,fun b hb=>?_,k4.f⟩;obtain⟨r,x,_,h1,h2,h3⟩:=ib0 hlt m3 hb;exact k4.newO b ⟨r,x,h1,h2,h3⟩
 ·exact k5.elim
theorem qe0.walkT {P:Program}{f:FuncId}{df:EFn}{own base:List Res}{args:List SV}{s:SV}(p:List Nat)(n:Nat)(hl:base.length=p.length)(h0:own.length=n)(hn:n≤p.length)(hp:∀ i,i<n→p[i]?=some i)(hf:zv0 P f=some df.er)
  (h:∀ K:SV→List Res→Prop,(∀ sv own',mt p [sv] own' [s] base→K sv own')→wpW P own.length df.code (pad df.ntmps args) own (dc1 df.res K)):qe0 P f own args (fun sv own'=>sv=s∧own'=base):=by
 subst h0;exact qe0.trim p hl hn hp (fe0 hf (h _ fun _ _ h=>h))
theorem qe0.yh1 {P:Program}{f:FuncId}{df:EFn}{own base:List Res}{args:List SV}{s:SV}(n:Nat)(h0:own.length=n)(hn:n≤base.length)(hf:zv0 P f=some df.er)
  (h:∀ K:SV→List Res→Prop,(∀ sv own' (p:List Nat),mtE n p [sv] own' [s] base→K sv own')→wpW P own.length df.code (pad df.ntmps args) own (dc1 df.res K)):qe0 P f own args (fun sv own'=>sv=s∧own'=base):=by
 subst h0;have hS:=fe0 hf (h (fun sv own'=>∃ p,mtE own.length p [sv] own' [s] base) fun sv own' p hp=>⟨p,hp⟩);refine⟨hS.1,fun c w us hs hr=>(hS.2 c w us hs hr).mono ?_⟩;rintro e w' ⟨c',own',sv,u,rfl,k1,k2,k3,k4,p,k5⟩;unfold Go.SX.mtE at k5;split at k5
 ·rename_i hok;rw[qJ] at hok;obtain⟨m1,m2⟩:=bo0 k5;obtain⟨m3,_⟩:=jh1 m2;have hlt:=pz1 hok.1;have hp:∀ i,i<own.length→p[i]?=some i:=fun i hi=>by have:=il0 p 0 own.length hok.2 i (Nat.zero_le _) hi;simpa using this
  have hpN:∀ r∈p,r<c'.N:=fun r hr=>by rw[← k2.n];exact hlt r hr
  have hS2:=k2.ad1 (pq1 hok.1) hlt m3;have hcN:c.N=own.length:=hs.n.symm;have hlen:own.length≤p.length:=by have:=(ry0 m3).1;omega
  refine⟨c'.ren p,base,s,u,rfl,dl0 k2 hpN m1.1 k1,hS2,⟨by simp only[Cx.ren];omega,fun r hr=>?_,k3.f⟩,?_,rfl,rfl⟩
  ·simp only[Cx.ren,hp r (by omega)];exact k3.t r hr
  ·refine⟨k4.os,k4.tape,k4.output,k4.size,k4.keep,k4.newF,fun b hb=>?_,k4.f⟩;obtain⟨r,x,_,h1,h2,h3⟩:=ib0 hlt m3 hb;exact k4.newO b ⟨r,x,h1,h2,h3⟩
 ·exact k5.elim
theorem CallS.wk2 {P:Program}{f:FuncId}{own own1:List Res}{args:List SV}{K:SV→List Res→Prop}(ho:lg0 own own1)(h:CallS P f own1 args K):CallS P f own args K:=by
 obtain⟨own2,args2,h1,h2,h3⟩:=h.k;exact⟨own2,args2,.trans ho h1,h2,h3⟩
theorem CallS.frzh {P:Program}{f:FuncId}{own:List Res}{args:List SV}{K:SV→List Res→Prop}(l:List SV)(h:CallS P f (sr0 own l) args K):CallS P f own args K:=.wk2 (fun _ _ hS=>xl0 l hS) h
theorem CallS.yp0 {P:Program}{f:FuncId}{own:List Res}{args:List SV}{K:SV→List Res→Prop}(r j ty sz:Nat)(cs:List SV)(t:TypeId)(hr:ze0 own r=.cells cs t)(hj:cs[j]?=some (.d (.val (.slice none 0 0))))
  (h:CallS P f (su0 own r (.cells (cs.set j (.hd own.length)) t)++[.row ty sz []]) args K):CallS P f own args K:=by
 refine .wk2 (fun c w hS=>?_) h;have hrefl:gz0 c.N [] (su0 own r (.cells (cs.set j (.hd own.length)) t)++[.row ty sz []]) [] (su0 own r (.cells (cs.set j (.hd own.length)) t)++[.row ty sz []]):=fun c a w hn hE hS=>⟨c,hE,hS,fun _ _=>rfl,hn,.refl c _ _⟩
 obtain⟨c1,k1,k2,k3,k4,k5⟩:=gz0.yp0 (n0:=c.N) r j ty sz cs t hr hj hrefl c ⟨#[],[]⟩ w (qV _) ⟨rfl,fun i s u hs=>by simp at hs⟩ hS;exact⟨c1,k2,⟨k4,k3,k5.f⟩,k5⟩
theorem CallS.dr1 {P:Program}{fn:FuncId}{own own0:List Res}{args args0:List SV}{K K0:SV→List Res→Prop}(q:List Nat)(h:qe0 P fn own0 args0 K0)(hm:Go.SX.mt q (args.map (iu1 (sr0 own args))) (sr0 own args) args0 own0)
  (hK:∀ sv0 own0',K0 sv0 own0'→q.length≤own0'.length→K (emS (Go.SX.emb q (sr0 own args).length) sv0) (vc0 (sr0 own args) q (own0'.map (emR (Go.SX.emb q (sr0 own args).length)))++(own0'.drop q.length).map (emR (Go.SX.emb q (sr0 own args).length)))):CallS P fn own args K:=by
 unfold Go.SX.mt at hm;split at hm
 ·rename_i hp;obtain⟨h1,h2⟩:=bi0 hm;obtain⟨h3,_⟩:=ey0 h2;exact⟨⟨_,_,fun _ _ hS=>xl0 args hS,.map _ fun _ _ _ _ hS h=>pe0 hS h,(h.embed q (fw0 hp) (ex0 hp) h3 h1).mono fun sv own' ⟨sv0,own0',k1,k2,k3,k4⟩=>by subst k3;subst k4;exact hK _ _ k1 k2⟩⟩
 ·exact hm.elim
theorem gz0.zp2 {n0:Nat}{env env':List SV}{own own':List Res}(rs:List Nat)(h:gz0 n0 env (rc0 own rs) env' own'):gz0 n0 env own env' own':=by
 intro c a w hn hE hS;obtain⟨c1,k1,k2,k3⟩:=sn0 rs own c w hS;obtain⟨c2,m1,m2,m3,m4,m5⟩:=h c1 a w (Nat.le_trans hn k2.n) (hE.mono k2) k1;exact⟨c2,m1,m2,fun r hr=>(m3 r hr).trans (k2.t r (by omega)),m4,k3.trans m5⟩
def endO (sv:SV)(own':List Res)(ty:TypeId)(sz:Nat)(es:List (List D)):Prop :=
 match sv with
 | .hd r=>ze0 own' r=.row ty sz es
 | .d (.val (.slice none 0 0))=>es=[]
 | _=>False
theorem qe0.row {P:Program}{f:FuncId}{args:List SV}{ty:TypeId}{sz:Nat}{es:List (List D)}(h:qe0 P f [] args (fun sv own'=>endO sv own' ty sz es)) :
  qe0 P f [] args (fun sv own'=>sv=.hd 0∧own'=[.row ty sz es]):=by
 refine⟨h.1,fun c w us hS hr=>(h.2 c w us hS hr).mono ?_⟩;rintro e w' ⟨c',own',sv,u,rfl,k2,k3,k4,k5,k6⟩;have hN:c.N=0:=hS.n.symm;have fin:∀ (hone:u.oneCell'=true)(hres:cw0 { θ:=fun r=>if r=0 then u else .slice none 0 0,F:=c'.F,N:=1 } w' u (.row ty sz es))(hown:∀ b,yc0 u=some b→Own c' own' b∧c'.F b=none),
   ∃ c' own' sv u',Ending.returned u=.returned u'∧Rel c' sv u'∧Sat c' own' w'∧c.le c'∧Goes c [] w c' own' w'∧sv=.hd 0∧own'=[.row ty sz es]:=by
  intro hone hres hown;refine⟨{ θ:=fun r=>if r=0 then u else .slice none 0 0,F:=c'.F,N:=1 },_,.hd 0,u,rfl,.hd (Nat.zero_lt_one) (by simp),⟨rfl,?_,?_,?_,k3.le,?_,k3.tab⟩,⟨by omega,fun r hr=>by omega,k4.f⟩,⟨k5.os,k5.tape,k5.output,k5.size,k5.keep,k5.newF,?_,k5.f⟩,rfl,rfl⟩
  ·intro r x hx
   cases r with
   | zero=>simp at hx;subst hx;exact hres
   | succ r=>simp at hx
  ·intro r s x y b hx hy _ _ _ _
   cases r with
   | zero=>cases s with
    | zero=>rfl
    | succ s=>simp at hy
   | succ r=>simp at hx
  ·intro r x b hx _ hb
   cases r with
   | zero=>exact(hown b hb).2
   | succ r=>simp at hx
  ·intro r;show (if r=0 then u else .slice none 0 0).oneCell'=true;split
   ·exact hone
   ·rfl
  ·rintro b ⟨r,x,hx,_,hb⟩
   cases r with
   | zero=>exact k5.newO b (hown b hb).1
   | succ r=>simp at hx
 unfold endO at k6;split at k6
 ·rename_i r;have hx:=ws0 k6 (by simp);cases k2 with | hd hr0 hθ =>
  have hres:=k3.res r _ hx;rw[hθ] at hres;exact fin (by rw[← hθ];exact k3.one r) hres fun b hb=>⟨⟨r,_,hx,rfl,by rw[hθ];exact hb⟩,k3.notF r _ b hx rfl (by rw[hθ];exact hb)⟩
 ·subst k6;obtain rfl:=k2.zz0;exact fin rfl ⟨by simp,[],World.ownsRow_nil w' 0 ty sz,by simp⟩ fun b hb=>by simp[yc0] at hb
 ·exact k6.elim
end Go.SX
namespace Go.SX
open Go
variable [Tabs]
def pk1 (own:List Res):SV→SV
 | .tup cs=>.tup (cs.map (pv1 own))
 | s=>pv1 own s
theorem px1 {c:Cx}{own:List Res}{w:World}(hS:Sat c own w){s:SV}{u:Value}(h:Rel c s u):Rel c (pk1 own s) u:=by
 unfold pk1;split
 ·obtain⟨us,rfl,h2⟩:=Rel.vf0.1 h;exact Rel.vf0.2 ⟨us,rfl,by rw[h2.1,qW],fun i s u hs hu=>by
   rw[qH,Option.map_eq_some_iff] at hs;obtain⟨s0,hs0,rfl⟩:=hs;exact pr0 hS (h2.2 i s0 u hs0 hu)⟩
 ·exact pr0 hS h
theorem qe0.th2 {P:Program}{f:FuncId}{own:List Res}{args:List SV}{K0 K1:SV→List Res→Prop}(h:qe0 P f own args K0)(hK:∀ sv own',K0 sv own'→K1 (pk1 (dj1 own' sv) sv) (dj1 own' sv)):qe0 P f own args K1:=by
 refine⟨h.1,fun c w us hS hr=>(h.2 c w us hS hr).mono ?_⟩;rintro e w' ⟨c',own',sv,u,rfl,h2,h3,h4,h5,h6⟩;obtain⟨c1,k1,k2,k3⟩:=lb1 sv h3;exact⟨c1,_,_,u,rfl,px1 k1 (h2.mono k2),k1,h4.trans k2,h5.trans k3,hK _ _ h6⟩
theorem Fn1.cy1 {P:Program}{f:FuncId}{df:EFn}{args:List SV}{s:SV}(hf:zv0 P f=some df.er)
  (h:∀ K:SV→List Res→Prop,(∀ sv own',pk1 (dj1 own' sv) sv=s→K sv own')→wpW P 0 df.code (pad df.ntmps args) [] (dc1 df.res K)):Fn1 P f args s :=
 qe0.th2 (K0:=fun sv own'=>pk1 (dj1 own' sv) sv=s) (qe0.vz0 hf h) fun _ _ h=>h
end Go.SX
