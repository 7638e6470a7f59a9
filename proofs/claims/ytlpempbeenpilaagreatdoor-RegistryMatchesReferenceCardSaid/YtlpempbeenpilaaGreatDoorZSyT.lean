/- Parts of the proof. -/
import Derived.Test.YtlpempbeenpilaaGreatDoorZSyS
set_option linter.unusedSimpArgs false
set_option linter.unusedVariables false
set_option linter.unusedSectionVars false
namespace Go.SX
open Go
variable [Tabs]
theorem SCall.trimE {P:Program}{f:FuncId}{own base:List Res}{args:List SV}{s:SV}(hS:SCall P f own args (fun sv own'=>∃ p,mtE own.length p [sv] own' [s] base))(hn:own.length≤base.length) :
  SCall P f own args (fun sv own'=>sv=s∧own'=base):=by
 refine⟨hS.1,fun c w us hs hr=>(hS.2 c w us hs hr).mono ?_⟩;rintro e w' ⟨c',own',sv,u,rfl,k1,k2,k3,k4,p,k5⟩;unfold Go.SX.mtE at k5;split at k5
 ·rename_i hok;rw[qJ] at hok;obtain⟨m1,m2⟩:=mtL'_le k5;obtain⟨m3,_⟩:=mtO'_le m2;have hlt:=okG_lt hok.1;have hp:∀ i,i<own.length→p[i]?=some i:=fun i hi=>by have:=okQ_get p 0 own.length hok.2 i (Nat.zero_le _) hi;simpa using this
  have hpN:∀ r∈p,r<c'.N:=fun r hr=>by rw[← k2.n];exact hlt r hr
  have hS2:=k2.renL (okG_nd hok.1) hlt m3;have hcN:c.N=own.length:=hs.n.symm;have hlen:own.length≤p.length:=by have:=(leO_get m3).1;omega
  refine⟨c'.ren p,base,s,u,rfl,leS_rel k2 hpN m1.1 k1,hS2,⟨by simp only[Cx.ren];omega,fun r hr=>?_,k3.f⟩,?_,rfl,rfl⟩
  ·simp only[Cx.ren,hp r (by omega)];exact k3.t r hr
  ·refine⟨k4.os,k4.tape,k4.output,k4.size,k4.keep,k4.newF,fun b hb=>?_,k4.f⟩;obtain⟨r,x,_,h1,h2,h3⟩:=ren_own hlt m3 hb;exact k4.newO b ⟨r,x,h1,h2,h3⟩
 ·exact k5.elim
theorem CallS.embL {P:Program}{fn:FuncId}{own own0:List Res}{args args0:List SV}{K K0:SV→List Res→Prop}(q:List Nat)(h:SCall P fn own0 args0 K0)(hm:Go.SX.mt q (args.map (nrmE (frzL own args))) (frzL own args) args0 own0)
  (hK:∀ sv0 own0',K0 sv0 own0'→q.length≤own0'.length→K (emS (Go.SX.emb q (frzL own args).length) sv0) (setAll (frzL own args) q (own0'.map (emR (Go.SX.emb q (frzL own args).length)))++(own0'.drop q.length).map (emR (Go.SX.emb q (frzL own args).length)))):CallS P fn own args K:=by
 unfold Go.SX.mt at hm;split at hm
 ·rename_i hp;obtain⟨h1,h2⟩:=mtL_le hm;obtain⟨h3,_⟩:=mtO_le h2;exact⟨⟨_,_,fun _ _ hS=>frzL_ok args hS,.map _ fun _ _ _ _ hS h=>nrmE_rel hS h,(h.embed q (okP_nodup hp) (okP_lt hp) h3 h1).mono fun sv own' ⟨sv0,own0',k1,k2,k3,k4⟩=>by subst k3;subst k4;exact hK _ _ k1 k2⟩⟩
 ·exact hm.elim
theorem CallS.embLP {P:Program}{fn:FuncId}{own own0:List Res}{args args0:List SV}{K K0:SV→List Res→Prop}(rs q:List Nat)(h:SCall P fn own0 args0 K0)(hm:Go.SX.mt q (args.map (nrmE (frzPs (frzL own args) rs))) (frzPs (frzL own args) rs) args0 own0)
  (hK:∀ sv0 own0',K0 sv0 own0'→q.length≤own0'.length→K (emS (Go.SX.emb q (frzPs (frzL own args) rs).length) sv0) (setAll (frzPs (frzL own args) rs) q (own0'.map (emR (Go.SX.emb q (frzPs (frzL own args) rs).length)))++(own0'.drop q.length).map (emR (Go.SX.emb q (frzPs (frzL own args) rs).length)))):CallS P fn own args K:=by
 unfold Go.SX.mt at hm;split at hm
 ·rename_i hp;obtain⟨h1,h2⟩:=mtL_le hm;obtain⟨h3,_⟩:=mtO_le h2;exact⟨⟨_,_,OwnLe.trans (fun _ _ hS=>frzL_ok args hS) (frzPs_ok rs _),.map _ fun _ _ _ _ hS h=>nrmE_rel hS h,(h.embed q (okP_nodup hp) (okP_lt hp) h3 h1).mono fun sv own' ⟨sv0,own0',k1,k2,k3,k4⟩=>by subst k3;subst k4;exact hK _ _ k1 k2⟩⟩
 ·exact hm.elim
theorem StLe.frzP {n0:Nat}{env env':List SV}{own own':List Res}(rs:List Nat)(h:StLe n0 env (frzPs own rs) env' own'):StLe n0 env own env' own':=by
 intro c a w hn hE hS;obtain⟨c1,k1,k2,k3⟩:=frzPs_ok rs own c w hS;obtain⟨c2,m1,m2,m3,m4,m5⟩:=h c1 a w (Nat.le_trans hn k2.n) (hE.mono k2) k1;exact⟨c2,m1,m2,fun r hr=>(m3 r hr).trans (k2.t r (by omega)),m4,k3.trans m5⟩
def endO (sv:SV)(own':List Res)(ty:TypeId)(sz:Nat)(es:List (List D)):Prop :=
 match sv with
 | .hd r=>getr own' r=.row ty sz es
 | .d (.val (.slice none 0 0))=>es=[]
 | _=>False
theorem SCall.row {P:Program}{f:FuncId}{args:List SV}{ty:TypeId}{sz:Nat}{es:List (List D)}(h:SCall P f [] args (fun sv own'=>endO sv own' ty sz es)) :
  SCall P f [] args (fun sv own'=>sv=.hd 0∧own'=[.row ty sz es]):=by
 refine⟨h.1,fun c w us hS hr=>(h.2 c w us hS hr).mono ?_⟩;rintro e w' ⟨c',own',sv,u,rfl,k2,k3,k4,k5,k6⟩;have hN:c.N=0:=hS.n.symm;have fin:∀ (hone:u.oneCell'=true)(hres:ResOk { θ:=fun r=>if r=0 then u else .slice none 0 0,F:=c'.F,N:=1 } w' u (.row ty sz es))(hown:∀ b,blkOf u=some b→Own c' own' b∧c'.F b=none),
   ∃ c' own' sv u',Ending.returned u=.returned u'∧Rel c' sv u'∧Sat c' own' w'∧c.le c'∧Goes c [] w c' own' w'∧sv=.hd 0∧own'=[.row ty sz es]:=by
  intro hone hres hown;refine⟨{ θ:=fun r=>if r=0 then u else .slice none 0 0,F:=c'.F,N:=1 },_,.hd 0,u,rfl,.hd (Nat.zero_lt_one) (by simp),⟨rfl,?_,?_,?_,k3.le,?_,k3.tab⟩,⟨by omega,fun r hr=>by omega,k4.f⟩,⟨k5.os,k5.tape,k5.output,k5.size,k5.keep,k5.newF,?_,k5.f⟩,rfl,rfl⟩
  ·intro r x hx
   cases r with
   | zero=>simp at hx;subst hx;exact hres
   | succ r=>simp at hx
  ·intro r s x y b hx hy _ _ _ _
   cases r with
   | zero=>cases s with
    | zero=>rfl
    | succ s=>simp at hy
   | succ r=>simp at hx
  ·intro r x b hx _ hb
   cases r with
   | zero=>exact(hown b hb).2
   | succ r=>simp at hx
  ·intro r;show (if r=0 then u else .slice none 0 0).oneCell'=true;split
   ·exact hone
   ·rfl
  ·rintro b ⟨r,x,hx,_,hb⟩
   cases r with
   | zero=>exact k5.newO b (hown b hb).1
   | succ r=>simp at hx
 unfold endO at k6;split at k6
 ·rename_i r;have hx:=getr_some k6 (by simp);cases k2 with | hd hr0 hθ =>
  have hres:=k3.res r _ hx;rw[hθ] at hres;exact fin (by rw[← hθ];exact k3.one r) hres fun b hb=>⟨⟨r,_,hx,rfl,by rw[hθ];exact hb⟩,k3.notF r _ b hx rfl (by rw[hθ];exact hb)⟩
 ·subst k6;obtain rfl:=k2.of_val;exact fin rfl ⟨by simp,[],World.ownsRow_nil w' 0 ty sz,by simp⟩ fun b hb=>by simp[blkOf] at hb
 ·exact k6.elim
theorem SCall.walkO {P:Program}{f:FuncId}{df:EFn}{args:List SV}{ty:TypeId}{sz:Nat}{es:List (List D)}(hf:compF P f=some df.er)
  (h:∀ K:SV→List Res→Prop,(∀ sv own',endO sv own' ty sz es→K sv own')→wpW P 0 df.code (pad df.ntmps args) [] (EndN df.res K)):SCall P f [] args (fun sv own'=>sv=.hd 0∧own'=[.row ty sz es]) :=
 SCall.row (scall_walkE hf (h _ fun _ _ h=>h))
end Go.SX
namespace Go.SX
open Go
variable [Tabs]
def nrmR2 (own:List Res):SV→SV
 | .tup cs=>.tup (cs.map (nrmR own))
 | s=>nrmR own s
theorem nrmR2_rel {c:Cx}{own:List Res}{w:World}(hS:Sat c own w){s:SV}{u:Value}(h:Rel c s u):Rel c (nrmR2 own s) u:=by
 unfold nrmR2;split
 ·obtain⟨us,rfl,h2⟩:=Rel.tup_iff.1 h;exact Rel.tup_iff.2 ⟨us,rfl,by rw[h2.1,qO],fun i s u hs hu=>by
   rw[qI,Option.map_eq_some_iff] at hs;obtain⟨s0,hs0,rfl⟩:=hs;exact nrmR_rel hS (h2.2 i s0 u hs0 hu)⟩
 ·exact nrmR_rel hS h
theorem SCall.data2 {P:Program}{f:FuncId}{own:List Res}{args:List SV}{K0 K1:SV→List Res→Prop}(h:SCall P f own args K0)(hK:∀ sv own',K0 sv own'→K1 (nrmR2 (frzR own' sv) sv) (frzR own' sv)):SCall P f own args K1:=by
 refine⟨h.1,fun c w us hS hr=>(h.2 c w us hS hr).mono ?_⟩;rintro e w' ⟨c',own',sv,u,rfl,h2,h3,h4,h5,h6⟩;obtain⟨c1,k1,k2,k3⟩:=frzR_ok sv h3;exact⟨c1,_,_,u,rfl,nrmR2_rel k1 (h2.mono k2),k1,h4.trans k2,h5.trans k3,hK _ _ h6⟩
theorem Fn1.walkE2 {P:Program}{f:FuncId}{df:EFn}{args:List SV}{s:SV}(hf:compF P f=some df.er)
  (h:∀ K:SV→List Res→Prop,(∀ sv own',nrmR2 (frzR own' sv) sv=s→K sv own')→wpW P 0 df.code (pad df.ntmps args) [] (EndN df.res K)):Fn1 P f args s :=
 SCall.data2 (K0:=fun sv own'=>nrmR2 (frzR own' sv) sv=s) (SCall.walkE hf h) fun _ _ h=>h
end Go.SX
namespace Go.SX
open Go
variable [Tabs]
theorem SCall.after {P:Program}{f:FuncId}{own:List Res}{args:List SV}{K1:SV→List Res→Prop}
  (h:SCall P f own args (fun sv own'=>∃ own1 sv1,OwnLe own' own1∧(∀ (c:Cx)(w:World)(u:Value),Sat c own1 w→Rel c sv u→Rel c sv1 u)∧K1 sv1 own1)):SCall P f own args K1:=by
 refine⟨h.1,fun c w us hS hr=>(h.2 c w us hS hr).mono ?_⟩;rintro e w' ⟨c',own',sv,u,rfl,k1,k2,k3,k4,own1,sv1,k5,k6,k7⟩;obtain⟨c1,m1,m2,m3⟩:=k5 c' w' k2;exact⟨c1,own1,sv1,u,rfl,k6 c1 w' u m1 (k1.mono m2),m1,k3.trans m2,k4.trans m3,k7⟩
def zR : Res→Res
 | .cells cs ty=>.cells (cs.map nilZ) ty
 | x=>x
def zO : List Res→List Res
 | []=>[]
 | x::l=>zR x::zO l
theorem zO_eq : ∀ l:List Res,zO l=l.map zR
 | []=>rfl
 | x::l=>by rw[zO,zO_eq l];rfl
theorem zR_live (x:Res):(zR x).live=x.live:=by cases x<;>rfl
theorem zO_ok (own:List Res):OwnLe own (zO own):=by
 intro c w h;rw[zO_eq];have hget:∀ (r:Nat) x,(own.map zR)[r]?=some x→∃ y,own[r]?=some y∧x=zR y:=fun r x hx=>by
  rw[qI,Option.map_eq_some_iff] at hx;obtain⟨y,h1,h2⟩:=hx;exact⟨y,h1,h2.symm⟩
 have hlive:∀ (r:Nat) x,(own.map zR)[r]?=some x→x.live=true→∃ y,own[r]?=some y∧y.live=true:=fun r x hx hl=>by
  obtain⟨y,h1,rfl⟩:=hget r x hx;exact⟨y,h1,by rw[← zR_live];exact hl⟩
 refine⟨c,⟨by rw[qO];exact h.n,fun r x hx=>?_,fun r s x y b hx hy hlx hly hb hb'=>?_,fun r x b hx hl hb=>?_,h.le,h.one,h.tab⟩,.refl c,⟨rfl,rfl,rfl,qQ _,fun _ _ _=>rfl,fun _ hb=>.inl hb,fun b ⟨r,x,hx,hl,hb⟩=>?_,fun _ _ hb=>hb⟩⟩
 ·obtain⟨y,h1,rfl⟩:=hget r x hx;have hr:=h.res r y h1
  cases y with
  | cells cs ty =>
   obtain⟨b,us,k1,k2,k3,k4⟩:=hr;refine⟨b,us,k1,k2,by rw[k3,qO],fun i s hi=>?_⟩;rw[qI,Option.map_eq_some_iff] at hi;obtain⟨s0,hs0,rfl⟩:=hi;obtain⟨u,m1,m2,m3⟩:=k4 i s0 hs0;exact⟨u,m1,m2,nilZ_rel m3⟩
  | _=>exact hr
 ·obtain⟨x',h1,h2⟩:=hlive r x hx hlx;obtain⟨y',h3,h4⟩:=hlive s y hy hly;exact h.apart r s x' y' b h1 h3 h2 h4 hb hb'
 ·obtain⟨x',h1,h2⟩:=hlive r x hx hl;exact h.notF r x' b h1 h2 hb
 ·obtain⟨x',h1,h2⟩:=hlive r x hx hl;exact .inl ⟨r,x',h1,h2,hb⟩
theorem SCall.walkF {P:Program}{f:FuncId}{df:EFn}{own base:List Res}{args:List SV}{s:SV}(n:Nat)(h0:own.length=n)(hn:n≤base.length)(hf:compF P f=some df.er)
  (h:∀ K:SV→List Res→Prop,(∀ sv own' (l:List SV) (p:List Nat),mtE n p [nrmR2 (zO (frzL own' l)) sv] (zO (frzL own' l)) [s] base→K sv own')→wpW P own.length df.code (pad df.ntmps args) own (EndN df.res K)):SCall P f own args (fun sv own'=>sv=s∧own'=base):=by
 subst h0;exact SCall.trimE (SCall.after (scall_walkE hf (h _ fun sv own' l p hp=>⟨zO (frzL own' l),nrmR2 (zO (frzL own' l)) sv,OwnLe.trans (fun _ _ hS=>frzL_ok l hS) (zO_ok _),fun c w u hS hr=>nrmR2_rel hS hr,p,hp⟩))) hn
theorem FCallS.embR {P:Program}{fn:FuncId}{own own0:List Res}{args args0:List SV}{R:SV→Prop}{s:SV}(q:List Nat)(h:SCall P fn own0 args0 (fun sv own'=>sv=s∧own'=own0))(hm:mt q args own args0 own0)
  (hl:Nat.beq q.length own0.length=true) (hs:emS (Go.SX.emb q own.length) s=s) (ho:setAll own q (own0.map (emR (Go.SX.emb q own.length)))=own) (hR:R s):FCallS P fn own args R:=by
 unfold Go.SX.mt at hm;split at hm
 ·rename_i hp;obtain⟨h1,h2⟩:=mtL_le hm;obtain⟨h3,_⟩:=mtO_le h2;refine .fn (sv:=s) ((h.embed q (okP_nodup hp) (okP_lt hp) h3 h1).mono fun sv own' ⟨sv0,own0',⟨k1,k2⟩,k3,k4,k5⟩=>?_) hR;subst k1;subst k2;subst k4;subst k5;exact⟨hs,by rw[ho,List.drop_of_length_le (by rw[beqT hl];exact qQ _)];simp⟩
 ·exact hm.elim
theorem DCallS.emb {P:Program}{fn:FuncId}{own own0 o0:List Res}{args args0:List SV}{K:SV→List Res→Prop}{s:SV}(q:List Nat)(h:SCall P fn own0 args0 (fun sv own'=>sv=s∧own'=o0))(hm:mt q args own args0 own0)
  (hK:K (emS (Go.SX.emb q own.length) s) (setAll own q (o0.map (emR (Go.SX.emb q own.length)))++(o0.drop q.length).map (emR (Go.SX.emb q own.length)))):DCallS P fn own args K:=by
 unfold Go.SX.mt at hm;split at hm
 ·rename_i hp;obtain⟨h1,h2⟩:=mtL_le hm;obtain⟨h3,_⟩:=mtO_le h2;refine⟨_,_,CallN.own ((h.embed q (okP_nodup hp) (okP_lt hp) h3 h1).mono fun sv own' ⟨sv0,own0',⟨k1,k2⟩,k3,k4,k5⟩=>?_),hK⟩;subst k1;subst k2;exact⟨k4,k5⟩
 ·exact hm.elim
theorem io_nf : io.not false=true:=by rw[io_eq];rfl
theorem io_nt : io.not true=false:=by rw[io_eq];rfl
theorem brkT {b:Bool}{A B:Prop}:b=true→A→(match b with | true=>A | false=>B):=by rintro rfl h;exact h
theorem brkF {b:Bool}{A B:Prop}:b=false→B→(match b with | true=>A | false=>B):=by rintro rfl h;exact h
end Go.SX
