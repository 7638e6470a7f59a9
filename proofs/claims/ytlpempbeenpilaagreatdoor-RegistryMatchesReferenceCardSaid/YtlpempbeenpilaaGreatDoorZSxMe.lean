/- Parts of the proof. -/
import Derived.Test.YtlpempbeenpilaaGreatDoorZSxMb
set_option linter.unusedSimpArgs false
set_option linter.unusedVariables false
set_option linter.unusedSectionVars false
namespace Go.SX
open Go Go.RowKit
variable [Tabs]
def GOp.isApp (g:GOp):Bool:=match g.op with | .app ..=>true | .bslice _ _ 0 _ []=>true | .bslice _ 1 1 (.int .i64 _) [_]=>true | _=>false
def isDat : SV→Bool | .d _=>true | _=>false
def okLit (op:DOp)(f:Operand→SV):Bool:=match op with | .bslice _ _ _ _ [x]=>isDat (f x.2) | _=>true
def GOp.isCall (g:GOp):Bool:=match g.op with | .call .. | .callv ..=>true | _=>false
def mkR : Res→Res
 | .row ..=>.gone
 | x=>x
def maskR (own:List Res):List Res:=own.map mkR
theorem getr_mask (own:List Res)(r:Nat):getr (maskR own) r=mkR (getr own r):=by
 rw[getr_eq,getr_eq,maskR,qI]
 cases own[r]? with
 | none=>rfl
 | some x=>rfl
def hybChk (ops:Array Oper)(gs:List GOp):Bool :=
 (List.range gs.length).all fun k =>
  match gs[k]?,ops[k]? with
  | some g,some o=>!g.isCall&&(!g.isApp||(g.guard.isNone&&((List.range k).all fun i=>match gs[i]? with | some gi=>!gi.isApp||(edge o i||(List.range k).any fun j=>Nat.blt i j&&(match gs[j]? with | some gj=>gj.isApp | none=>false)) | none=>false)))
  | _,_=>false
def runH (P:Program):List GOp→List SV→List Res→(List SV→List Res→Prop)→Prop
 | [],env,own,K=>K env own
 | g::l,env,own,K =>
  match g.isApp with
  | true=>match okLit g.op (evn own env) with
   | true=>opN P g.op env own (fun sv own'=>runH P l (putE env g.dst sv) own' K)
   | false=>False
  | false=>GuardN g.guard env (fun env=>fnN P g.op env (maskR own) (fun sv=>runH P l (putE env g.dst sv) own K)) (fun env=>runH P l (putE env g.dst (.tup [])) own K)
section
variable {P:Program}
section
variable {own own':List Res}(hg:∀ r,getr own r=getr own' r)
include hg
theorem nrm_g (s:SV):nrm own s=nrm own' s:=by unfold nrm;simp only[hg]
theorem evn_g (env:List SV)(x:Operand):evn own env x=evn own' env x:=nrm_g hg _
theorem toD_g (s:SV):toD own s=toD own' s:=by unfold toD;simp only[hg]
theorem toDs_g : ∀ l:List SV,toDs own l=toDs own' l
 | []=>rfl
 | s::l=>by unfold toDs;rw[toD_g hg s,toDs_g l]
theorem bsl_g (sz:Nat):∀ (l:List (Nat×SV))(k:Nat),bsl own sz k l=bsl own' sz k l
 | [],_=>rfl
 | (i,s)::l,k=>by unfold bsl;rw[toDs_g hg,bsl_g sz l (k+1)]
theorem sload_g (sz:Nat)(agg:Bool)(s:SV):sload own sz agg s=sload own' sz agg s:=by unfold sload;simp only[hg]
theorem smlen_g (s:SV):smlen own s=smlen own' s:=by unfold smlen;simp only[hg]
theorem slen_g (b:Bool)(s:SV):slen own b s=slen own' b s:=by unfold slen;simp only[hg]
theorem LoadN_g (sz:Nat)(agg:Bool)(s:SV)(K:SV→Prop):LoadN own sz agg s K=LoadN own' sz agg s K:=by unfold LoadN;simp only[hg,sload_g hg]
theorem IdxN_g (sz:Nat)(x i:SV)(K:SV→Prop):IdxN own sz x i K=IdxN own' sz x i K:=by unfold IdxN;simp only[hg]
theorem MgetN_g (mk:MK)(agg ok:Bool)(z x k:SV)(K:SV→Prop):MgetN own mk agg ok z x k K=MgetN own' mk agg ok z x k K:=by unfold MgetN;simp only[hg]
theorem src_g (s:SV):src own s=src own' s:=by unfold src;simp only[hg]
theorem fnN_g {g:GOp}{env:List SV}{R:SV→Prop}(hc:g.isCall=false):fnN P g.op env own R→fnN P g.op env own' R:=by
 have he:evn own env=evn own' env:=funext fun x=>evn_g hg env x
 unfold GOp.isCall at hc;intro h;cases hop:g.op<;>rw[hop] at hc h<;>simp only[fnN,he,LoadN_g hg,IdxN_g hg,MgetN_g hg,slen_g hg,smlen_g hg,bsl_g hg,src_g hg] at h ⊢<;>first | exact h | cases hc
end
theorem app_one {g:GOp}{env:List SV}{own:List Res}{K:SV→List Res→Prop}(ha:g.isApp=true)(hl:okLit g.op (evn own env)=true)(h:opN P g.op env own K) :
  ∃ sv o,opN P g.op env own (fun s o'=>s=sv∧o'=o)∧K sv o∧∀ r,mkR (getr o r)=mkR (getr own r):=by
 unfold GOp.isApp at ha;split at ha
 ·rename_i ty sz bytes z x y hop;rw[hop] at h ⊢;simp only[opN] at h ⊢;unfold AppN at h ⊢;split at h
  ·exact h.elim
  ·rename_i ys hy;split at h
   ·obtain⟨h1,h2,h3,h4⟩:=h;refine⟨_,_,⟨h1,h2,h3,rfl,rfl⟩,h4,fun r=>?_⟩;rw[getr_eq,getr_eq,List.getElem?_append];split
    ·rfl
    ·rename_i hr;rw[qX (Nat.le_of_not_lt hr)]
     cases hq:r - own.length with
     | zero=>rfl
     | succ q=>rfl
   ·rename_i r0 hx;split at h
    ·rename_i ty' sz' xs hgr;obtain⟨rfl,rfl,h1,h2,h3,h4⟩:=h;refine⟨_,_,⟨rfl,rfl,h1,h2,h3,rfl,rfl⟩,h4,fun r=>?_⟩;rw[setr_eq,getr_eq,getr_eq,List.getElem?_append,List.length_set];split
     ·rename_i hr;rw[List.getElem?_set];split
      ·rename_i e;subst e;rw[if_pos hr];rw[getr_eq] at hgr;rw[hgr];rfl
      ·rfl
     ·rename_i hr;rw[qX (Nat.le_of_not_lt hr)]
      cases hq:r - own.length with
      | zero=>rfl
      | succ q=>rfl
    ·exact h.elim
   ·exact h.elim
 ·rename_i ty sz z hop;rw[hop] at h ⊢;simp only[opN,List.map_nil,frzL,bsl,BsliceN] at h ⊢;obtain⟨h1,h2,h3⟩:=h;refine⟨_,_,⟨h1,h2,rfl,rfl⟩,h3,fun r=>?_⟩;rw[getr_eq,getr_eq,List.getElem?_append];split
  ·rfl
  ·rename_i hr;rw[qX (Nat.le_of_not_lt hr)]
   cases hq:r - own.length with
   | zero=>rfl
   | succ q=>rfl
 ·rename_i ty z x hop;rw[hop] at h hl ⊢;obtain⟨k0,x⟩:=x;simp only[okLit] at hl;simp only[opN,qR,List.map_nil,frzL] at h ⊢
  cases hx:evn own env x with
  | d dd =>
   rw[hx] at h;simp only[frzS,frzC] at h ⊢;unfold BsliceN at h ⊢;split at h
   ·obtain⟨h1,h2,h3⟩:=h;refine⟨_,_,⟨h1,h2,rfl,rfl⟩,h3,fun r=>?_⟩;rw[getr_eq,getr_eq,List.getElem?_append];split
    ·rfl
    ·rename_i hr;rw[qX (Nat.le_of_not_lt hr)]
     cases hq:r - own.length with
     | zero=>rfl
     | succ q=>rfl
   ·exact h.elim
  | _=>rw[hx] at hl;cases hl
 ·cases ha
def StepH (P:Program)(own:List Res)(g:GOp)(env:List SV)(sv:SV)(o:List Res):Prop :=
 (g.isApp=true∧opN P g.op env own (fun s o'=>s=sv∧o'=o))∨(g.isApp=false∧StepY P (maskR own) g env sv∧o=own)
def TraceH (P:Program):List GOp→List SV→List (List Res)→List SV→List Res→List SV→List Res→Prop
 | [],[],[],env,own,fin,fo=>fin=env∧fo=own
 | g::gs,sv::svs,o::os,env,own,fin,fo=>StepH P own g env sv o∧(∀ r,mkR (getr o r)=mkR (getr own r))∧TraceH P gs svs os (putE env g.dst sv) o fin fo
 | _,_,_,_,_,_,_=>False
theorem runH_trace : ∀ (gs:List GOp){env:List SV}{own:List Res}{K:List SV→List Res→Prop},runH P gs env own K→∃ svs os fin fo,TraceH P gs svs os env own fin fo∧K fin fo
 | [],env,own,K,h=>⟨[],[],env,own,⟨rfl,rfl⟩,h⟩
 | g::gs,env,own,K,h=>by
  unfold runH at h
  cases ha:g.isApp with
  | true =>
   rw[ha] at h
   cases hlit:okLit g.op (evn own env) with
   | false=>rw[hlit] at h;exact h.elim
   | true =>
   rw[hlit] at h;obtain⟨sv,o,h1,h2,h3⟩:=app_one ha hlit h;obtain⟨svs,os,fin,fo,h4,h5⟩:=runH_trace gs h2;exact⟨sv::svs,o::os,fin,fo,⟨.inl ⟨ha,h1⟩,h3,h4⟩,h5⟩
  | false =>
   rw[ha] at h;obtain⟨sv,h1,h2⟩:=runF_step (own:=maskR own) (R:=fun env sv=>runH P gs (putE env g.dst sv) own K) h;obtain⟨svs,os,fin,fo,h3,h4⟩:=runH_trace gs h2;exact⟨sv::svs,own::os,fin,fo,⟨.inr ⟨ha,h1,rfl⟩,fun _=>rfl,h3⟩,h4⟩
def curO : List GOp→List (List Res)→Nat→(Nat→Bool)→List Res→List Res
 | g::gs,o::os,k,L,acc=>curO gs os (k+1) L (if L k&&g.isApp then o else acc)
 | _,_,_,_,acc=>acc
theorem curO_congr {L L':Nat→Bool}:∀ (gs:List GOp)(os:List (List Res))(k:Nat)(acc:List Res),(∀ (i:Nat) g,gs[i]?=some g→g.isApp=true→L (k+i)=L' (k+i))→curO gs os k L acc=curO gs os k L' acc
 | [],os,k,acc,_=>by cases os<;>rfl
 | g::gs,[],k,acc,_=>rfl
 | g::gs,o::os,k,acc,h=>by
  simp only[curO];have h0:=h 0 g rfl;simp only[Nat.add_zero] at h0;have:(if L k&&g.isApp then o else acc)=(if L' k&&g.isApp then o else acc):=by
   by_cases hd:g.isApp=true
   ·rw[h0 hd]
   ·simp[hd]
  rw[this];exact curO_congr gs os (k+1) _ fun i g' hi hd=>by have:=h (i+1) g' (by simpa using hi) hd;rwa [← Nat.add_assoc,Nat.add_right_comm] at this
theorem curO_none {L:Nat→Bool}:∀ (gs:List GOp)(os:List (List Res))(k:Nat)(acc:List Res),(∀ (i:Nat) g,gs[i]?=some g→g.isApp=true→L (k+i)=false)→curO gs os k L acc=acc
 | [],os,k,acc,_=>by cases os<;>rfl
 | g::gs,[],k,acc,_=>rfl
 | g::gs,o::os,k,acc,h=>by
  simp only[curO];have h0:=h 0 g rfl;simp only[Nat.add_zero] at h0;have:(if L k&&g.isApp then o else acc)=acc:=by
   by_cases hd:g.isApp=true
   ·simp[h0 hd]
   ·simp[hd]
  rw[this];exact curO_none gs os (k+1) _ fun i g' hi hd=>by have:=h (i+1) g' (by simpa using hi) hd;rwa [← Nat.add_assoc,Nat.add_right_comm] at this
theorem curO_last {L:Nat→Bool}:∀ (gs:List GOp)(os:List (List Res))(k:Nat)(acc:List Res)(j:Nat)(g:GOp)(o:List Res),gs[j]?=some g→os[j]?=some o→g.isApp=true→L (k+j)=true →
  (∀ (i:Nat) g',j<i→gs[i]?=some g'→g'.isApp=true→L (k+i)=false)→curO gs os k L acc=o
 | [],_,_,_,j,g,o,h,_,_,_,_=>by simp at h
 | _::_,[],_,_,j,g,o,_,h,_,_,_=>by simp at h
 | g0::gs,o0::os,k,acc,j,g,o,h1,h2,hd,hL,hno=>by
  simp only[curO]
  cases j with
  | zero =>
   simp at h1 h2;subst h1;subst h2;simp only[Nat.add_zero] at hL;rw[curO_none gs os (k+1) _ fun i g' hi hd'=>by have:=hno (i+1) g' (by omega) (by simpa using hi) hd';rwa [← Nat.add_assoc,Nat.add_right_comm] at this];simp[hL,hd]
  | succ j =>
   simp at h1 h2;exact curO_last gs os (k+1) _ j g o h1 h2 hd (by rwa [← Nat.add_assoc,Nat.add_right_comm] at hL) fun i g' hji hi hd'=>by
    have:=hno (i+1) g' (by omega) (by simpa using hi) hd';rwa [← Nat.add_assoc,Nat.add_right_comm] at this
theorem TraceH.at : ∀ (gs:List GOp){svs env fin:List SV}{os:List (List Res)}{own fo:List Res},TraceH P gs svs os env own fin fo→svs.length=gs.length∧os.length=gs.length∧fin.length=env.length ∧
  (∀ t,t<env.length→geti fin t=curF gs svs 0 (fun _=>true) t (geti env t))∧fo=curO gs os 0 (fun _=>true) own ∧
  ∀ (k:Nat) g,gs[k]?=some g→∃ envk sv o,svs[k]?=some sv∧os[k]?=some o∧envk.length=env.length∧StepH P (curO gs os 0 (fun i=>decide (i<k)) own) g envk sv o∧(∀ r,mkR (getr (curO gs os 0 (fun i=>decide (i<k)) own) r)=mkR (getr own r))∧(∀ r,mkR (getr o r)=mkR (getr own r)) ∧
   ∀ t,t<env.length→geti envk t=curF gs svs 0 (fun i=>decide (i<k)) t (geti env t)
 | [],svs,env,fin,os,own,fo,h=>by
  cases svs with
  | nil=>cases os with
   | nil=>obtain⟨rfl,rfl⟩:=h;exact⟨rfl,rfl,rfl,fun t _=>rfl,rfl,fun k g hk=>by simp at hk⟩
   | cons o os=>exact h.elim
  | cons s ss=>exact h.elim
 | g0::gs,svs,env,fin,os,own,fo,h=>by
  cases svs with
  | nil=>exact h.elim
  | cons s ss =>
   cases os with
   | nil=>exact h.elim
   | cons o0 os =>
   obtain⟨h1,hm,h2⟩:=h;obtain⟨i1,i0,i2,i3,i5,i4⟩:=TraceH.at gs h2;rw[length_putE] at i2 i3 i4;have shift:∀ (L:Nat→Bool) t acc,curF gs ss 1 L t acc=curF gs ss 0 (fun i=>L (i+1)) t acc:=fun L t acc=>by
    have:∀ (gs:List GOp)(ss:List SV)(k:Nat) acc,curF gs ss (k+1) L t acc=curF gs ss k (fun i=>L (i+1)) t acc:=by
     intro gs;induction gs with
     | nil=>intro ss k acc;cases ss<;>rfl
     | cons g gs ih=>intro ss k acc;cases ss with
      | nil=>rfl
      | cons s ss=>simp only[curF];exact ih ss (k+1) _
    exact this gs ss 0 acc
   have shiftO:∀ (L:Nat→Bool) acc,curO gs os 1 L acc=curO gs os 0 (fun i=>L (i+1)) acc:=fun L acc=>by
    have:∀ (gs:List GOp)(os:List (List Res))(k:Nat) acc,curO gs os (k+1) L acc=curO gs os k (fun i=>L (i+1)) acc:=by
     intro gs;induction gs with
     | nil=>intro os k acc;cases os<;>rfl
     | cons g gs ih=>intro os k acc;cases os with
      | nil=>rfl
      | cons o os=>simp only[curO];exact ih os (k+1) _
    exact this gs os 0 acc
   have ho0:(if g0.isApp=true then o0 else own)=o0:=by
    split
    ·rfl
    ·rename_i hn;rcases h1 with ⟨h,_⟩ | ⟨_,_,h⟩
     ·exact absurd h hn
     ·exact h.symm
   refine⟨by simp[i1],by simp[i0],i2,fun t ht=>?_,?_,fun k g hk=>?_⟩
   ·rw[i3 t ht,geti_putE ht];simp only[curF,Bool.true_and,beq_iff_eq];rw[shift]
   ·simp only[curO,Bool.true_and];rw[shiftO,ho0];exact i5
   ·cases k with
    | zero =>
     simp at hk;subst hk;have e1:curO (g0::gs) (o0::os) 0 (fun i=>decide (i<0)) own=own:=curO_none _ _ _ _ fun i g _ _=>by simp
     refine⟨env,s,o0,rfl,rfl,rfl,by rw[e1];exact h1,fun r=>by rw[e1],hm,fun t ht=>?_⟩;rw[curF_none _ _ _ _ fun i g' _ _=>by simp]
    | succ k =>
     simp at hk;obtain⟨envk,sv,o,k1,k0,k2,k3,k5,k6,k4⟩:=i4 k g hk;have e1:curO (g0::gs) (o0::os) 0 (fun i=>decide (i<k+1)) own=curO gs os 0 (fun i=>decide (i<k)) o0:=by
      simp only[curO];rw[shiftO];simp only[Nat.zero_lt_succ,decide_true,Bool.true_and,ho0,Nat.add_lt_add_iff_right]
     refine⟨envk,sv,o,by simpa using k1,by simpa using k0,k2,by rw[e1];exact k3,fun r=>by rw[e1,k5 r,hm r],fun r=>(k6 r).trans (hm r),fun t ht=>?_⟩;rw[k4 t ht,geti_putE ht];simp only[curF];rw[shift];simp
theorem Sat.mask {c:Cx}{own:List Res}{w:World}(h:Sat c own w):Sat c (maskR own) w:=by
 have hget:∀ (r:Nat) x,(maskR own)[r]?=some x→∃ y,own[r]?=some y∧x=mkR y:=fun r x hx=>by
  rw[maskR,qI,Option.map_eq_some_iff] at hx;obtain⟨y,h1,h2⟩:=hx;exact⟨y,h1,h2.symm⟩
 have hlive:∀ y,(mkR y).live=true→y.live=true:=fun y hy=>by cases y<;>first | rfl | exact hy
 refine⟨by rw[maskR,qO];exact h.n,fun r x hx=>?_,fun r s x y b hx hy hl hl' hb hb'=>?_,fun r x b hx hl hb=>?_,h.le,h.one,h.tab⟩
 ·obtain⟨y,h1,rfl⟩:=hget r x hx;have:=h.res r y h1;cases y<;>first | exact this | trivial
 ·obtain⟨x',h1,rfl⟩:=hget r x hx;obtain⟨y',h2,rfl⟩:=hget s y hy;exact h.apart r s x' y' b h1 h2 (hlive _ hl) (hlive _ hl') hb hb'
 ·obtain⟨x',h1,rfl⟩:=hget r x hx;exact h.notF r x' b h1 (hlive _ hl) hb
theorem Sat.unmask {c c':Cx}{own:List Res}{w w':World}(h:Sat c own w)(hs:Sat c' (maskR own) w')(hle:c.le c')(hg:Goes c (maskR own) w c' (maskR own) w'):Sat c' own w'∧Goes c own w c' own w':=by
 have hlen:(maskR own).length=own.length:=by rw[maskR,qO]
 have hN:c'.N=c.N:=by rw[← hs.n,← h.n,hlen]
 have hrow:∀ (r:Nat) x b,own[r]?=some x→x.live=true→(∀ ty sz es,x≠.row ty sz es)→blkOf (c.θ r)=some b→Own c (maskR own) b:=fun r x b hx hl hn hb=>by
  refine⟨r,x,?_,hl,hb⟩;rw[maskR,qI,hx];cases x<;>first | rfl | exact absurd rfl (hn _ _ _)
 have hθ:∀ (r:Nat) x,own[r]?=some x→c'.θ r=c.θ r:=fun r x hx=>hle.t r (by rw[← h.n];exact(qC.1 hx).1)
 have hnot:∀ (r:Nat) ty sz es b,own[r]?=some (.row ty sz es)→blkOf (c.θ r)=some b→¬ Own c (maskR own) b:=fun r ty sz es b hx hb ⟨s,y,hy,hly,hyb⟩=>by
  rw[maskR,qI,Option.map_eq_some_iff] at hy;obtain⟨y',h1,rfl⟩:=hy;have hly':y'.live=true:=by cases y'<;>first | rfl | exact hly
  have:=h.apart r s _ y' b hx h1 rfl hly' hb hyb;subst this;rw[hx] at h1;cases h1;simp[mkR,Res.live] at hly
 have hOwn:∀ b,Own c (maskR own) b→Own c own b:=fun b ⟨s,y,hy,hly,hyb⟩=>by
  rw[maskR,qI,Option.map_eq_some_iff] at hy;obtain⟨y',h1,rfl⟩:=hy;exact⟨s,y',h1,by cases y'<;>first | rfl | exact hly,hyb⟩
 have hcase:∀ (r:Nat) x,own[r]?=some x→x.live=true→(∃ ty sz es,x=.row ty sz es)∨(maskR own)[r]?=some x:=fun r x hx hl=>by
  rw[maskR,qI,hx];cases x<;>first | exact .inr rfl | exact .inl ⟨_,_,_,rfl⟩
 have hdead:∀ (r:Nat) x,own[r]?=some x→x.live=false→(maskR own)[r]?=some x:=fun r x hx hl=>by
  rw[maskR,qI,hx];cases x<;>first | rfl | (simp[Res.live] at hl)
 refine⟨⟨by rw[hN];exact h.n,fun r x hx=>?_,fun r s x y b hx hy hl hl' hb hb'=>?_,fun r x b hx hl hb=>?_,hs.le,hs.one,hs.tab⟩,⟨hg.os,hg.tape,hg.output,hg.size,fun b hb hno=>hg.keep b hb fun ho=>hno (hOwn b ho),fun b hb=>?_,fun b hb=>?_,hg.f⟩⟩
 ·cases hl:x.live with
  | false=>exact hs.res r x (hdead r x hx hl)
  | true =>
   rcases hcase r x hx hl with ⟨ty,sz,es,rfl⟩ | h1
   ·rw[hθ r _ hx];exact(h.res r _ hx).keep hle fun _ b hb=>hg.keep b (h.blk_lt ⟨r,_,hx,rfl,hb⟩) (hnot r ty sz es b hx hb)
   ·exact hs.res r x h1
 ·rw[hθ r _ hx] at hb;rw[hθ s _ hy] at hb';exact h.apart r s x y b hx hy hl hl' hb hb'
 ·rw[hθ r _ hx] at hb;have h0:=h.notF r x b hx hl hb;have hlt:=h.blk_lt ⟨r,x,hx,hl,hb⟩;rcases hcase r x hx hl with ⟨ty,sz,es,rfl⟩ | h1
  ·cases hc:c'.F b with
   | none=>rfl
   | some o =>
    rcases hg.newF b (by simp[hc]) with k | k | k
    ·exact absurd h0 k
    ·omega
    ·exact absurd k (hnot r ty sz es b hx hb)
  ·exact hs.notF r x b h1 hl (by rw[hθ r _ hx];exact hb)
 ·rcases hg.newF b hb with k | k | k
  ·exact .inl k
  ·exact .inr (.inl k)
  ·exact .inr (.inr (hOwn b k))
 ·obtain⟨r,x,hx,hl,hbk⟩:=hb;rw[hθ r _ hx] at hbk;exact .inl ⟨r,x,hx,hl,hbk⟩
theorem BoxOk.eff {base n:Nat}{gs:List GOp}{svs:List SV}{L:Nat→Bool}{c c':Cx}{own own':List Res}{a:Act}{w w':World}{β:Nat→Nat}{i:Nat}{g:GOp}{u:Value}(hbox:boxChk n gs=true)(h:BoxOk base gs svs L c own a w β)
  (hg:gs[i]?=some g) (hna:g.isBox=false) (hle:c.le c') (hgo:Goes c own w c' own' w'):BoxOk base gs svs (fun j=>if j=i then true else L j) c' own' (a.put g.dst u) w' β:=by
 have hk:∀ (k:Nat) g' ty z,gs[k]?=some g'→g'.op=.alloc ty z→k≠i:=fun k g' ty z hg' ho e=>by
  subst e;rw[hg] at hg';cases hg';simp[GOp.isBox,ho] at hna
 have hj:∀ (k:Nat) g' sz x v,gs[k]?=some g'→g'.op=.store sz x v→k≠i:=fun k g' sz x v hg' ho e=>by
  subst e;rw[hg] at hg';cases hg';simp[GOp.isBox,ho] at hna
 refine⟨fun k g' ty z d hg' ho hd hL=>?_,fun k k' g1 g2 ty ty' z z' h1 h2 h3 h4 h5 h6=>?_⟩
 ·have hki:=hk k g' ty z hg' ho;simp only[if_neg hki] at hL;obtain⟨h1,h2,h3,h4,h5,us,h6,h7,h8,h9⟩:=h.1 k g' ty z d hg' ho hd hL;obtain⟨_,_,_,d',hd',_,hun⟩:=boxChk_alloc hbox hg' ho;rw[hd] at hd';cases hd';refine⟨by rw[put_tmps (hun i g (Ne.symm hki) hg)];exact h1,h2,zC h3 hgo.size,fun hO=>?_,?_,us,by rw[hgo.keep _ h3 h4];exact h6,h7,fun hs=>(h8 fun j gj sz v hgj hoj=>?_).mono hle,fun j gj sz v sv hgj hoj hLj hsv=>(h9 j gj sz v sv hgj hoj ?_ hsv).mono hle⟩
  ·rcases hgo.newO _ hO with hO | hO
   ·exact h4 hO
   ·omega
  ·cases hc:c'.F (β k) with
   | none=>rfl
   | some o =>
    rcases hgo.newF (β k) (by simp[hc]) with h | h | h
    ·exact absurd h5 h
    ·omega
    ·exact absurd h h4
  ·have:=hs j gj sz v hgj hoj
   simpa only[if_neg (hj j gj _ _ _ hgj hoj)] using this
  ·simpa only[if_neg (hj j gj _ _ _ hgj hoj)] using hLj
 ·simp only[if_neg (hk k g1 ty z h1 h3)] at h5;simp only[if_neg (hk k' g2 ty' z' h2 h4)] at h6;exact h.2 k k' g1 g2 ty ty' z z' h1 h2 h3 h4 h5 h6
def reachs (ops:Array Oper)(o:Oper):List Nat→List Nat→List Nat
 | [],acc=>acc
 | k::ks,acc=>if edge o k||acc.any (fun j=>match ops[j]? with | some oj=>edge oj k | none=>false) then reachs ops o ks (k::acc) else reachs ops o ks acc
theorem reachs_ok {ops:Array Oper}{o:Oper}{L:Nat→Bool}(hp:∀ i,edge o i=true→L i=true)(hd:∀ (j:Nat) oj,L j=true→ops[j]?=some oj→∀ i,edge oj i=true→L i=true) :
  ∀ (ks acc:List Nat),(∀ j∈acc,L j=true)→∀ i∈reachs ops o ks acc,L i=true
 | [],acc,h,i,hi=>h i hi
 | k::ks,acc,h,i,hi=>by
  unfold reachs at hi;split at hi
  ·rename_i hc;refine reachs_ok hp hd ks (k::acc) (fun j hj=>?_) i hi;rcases List.mem_cons.1 hj with rfl | hj
   ·rcases Bool.or_eq_true _ _▸hc with h1 | h1
    ·exact hp _ h1
    ·obtain⟨m,hm,h1⟩:=List.any_eq_true.1 h1;split at h1
     ·rename_i oj hoj;exact hd m oj (h m hm) hoj _ h1
     ·cases h1
   ·exact h j hj
  ·exact reachs_ok hp hd ks acc h i hi
def lastChk (ops:Array Oper)(gs:List GOp)(gl:GOp):Bool :=
 match ops[gs.length]? with
 | some o=>gl.guard.isNone&&(List.range gs.length).all fun i=>(reachs ops o (List.range gs.length).reverse []).contains i
 | none=>false
theorem region_hyb {n0 id:Nat}{ops:Array Oper}{gs:List GOp}{own:List Res}{c0:Cx}{env:List SV}{a0:Act}{w0:World}{K:List SV→List Res→Prop}{Q:Exit→Act→World→Prop}(hm:P.follows .mixedOrders=true)
  (hcomp:compOps P ops ops.toList=some gs) (hchk:regChk ops gs=true) (hbox:boxChk env.length gs=true) (hhyb:hybChk ops gs=true) (hE0:EnvOk c0 env a0) (hS0:Sat c0 own w0) (hn:n0≤c0.N) (hd0:a0.defers=[]) (h:runH P (gs.map GOp.blank) env own (fun env' own'=>boxN gs env' own' gs env' own' K))
  (hQ:∀ a' w',Nx n0 c0 own w0 K a' w'→Q .normal a' w'):(Code.region id ops true).wp P Q a0 w0:=by
 obtain⟨svs,os,fin,fo,htr,hK⟩:=runH_trace (gs.map GOp.blank) h;obtain⟨hlen,hol,hfinl,hfin,hfo,hat⟩:=TraceH.at (gs.map GOp.blank) htr;have hbapp:∀ g:GOp,g.blank.isApp=g.isApp:=fun g=>by
  obtain⟨d,op,gd⟩:=g;unfold GOp.blank;cases op<;>rfl
 let OO:(Nat→Bool)→List Res:=fun L=>curO (gs.map GOp.blank) os 0 L own
 have nrmk:∀ {o o':List Res},(∀ r,mkR (getr o r)=mkR (getr o' r))→∀ s,nrm o s=nrm o' s:=fun {o o'} h s=>by
  cases s with
  | hd r =>
   have:=h r;simp only[nrm];cases h1:getr o r<;>cases h2:getr o' r<;>rw[h1,h2] at this<;>simp[mkR] at this<;>simp_all
  | ptr r k =>
   have:=h r;simp only[nrm];cases h1:getr o r<;>cases h2:getr o' r<;>rw[h1,h2] at this<;>simp[mkR] at this<;>simp_all
  | _=>rfl
 have mkk:∀ x:Res,mkR (mkR x)=mkR x:=fun x=>by cases x<;>rfl
 have hmkM:∀ (o:List Res) r,mkR (getr (maskR o) r)=mkR (getr o r):=fun o r=>by rw[getr_mask,mkk]
 have hbl:∀ (i:Nat) g',(gs.map GOp.blank)[i]?=some g'→∃ g,gs[i]?=some g∧g'=g.blank∧g'.dst=g.dst:=fun i g' hi=>by
  rw[qI,Option.map_eq_some_iff] at hi;obtain⟨g,h1,rfl⟩:=hi;exact⟨g,h1,rfl,blank_dst hbox h1⟩
 have hbl2:∀ (i:Nat) g,gs[i]?=some g→(gs.map GOp.blank)[i]?=some g.blank:=fun i g hi=>by rw[qI,hi];rfl
 obtain⟨hgl,hget⟩:=compOps_get ops ops.toList hcomp;have hgl:gs.length=ops.size:=by rw[hgl];simp
 have hc:∀ (k:Nat) o g,ops[k]?=some o→gs[k]?=some g→(∀ e∈o.after,Region.binds .any e=true→e.on<k) ∧
   ∀ (i:Nat) oi gi t,i≠k→ops[i]?=some oi→gs[i]?=some gi→gi.dst=some t→(t∈g.looks∨g.dst=some t)→(i<k→edge o i=true)∧(k<i→edge oi k=true):=by
  intro k o g ho hg;have hk:k<ops.size:=(qB.1 ho).1;have h1:=qL.1 hchk k (by simpa using hk);simp only[ho,hg,qJ] at h1;obtain⟨h1,h2⟩:=h1;refine⟨fun e he hb=>?_,fun i oi gi t hne hoi hgi hdi ht=>?_⟩
  ·have:=(Array.all_eq_true'.1 h1) e he;simp[hb] at this;exact this
  ·have hi:i<ops.size:=(qB.1 hoi).1;have h3:=qL.1 h2 i (by simpa using hi);have hne':(i == k)=false:=by simpa using hne
   have hcond:(g.looks.contains t||g.dst == some t)=true:=by
    rcases ht with ht | ht
    ·simp[ht]
    ·simp[ht]
   simp only[hne',Bool.false_or,hoi,hgi,hdi,hcond,if_true] at h3;refine⟨fun hik=>by simpa [hik] using h3,fun hki=>?_⟩;rw[if_neg (by omega)] at h3;exact h3
 have hOM:∀ (L:Nat→Bool) r,mkR (getr (OO L) r)=mkR (getr own r):=by
  have key:∀ (gs':List GOp)(os':List (List Res))(k:Nat)(L:Nat→Bool)(acc:List Res),(∀ (i:Nat) o,os'[i]?=some o→∀ r,mkR (getr o r)=mkR (getr own r))→(∀ r,mkR (getr acc r)=mkR (getr own r))→∀ r,mkR (getr (curO gs' os' k L acc) r)=mkR (getr own r):=by
   intro gs'
   induction gs' with
   | nil=>intro os' k L acc _ ha;cases os'<;>exact ha
   | cons g gs' ih =>
    intro os' k L acc ho ha
    cases os' with
    | nil=>exact ha
    | cons o os' =>
     simp only[curO];refine ih os' (k+1) L _ (fun i o' hi=>ho (i+1) o' (by simpa using hi)) ?_;split
     ·exact ho 0 o rfl
     ·exact ha
  intro L;refine key _ os 0 L own (fun i o hi r=>?_) (fun _=>rfl);have hlt:i<(gs.map GOp.blank).length:=by rw[← hol];exact(qC.1 hi).1
  obtain⟨_,_,o',_,ho',_,_,_,h6,_⟩:=hat i _ (qK hlt);rw[hi] at ho';cases ho';exact h6 r
 have hfoM:∀ r,mkR (getr fo r)=mkR (getr own r):=fun r=>by rw[hfo];exact hOM _ r
 have hhy:∀ (k:Nat) o g,ops[k]?=some o→gs[k]?=some g→g.isCall=false∧(g.isApp=true→g.guard=none∧∀ (i:Nat) gi,i<k→gs[i]?=some gi→gi.isApp=true→edge o i=true∨∃ (j:Nat)(gj:GOp),i<j∧j<k∧gs[j]?=some gj∧gj.isApp=true):=by
  intro k o g ho hg;have hk:k<gs.length:=(qC.1 hg).1;have h1:=qL.1 hhyb k (by simpa using hk);simp only[ho,hg,qJ,Bool.not_eq_true',Bool.or_eq_true] at h1;refine⟨h1.1,fun ha=>?_⟩;rcases h1.2 with h2 | h2
  ·rw[ha] at h2;cases h2
  ·refine⟨by simpa using h2.1,fun i gi hik hgi hai=>?_⟩;have:=qL.1 h2.2 i (by simpa using hik);simp only[hgi,hai,Bool.not_true,Bool.false_or,Bool.or_eq_true] at this;rcases this with h | h
   ·exact .inl h
   ·obtain⟨j,hj,h⟩:=List.any_eq_true.1 h;rw[qJ] at h;obtain⟨h3,h4⟩:=h;have h3:=Nat.le_of_ble_eq_true h3
    cases hgj:gs[j]? with
    | none=>rw[hgj] at h4;cases h4
    | some gj=>rw[hgj] at h4;exact .inr ⟨j,gj,h3,by simpa using hj,hgj,h4⟩
 have hsto:∀ (j:Nat) g sz d v,gs[j]?=some g→g.op=.store sz (.tmp d) v→∃ sv,svs[j]?=some sv∧sv.flat=true∧sv.cells.length=sz∧sv.cells.all SV.one=true ∧
   (∀ (k:Nat) gk ty z,gs[k]?=some gk→gk.op=.alloc ty z→gk.dst=some d→sz=(cval z).cells.length)∧sv=evn fo fin v:=by
  intro j g sz d v hgj hoj;obtain⟨_,_,d',k,gk,ty,z,hx,hkj,hgk,hdk,hok,hone,hv⟩:=boxChk_store hbox hgj hoj;cases hx;obtain⟨envj,sv,oj,hsv,_,hjl,hstep,hcm,_,hej⟩:=hat j g.blank (hbl2 j g hgj);have hbk:g.blank=⟨none,.mv v,none⟩:=by simp only[GOp.blank,hoj]
  rw[hbk] at hstep;have hna:GOp.isApp ⟨none,.mv v,none⟩=false:=rfl;have hs0:evn (maskR (curO (gs.map GOp.blank) os 0 (fun i=>decide (i<j)) own)) envj v=sv:=by
   rcases hstep with ⟨h,_⟩ | ⟨_,h,_⟩
   ·rw[hna] at h;cases h
   ·exact h
  have hfok:∀ r,mkR (getr fo r)=mkR (getr own r):=hfoM;have hs1:evn fo envj v=sv:=by
   rw[← hs0];exact nrmk (fun r=>by rw[hmkM,hcm r,hfok r]) _
  have hs2:evn fo fin v=evn fo envj v:=by
   rcases hv with ⟨t,rfl,hw⟩ | ⟨u,rfl⟩
   ·have:geti fin t=geti envj t:=by
     by_cases ht:t<env.length
     ·rw[hfin t ht,hej t ht];refine curF_congr (gs.map GOp.blank) svs 0 _ fun i g' hi hd'=>?_
      obtain⟨g2,hg2,_,hd2⟩:=hbl i g' hi;rw[hd2] at hd';have:¬ j≤i:=fun hji=>hw i g2 hji hg2 hd'
      rw[Nat.zero_add];simp;omega
     ·have hge:env.length≤t:=Nat.le_of_not_lt ht;have e1:fin[t]?=none:=qX (by rw[hfinl];exact hge);have e2:envj[t]?=none:=qX (by rw[hjl];exact hge);rw[geti_eq,geti_eq,e1,e2]
    simp only[evn,ev,this]
   ·rfl
  obtain⟨cs,hcs⟩:=boxN_some gs hK k gk ty z d hgk hok hdk;have hst:=storeTo_at hgj hoj hone;simp only[boxS,hst] at hcs;split at hcs
  ·rename_i hcond;simp only[qJ] at hcond;obtain⟨q1,q2,q3,q4⟩:=hcond;rw[hs2,hs1] at q1 q2 q4;refine⟨sv,hsv,q1,Nat.eq_of_beq_eq_true q2,q4,fun k' gk' ty' z' hgk' hok' hdk'=>?_,by rw[hs2,hs1]⟩;have hkk:k'=k:=by
    rcases Nat.decEq k' k with hne | he
    ·obtain⟨_,_,_,d2,hd2,_,hun⟩:=boxChk_alloc hbox hgk hok;rw[hdk] at hd2;cases hd2;exact absurd hdk' (hun k' gk' hne hgk')
    ·exact he
   subst hkk;rw[hgk] at hgk';cases hgk';rw[hok] at hok';cases hok';exact Nat.eq_of_beq_eq_true q3
  ·cases hcs
 refine wp_region_any hm ?_;have main:∀ (fuel:Nat)(listed:Array Bool)(a:Act)(w:World)(c:Cx),listed.size=ops.size→listed.toList.countP (! ·)≤fuel →
   (∀ (i:Nat) o,listed.getD i false=true→ops[i]?=some o→∀ e∈o.after,Region.binds .any e=true→listed.getD e.on false=true) →
   Sat c (OO fun i=>listed.getD i false) w→c0.le c→Goes c0 own w0 c (OO fun i=>listed.getD i false) w→a.defers=[]→a.tmps.size=env.length→(∀ (t:Nat) u,a.tmps[t]?=some u→Rel c (curF (gs.map GOp.blank) svs 0 (fun i=>listed.getD i false) t (geti env t)) u)→(∃ β,BoxOk w0.heap.size gs svs (fun i=>listed.getD i false) c (OO fun i=>listed.getD i false) a w β) →
   wpAny P .any ops Q fuel listed a w:=by
  have done:∀ (listed:Array Bool)(a:Act)(w:World)(c:Cx),listed.size=ops.size→(∀ i,i<ops.size→listed.getD i false=true)→Sat c (OO fun i=>listed.getD i false) w→c0.le c→Goes c0 own w0 c (OO fun i=>listed.getD i false) w→a.defers=[]→a.tmps.size=env.length →
    (∀ (t:Nat) u,a.tmps[t]?=some u→Rel c (curF (gs.map GOp.blank) svs 0 (fun i=>listed.getD i false) t (geti env t)) u)→(∃ β,BoxOk w0.heap.size gs svs (fun i=>listed.getD i false) c (OO fun i=>listed.getD i false) a w β)→Q .normal a w:=by
   intro listed a w c hsz hall hS hle hg hd hts hrel hβ;have hOfo:(OO fun i=>listed.getD i false)=fo:=by
    rw[hfo];refine curO_congr _ os 0 own fun i g hi _=>?_
    rw[Nat.zero_add];have hlt:=(qC.1 hi).1;rw[qO] at hlt;exact hall i (by omega)
   rw[hOfo] at hS hg hβ;obtain⟨β,hβ,hinj⟩:=hβ;have hallg:∀ (k:Nat) g,gs[k]?=some g→listed.getD k false=true:=fun k g hg=>hall k (by
    have:=(qC.1 hg).1;omega)
   have hE:EnvOk c fin a:=⟨by rw[hts,hfinl],fun t s u hs hu=>by
    have ht:t<env.length:=by rw[← hts];exact(qB.1 hu).1
    have e1:geti fin t=s:=by rw[geti_eq,hs];rfl
    rw[← e1,hfin t ht];have:=hrel t u hu
    rwa [curF_congr (L':=fun _=>true) (gs.map GOp.blank) svs 0 _ (fun i g hi _=>by
     obtain⟨g',hg',_⟩:=hbl i g hi;exact hallg _ g' (by rw[Nat.zero_add];exact hg'))] at this⟩
   obtain⟨c',env',own',k1,k2,k3,k4,k5,k6⟩:=box_end (base:=w0.heap.size) hbox (a:=a) (w:=w) (β:=β) (K:=K)
    (fun k k' g g' ty ty' z z' h1 h2 h3 h4 h5=>hinj k k' g g' ty ty' z z' h1 h2 h3 h4 (hallg k g h1) (hallg k' g' h2) h5) gs 0 (fun i=>by rw[Nat.zero_add]) hS hE
    (fun k g ty z d _ hg ho hd'=>by
     obtain⟨h1,h2,_,h4,h5,us,h6,h7,h8,h9⟩:=hβ k g ty z d hg ho hd' (hallg k g hg);refine⟨h1,h2,h4,h5,us,h6,fun cs hcs=>?_⟩;unfold boxS at hcs;split at hcs
     ·rename_i hno;cases hcs;exact h8 fun j gj sz v hgj hoj=>absurd hoj (storeTo_none hno j gj sz v hgj)
     ·rename_i sz v hst;split at hcs
      ·cases hcs;obtain⟨j,gj,hgj,hoj⟩:=storeTo_mem hst;obtain⟨sv,hsv,_,_,_,_,hfs⟩:=hsto j gj sz d v hgj hoj;rw[← hfs];exact h9 j gj sz v sv hgj hoj (hallg j gj hgj) hsv
      ·cases hcs) hK
   refine hQ a w ⟨hd,c',env',own',k2,k1,fun r hr=>(k3.t r (by have:=hle.n;omega)).trans (hle.t r (by omega)),Nat.le_trans hn (Nat.le_trans hle.n k3.n),⟨hg.os,hg.tape,hg.output,hg.size,hg.keep,fun b hb=>by rw[k4] at hb;exact hg.newF b hb,fun b hb=>?_,fun b o hb=>k3.f b o (hg.f b o hb)⟩,k6⟩;rcases k5 b hb with hb | hb
   ·exact hg.newO b hb
   ·exact .inr hb
  have lst:∀ (listed:Array Bool),listed.size=ops.size→Region.ready .any ops listed=[]→∀ i,i<ops.size→listed.getD i false=true:=by
   intro listed hsz hr i
   induction i using Nat.strongRecOn with
   | _ i ih =>
    intro hi;have ho:ops[i]?=some ops[i]:=by simp[hi]
    obtain⟨g,hg,_⟩:=hget i ops[i] (by simp[hi]);by_cases hl:listed.getD i false=true
    ·exact hl
    ·exfalso
     have hm2:i∈Region.ready .any ops listed:=by
      refine mem_ready.2 ⟨?_,ops[i],ho,fun e he hb=>?_⟩
      ·have hil:i<listed.size:=by omega
       simp[hil] at hl ⊢;exact hl
      ·have h1:=(hc i _ g ho hg).1 e he hb;exact ih e.on h1 (by omega)
     rw[hr] at hm2;cases hm2
  intro fuel
  induction fuel with
  | zero =>
   intro listed a w c hsz hcnt hdown hS hle hg hd hts hrel hβ;have hall:∀ i,i<ops.size→listed.getD i false=true:=fun i hi=>by
    have hil:i<listed.size:=by omega
    by_cases hl:listed[i]=true
    ·simp[hil,hl]
    ·exfalso
     have hf:listed[i]=false:=by simpa using hl
     have:=count_set listed.toList i (by simp[hil,hf]);omega
   refine⟨?_,done listed a w c hsz hall hS hle hg hd hts hrel hβ⟩
   cases hr:Region.ready .any ops listed with
   | nil=>rfl
   | cons i r =>
    have:i∈Region.ready .any ops listed:=by rw[hr];simp
    obtain⟨h1,o,ho,_⟩:=mem_ready.1 this;have hi:i<ops.size:=(qB.1 ho).1;have h2:=hall i hi;have hil:i<listed.size:=by omega
    simp[hil] at h1 h2;rw[h1] at h2;cases h2
  | succ fuel ih =>
   intro listed a w c hsz hcnt hdown hS hle hg hd hts hrel hβ;refine⟨fun hr=>done listed a w c hsz (lst listed hsz hr) hS hle hg hd hts hrel hβ,fun i hi=>?_⟩;obtain⟨hun,o,ho,hpre⟩:=mem_ready.1 hi;have hi':i<ops.size:=(qB.1 ho).1;have hil:i<listed.size:=by omega
   have hunl:listed[i]?=some false:=by simp[hil] at hun;simp[hil,hun]
   have hunf:listed.getD i false=false:=by simp[hil] at hun;simp[hil,hun]
   obtain⟨g,hgi,hcg⟩:=hget i o (by simpa using ho);obtain⟨envk,sv,oi,hsv,hoi,hkl,hstep,hckm,_,hek⟩:=hat i g.blank (hbl2 i g hgi);have hbai:=hbapp g;obtain⟨β,hβ⟩:=hβ;have hbd:=blank_dst hbox hgi;obtain⟨_,hord⟩:=hc i o g ho hgi;have hlook:∀ t,t∈g.looks∨g.dst=some t→∀ j gj',(gs.map GOp.blank)[j]?=some gj'→gj'.dst=some t→listed.getD j false=decide (j<i):=by
    intro t ht j gj' hj hdj;obtain⟨gj,hj,_,hdj'⟩:=hbl j gj' hj;rw[hdj'] at hdj;by_cases hji:j=i
    ·subst hji;rw[hunf];simp
    ·have hjs:j<ops.size:=by have:=(qC.1 hj).1;omega
     have hoj:ops[j]?=some ops[j]:=by simp[hjs]
     obtain⟨h1,h2⟩:=hord j ops[j] gj t hji hoj hj hdj ht;rcases Nat.lt_or_gt_of_ne hji with hlt | hgt
     ·obtain⟨e,he,hb,heq⟩:=edge_mem (h1 hlt);have:=hpre e he hb;rw[heq] at this;rw[this];simp[hlt]
     ·by_cases hl:listed.getD j false=true
      ·exfalso
       obtain⟨e,he,hb,heq⟩:=edge_mem (h2 hgt);have:=hdown j ops[j] hl hoj e he hb;rw[heq,hunf] at this;cases this
      ·have:listed.getD j false=false:=by simpa using hl
       rw[this];simp;omega
   have hslot:∀ t u,t∈g.looks→a.tmps[t]?=some u→Rel c (geti envk t) u:=by
    intro t u ht hu;have htl:t<env.length:=by rw[← hts];exact(qB.1 hu).1
    rw[hek t htl];have:=hrel t u hu
    rwa [curF_congr (L':=fun j=>decide (j<i)) (gs.map GOp.blank) svs 0 _ (fun j gj hj hdj=>by rw[Nat.zero_add];exact hlook t (.inl ht) j gj hj hdj)] at this
   let envR:=(List.range env.length).map fun t=>if t∈g.looks then geti envk t else .top
   have hRlen:envR.length=env.length:=by simp[envR]
   have hRget:∀ t,t∈g.looks→geti envR t=geti envk t:=fun t ht=>by
    rw[geti_eq,geti_eq];by_cases htl:t<env.length
    ·have:envR[t]?=some (geti envk t):=by simp[envR,htl,ht]
     rw[this,geti_eq];rfl
    ·have h1:envR[t]?=none:=by rw[List.getElem?_eq_none_iff];omega
     have h2:envk[t]?=none:=by rw[List.getElem?_eq_none_iff];omega
     rw[h1,h2]
   have hER:EnvOk c envR a:=⟨by rw[hts,hRlen],fun t s u hs hu=>by
    have htl:t<env.length:=by rw[← hts];exact(qB.1 hu).1
    simp only[envR,qI,List.getElem?_range htl,qS,qZ] at hs;subst hs;split
    ·rename_i ht;exact hslot t u ht hu
    ·exact .top u⟩
   have hagree:∀ (oo:List Res),∀ x∈g.op.ops,evn oo envk x=evn oo envR x:=fun oo x hx=>by
    cases x with
    | tmp t =>
     have:t∈g.looks:=by simp only[GOp.looks,qT];exact .inl (mem_tmpsOf.2 hx)
     simp only[evn,ev,hRget t this]
    | _=>rfl
   have hcount:(listed.setIfInBounds i true).toList.countP (! ·)≤fuel:=by
    have:=count_set listed.toList i (by simpa using hunl);rw[Array.toList_setIfInBounds];omega
   have hLset:∀ j,(listed.setIfInBounds i true).getD j false=if j=i then true else listed.getD j false:=fun j=>by
    by_cases hji:j=i
    ·subst hji;simp[hil]
    ·by_cases hjl:j<listed.size
     ·simp[hjl,hji,Ne.symm hji]
     ·simp[hjl,hji]
   have hdown':∀ (j:Nat) o',(listed.setIfInBounds i true).getD j false=true→ops[j]?=some o'→∀ e∈o'.after,Region.binds .any e=true→(listed.setIfInBounds i true).getD e.on false=true:=by
    intro j o' hj hoj e he hb;rw[hLset] at hj ⊢;split
    ·rfl
    ·split at hj
     ·rename_i hji;subst hji;rw[ho] at hoj;cases hoj;exact hpre e he hb
     ·exact hdown j o' hj hoj e he hb
   have hfun:(fun j=>(listed.setIfInBounds i true).getD j false)=fun j=>if j=i then true else listed.getD j false:=funext hLset
   have hnext:∀ (a':Act)(w':World)(c':Cx)(u:Value),a'=a.put g.dst u→Rel c' sv u∨g.dst=none→Sat c' (OO fun j=>if j=i then true else listed.getD j false) w'→c.le c'→Goes c0 own w0 c' (OO fun j=>if j=i then true else listed.getD j false) w'→(∃ β,BoxOk w0.heap.size gs svs (fun j=>if j=i then true else listed.getD j false) c' (OO fun j=>if j=i then true else listed.getD j false) a' w' β)→wpAny P .any ops Q fuel (listed.setIfInBounds i true) a' w':=by
    intro a' w' c' u ha hr hS' hle' hg' hβ';subst ha;refine ih _ _ w' c' (by simp[hsz]) hcount hdown' (by rw[hfun];exact hS') (hle.trans hle') (by rw[hfun];exact hg') (by rw[put_defers];exact hd) (by cases g.dst<;>simp[Act.put,hts]) ?_ (by rw[hfun];exact hβ');intro t v hv;rw[hfun];by_cases hdt:g.dst=some t
    ·
     have hvu:v=u:=by
      rw[hdt] at hv;simp only[Act.put,Array.getElem?_setIfInBounds,if_true] at hv;split at hv
      ·cases hv;rfl
      ·cases hv
     subst hvu;rw[curF_last (gs.map GOp.blank) svs 0 _ i g.blank sv (hbl2 i g hgi) hsv (hbd.trans hdt) (by simp) (fun j gj hij hj hdj=>by
      rw[Nat.zero_add,if_neg (by omega),hlook t (.inr hdt) j gj hj hdj];simp;omega)]
     rcases hr with hr | hr
     ·exact hr
     ·rw[hdt] at hr;cases hr
    ·have hv':a.tmps[t]?=some v:=by rwa [put_tmps hdt] at hv
     rw[curF_congr (L':=fun j=>listed.getD j false) (gs.map GOp.blank) svs 0 _ (fun j gj hj hdj=>by
      rw[Nat.zero_add,if_neg (fun e=>by subst e;rw[hbl2 j g hgi] at hj;cases hj;exact hdt (hbd.symm.trans hdj))])]
     exact(hrel t v hv').mono hle'
   have hsame:g.isApp=false→(OO fun j=>if j=i then true else listed.getD j false)=OO fun j=>listed.getD j false:=fun hna=>by
    refine curO_congr _ os 0 own fun j gj hj ha=>?_
    rw[Nat.zero_add];by_cases hji:j=i
    ·exfalso
     subst hji;rw[hbl2 j g hgi] at hj;cases hj;rw[hbapp,hna] at ha;cases ha
    ·rw[if_neg hji]
   unfold wpOp;rw[ho];show if Region.wanted o (yielded ops a.tmps)=true then _ else _
   by_cases hib:g.isBox=true
   ·
    have hgn:g.guard=none:=by
     unfold GOp.isBox at hib;split at hib
     ·rename_i ty z hop;exact(boxChk_alloc hbox hgi hop).1
     ·rename_i sz x v hop;exact(boxChk_store hbox hgi hop).1
     ·cases hib
    obtain⟨hco,hdst,hcase⟩:=guard_sound hcg hER (A:=fun _=>True) (B:=fun _=>False) (by unfold GuardN;rw[hgn];trivial);have hw:Region.wanted o (yielded ops a.tmps)=true:=by
     rcases hcase with ⟨hw,_⟩ | ⟨_,_,_,hB⟩
     ·exact hw
     ·exact hB.elim
    rw[if_pos hw];refine .inl ?_;unfold GOp.isBox at hib;split at hib
    ·
     rename_i ty z hop;obtain⟨_,hfl,hone,d,hdd,hdn,hun⟩:=boxChk_alloc hbox hgi hop;rw[hop] at hco;obtain⟨hoo,hz⟩:=compOp_alloc hco
     ·refine wp_sem (s:=Instr.alloc ty true (.tuple #[])) (u:=.pointer (some ⟨w.heap.size,0,none⟩)) (w':=w.alloc (.cells z.cells ty)) (by simp only[execOp,hoo]) ?_ ?_
      ·simp only[Instr.alloc,qG,run_zeroB hz,qF,newVar,newRow,run_newObj,Sem.run_pure,World.alloc_eq]
      ·have hsvt:sv=.top:=by
        have hbk:g.blank=⟨g.dst,.mv (.global 0),none⟩:=by simp only[GOp.blank,hop]
        rw[hbk] at hstep;rcases hstep with ⟨h,_⟩ | ⟨_,h,_⟩
        ·cases h
        ·exact(show evn _ envk (.global 0)=sv from h).symm
       have hna:g.isApp=false:=by simp only[GOp.isApp,hop]
       rw[hsame hna] at hnext;refine hnext _ _ c (.pointer (some ⟨w.heap.size,0,none⟩)) (by rw[hdst]) (.inl (by rw[hsvt];exact .top _)) ?_ (.refl c) (hg.trans ⟨rfl,rfl,rfl,by simp,fun b hb _=>Below.heap_alloc w _ b hb,fun _ hb=>.inl hb,fun _ hb=>.inl hb,fun _ _ hb=>hb⟩) ?_
       ·exact hS.on (.refl c) rfl hS.one (fun b hb=>Below.heap_alloc w _ b hb) (fun b x hb=>by rw[Below.heap_alloc w _ b (hS.F_lt hb)];exact hS.le b x hb) (fun b hb=>.inl hb)
       ·rw[hdst,hdd];refine⟨_,hβ.alloc hbox hS hgi hop hdd (by rw[hts];exact hdn) hg.size hunf fun j gj sz v hgj hoj=>?_⟩;by_cases hl:listed.getD j false=true
        ·exfalso
         have hjs:j<ops.size:=by have:=(qC.1 hgj).1;omega
         have hoj':ops[j]?=some ops[j]:=by simp[hjs]
         obtain⟨_,hord2⟩:=hc j ops[j] gj hoj' hgj;have hij:i≠j:=fun e=>by subst e;rw[hgi] at hgj;cases hgj;rw[hop] at hoj;cases hoj
         have hlk:d∈gj.looks:=by simp only[GOp.looks,qT,hoj,DOp.ops];exact .inl (mem_tmpsOf.2 (by simp))
         obtain⟨e1,e2⟩:=hord2 i o g d hij ho hgi hdd (.inl hlk);rcases Nat.lt_or_gt_of_ne hij with hlt | hgt
         ·obtain⟨e,he,hb,heq⟩:=edge_mem (e1 hlt);have:=hdown j ops[j] hl hoj' e he hb;rw[heq,hunf] at this;cases this
         ·obtain⟨_,_,d',k,gk,ty',z',hx,hkj,hgk,hdk,_⟩:=boxChk_store hbox hgj hoj;cases hx;exact hun k gk (by omega) hgk hdk
        ·simpa using hl
    ·
     rename_i sz x v hop;obtain⟨_,hdn,d,k,gk,ty,z,rfl,hki,hgk,hdk,hok,hone,hv⟩:=boxChk_store hbox hgi hop;obtain⟨sv',hsv',hfl,hlen,hall1,hzl,hfs⟩:=hsto i g sz d v hgi hop;rw[hsv] at hsv';cases hsv';have hks:k<ops.size:=by have:=(qC.1 hgk).1;omega
     have hok':ops[k]?=some ops[k]:=by simp[hks]
     have hlk:d∈g.looks:=by simp only[GOp.looks,qT,hop,DOp.ops];exact .inl (mem_tmpsOf.2 (by simp))
     have hLk:listed.getD k false=true:=by
      obtain⟨e1,_⟩:=hord k ops[k] gk d (by omega) hok' hgk hdk (.inl hlk);obtain⟨e,he,hb,heq⟩:=edge_mem (e1 hki);have:=hpre e he hb
      rwa [heq] at this
     obtain⟨h1,h2,h3,h4,h5,us,h6,h7,_,_⟩:=hβ.1 k gk ty z d hgk hok hdk hLk;have hna:g.isApp=false:=by simp only[GOp.isApp,hop]
     rw[hsame hna] at hnext;have hsvr:evn (OO fun j=>listed.getD j false) envR v=sv:=by
      have hbk:g.blank=⟨none,.mv v,none⟩:=by simp only[GOp.blank,hop]
      rw[hbk] at hstep;rcases hstep with ⟨h,_⟩ | ⟨_,h,_⟩
      ·cases h
      ·have:=(show evn _ envk v=sv from h);rw[← hagree _ v (by rw[hop];simp[DOp.ops]),← this];exact nrmk (fun r=>by rw[hOM,hmkM,hckm r]) _
     have hrv:Rel c sv (a.eval v):=by rw[← hsvr];exact nrm_rel hS (ev_rel hER v)
     have hcr:CRel c (a.eval v).cells sv.cells:=.of hS hrv hfl hall1;rw[hop] at hco;obtain⟨t,hoo,hs⟩:=compOp_store hco
     ·have hone':∀ y∈(a.eval v).cells.toList,y.oneCell'=true:=all_one hS (cells_rel hS.one hrv hfl) hall1;have hzl':=hzl k gk ty z hgk hok hdk;have hrun:=store_run (P:=P) (w:=w) (b:=β k) (ty:=ty) (cur:=us) (y:=a.eval v) hs h6 (by rw[hcr.1,hlen]) (by rw[h7,hzl']) hone';have hea:a.eval (.tmp d)=.pointer (some ⟨β k,0,none⟩):=by
       show a.tmps.getD d undef=_;rw[Array.getD_eq_getD_getElem?,h1];rfl
      refine wp_skp (w':=w.setRow (β k) (a.eval v).cells) ?_ ?_
      ·simp only[execOp,hoo,qG,hea,hrun,qF,Sem.run_pure]
      ·have hoth:∀ j,j≠β k→(w.setRow (β k) (a.eval v).cells).heap[j]?=w.heap[j]?:=fun j hj=>setRow_other w (β k) j _ hj
       refine hnext _ _ c undef (by rw[hdst]) (.inr hdn) (hS.touch hoth h4 h5) (.refl c) ⟨hg.os,hg.tape,hg.output,by simpa using hg.size,fun b hb hnO=>?_,hg.newF,hg.newO,hg.f⟩ ?_
       ·rw[hoth b (by omega)];exact hg.keep b hb hnO
       ·rw[hdst,hdn];exact⟨β,hβ.store hbox hgi hop hgk hok hdk hLk (by simp) hoth (setRow_heap w (β k) us _ ty _ h6) (by rw[hcr.1,hlen,hzl']) hsv hcr⟩
    ·cases hib
   ·have hib:g.isBox=false:=by simpa using hib
    have hbe:g.blank=g:=blank_self hib;rw[hbe] at hstep;obtain⟨hnc,happ⟩:=hhy i o g ho hgi;rcases hstep with ⟨ha,hstep⟩ | ⟨ha,hstep,_⟩
    ·
     obtain⟨hgn,hedge⟩:=happ ha;have hbefore:∀ (j:Nat) gj,gs[j]?=some gj→gj.isApp=true→listed.getD j false=true→∀ (q:Nat) gq,q<j→gs[q]?=some gq→gq.isApp=true→listed.getD q false=true:=by
      intro j
      induction j using Nat.strongRecOn with
      | _ j ihj =>
       intro gj hgj haj hlj;have down:∀ (m q:Nat) gq,j - q≤m→q<j→gs[q]?=some gq→gq.isApp=true→listed.getD q false=true:=by
        intro m
        induction m with
        | zero=>intro q gq h1 h2;omega
        | succ m ihm =>
         intro q gq h1 h2 hgq haq;have hjs:j<ops.size:=by have:=(qC.1 hgj).1;omega
         have hoj:ops[j]?=some ops[j]:=by simp[hjs]
         obtain⟨_,happj⟩:=hhy j ops[j] gj hoj hgj;rcases (happj haj).2 q gq h2 hgq haq with h3 | ⟨p,gp,h3,h4,hgp,hap⟩
         ·obtain⟨e,he,hb,heq⟩:=edge_mem h3;have:=hdown j ops[j] hlj hoj e he hb
          rwa [heq] at this
         ·have hlp:=ihm p gp (by omega) h4 hgp hap;exact ihj p h4 gp hgp hap hlp q gq h3 hgq haq
       exact fun q gq hq=>down (j - q) q gq (qQ _) hq
     have hprel:∀ (q:Nat) gq,q<i→gs[q]?=some gq→gq.isApp=true→listed.getD q false=true:=by
      have down:∀ (m q:Nat) gq,i - q≤m→q<i→gs[q]?=some gq→gq.isApp=true→listed.getD q false=true:=by
       intro m
       induction m with
       | zero=>intro q gq h1 h2;omega
       | succ m ihm =>
        intro q gq h1 h2 hgq haq;rcases hedge q gq h2 hgq haq with h3 | ⟨p,gp,h3,h4,hgp,hap⟩
        ·obtain⟨e,he,hb,heq⟩:=edge_mem h3;have:=hpre e he hb
         rwa [heq] at this
        ·have hlp:=ihm p gp (by omega) h4 hgp hap;exact hbefore p gp hgp hap hlp q gq h3 hgq haq
      exact fun q gq hq=>down (i - q) q gq (qQ _) hq
     have hcur:(OO fun j=>listed.getD j false)=curO (gs.map GOp.blank) os 0 (fun j=>decide (j<i)) own:=by
      refine curO_congr _ os 0 own fun j gj' hj haj=>?_
      rw[Nat.zero_add];obtain⟨gj,hgj,rfl,_⟩:=hbl j gj' hj;rw[hbapp] at haj;by_cases hji:j=i
      ·subst hji;rw[hunf];simp
      ·rcases Nat.lt_or_gt_of_ne hji with hlt | hgt
       ·have:=hprel j gj hlt hgj haj;rw[this];simp[hlt]
       ·by_cases hl:listed.getD j false=true
        ·exfalso
         have:=hbefore j gj hgj haj hl i g hgt hgi ha;rw[hunf] at this;cases this
        ·have:listed.getD j false=false:=by simpa using hl
         rw[this];simp;omega
     have hnew:(OO fun j=>if j=i then true else listed.getD j false)=oi:=by
      refine curO_last _ os 0 own i g.blank oi (hbl2 i g hgi) hoi (by rw[hbapp];exact ha) (by simp) fun j gj' hij hj haj=>?_
      rw[Nat.zero_add,if_neg (by omega)];obtain⟨gj,hgj,rfl,_⟩:=hbl j gj' hj;rw[hbapp] at haj;by_cases hl:listed.getD j false=true
      ·exfalso
       have:=hbefore j gj hgj haj hl i g hij hgi ha;rw[hunf] at this;cases this
      ·simpa using hl
     rw[← hcur] at hstep;have hopR:opN P g.op envR (OO fun j=>listed.getD j false) (fun s o'=>s=sv∧o'=oi):=by
      unfold GOp.isApp at ha;split at ha
      ·rename_i ty sz bytes z x y hop;rw[hop] at hstep ⊢;simp only[opN] at hstep ⊢;rw[← hagree _ x (by rw[hop];simp[DOp.ops]),← hagree _ y (by rw[hop];simp[DOp.ops])];exact hstep
      ·rename_i ty sz z hop;rw[hop] at hstep ⊢;exact hstep
      ·rename_i ty z x hop;rw[hop] at hstep ⊢;simp only[opN,qR,List.map_nil] at hstep ⊢;rw[← hagree _ x.2 (by rw[hop];simp[DOp.ops])];exact hstep
      ·cases ha
     obtain⟨hco,hdst,hcase⟩:=guard_sound hcg hER (A:=fun _=>True) (B:=fun _=>False) (by unfold GuardN;rw[hgn];trivial);have hw:Region.wanted o (yielded ops a.tmps)=true:=by
      rcases hcase with ⟨hw,_⟩ | ⟨_,_,_,hB⟩
      ·exact hw
      ·exact hB.elim
     rw[if_pos hw];refine .inl (Oper.wp_mono (fun a' w' hfin=>?_) (opN_sound hco hER hS hopR));obtain⟨c',sv',own',u,ha',k1,k2,k3,k4,rfl,rfl⟩:=hfin;rw[hdst] at ha';subst ha';rw[← hnew] at k2 k4;exact hnext _ w' c' u rfl (.inl k1) k2 k3 (hg.trans k4) ⟨β,hβ.eff hbox hgi hib k3 k4⟩
    ·rw[hsame ha] at hnext;have hgd:GuardN g.guard envR (fun _=>fnN P g.op envR (maskR (OO fun j=>listed.getD j false)) (·=sv)) (fun _=>sv=.tup []):=by
      have hmg:∀ r,getr (maskR (curO (gs.map GOp.blank) os 0 (fun j=>decide (j<i)) own)) r=getr (maskR (OO fun j=>listed.getD j false)) r:=fun r=>by rw[getr_mask,getr_mask,hckm r,hOM]
      unfold StepY at hstep;unfold GuardN at hstep ⊢;split
      ·rename_i hgn;simp only[hgn] at hstep;exact(fnN_agree (hagree _)).1 (fnN_g hmg hnc hstep)
      ·rename_i s want hgs;simp only[hgs] at hstep;have hs:s∈g.looks:=by simp only[GOp.looks,qT,hgs];exact .inr (by simp)
       rw[hRget s hs];split at hstep
       ·rename_i b hb;simp only[];exact⟨fun e=>(fnN_agree (hagree _)).1 (fnN_g hmg hnc (hstep.1 e)),hstep.2⟩
       ·rename_i hb;simp only[];exact hstep
       ·exact hstep.elim
     obtain⟨hco,hdst,hcase⟩:=guard_sound hcg hER hgd;rcases hcase with ⟨hw,_,_,hA⟩ | ⟨hw,_,_,hB⟩
     ·rw[if_pos hw];refine .inl (Oper.wp_mono (fun a' w' hfin=>?_) (fn_wp hco hER hS.mask hA));obtain⟨c',sv',own',u,ha',k1,k2,k3,k4,rfl,rfl⟩:=hfin;rw[hdst] at ha';subst ha';obtain⟨m1,m2⟩:=hS.unmask k2 k3 k4;exact hnext _ w' c' u rfl (.inl k1) m1 k3 (hg.trans m2) ⟨β,hβ.eff hbox hgi hib k3 m2⟩
     ·rw[if_neg (by rw[hw];simp)];subst hB;rw[hdst];exact hnext _ w c undef rfl (.inl (.tup rfl (fun i s u hs=>by simp at hs))) hS (.refl c) hg ⟨β,hβ.eff hbox hgi hib (.refl c) (.refl c _ w)⟩
 have hrep:∀ j,(Array.replicate ops.size false).getD j false=false:=fun j=>by
  rw[Array.getD_eq_getD_getElem?,Array.getElem?_replicate];split<;>rfl
 have hO0:(OO fun j=>(Array.replicate ops.size false).getD j false)=own:=curO_none _ os 0 own fun i g _ _=>hrep _
 refine main ops.size (Array.replicate ops.size false) a0 { w0 with drawn:=w0.drawn+1 } c0 (by simp) ?_ ?_ (by rw[hO0];exact hS0.drew rfl) (.refl c0) (by rw[hO0];exact .drew rfl rfl rfl rfl) hd0 hE0.size ?_ ⟨fun _=>0,fun k g ty z d _ _ _ hL=>?_,fun k k' g g' ty ty' z z' _ _ _ _ hL=>?_⟩
 ·simp[Array.toList_replicate,List.countP_replicate]
 ·intro i o hl _;rw[hrep] at hl;cases hl
 ·intro t u hu;have htl:t<env.length:=by rw[← hE0.size];exact(qB.1 hu).1
  rw[curF_none _ _ _ _ (fun i g _ _=>hrep _)];exact hE0.rel t _ u (by rw[geti_eq];simp[htl]) hu
 ·simp only[hrep] at hL;cases hL
 ·simp only[hrep] at hL;cases hL
theorem region_hyl {n0 id:Nat}{ops:Array Oper}{gs:List GOp}{gl:GOp}{own:List Res}{c0:Cx}{env:List SV}{a0:Act}{w0:World}{K:List SV→List Res→Prop}{Q:Exit→Act→World→Prop}(hm:P.follows .mixedOrders=true)
  (hcomp:compOps P ops ops.toList=some (gs++[gl])) (hchk:regChk ops (gs++[gl])=true) (hbox:boxChk env.length gs=true) (hhyb:hybChk ops gs=true) (hlst:lastChk ops gs gl=true) (hE0:EnvOk c0 env a0) (hS0:Sat c0 own w0) (hn:n0≤c0.N) (hd0:a0.defers=[]) (h:runH P (gs.map GOp.blank) env own (fun env' own'=>boxN gs env' own' gs env' own' (fun env2 own2=>opN P gl.op env2 own2 (fun sv own3=>K (putE env2 gl.dst sv) own3))))
  (hQ:∀ a' w',Nx n0 c0 own w0 K a' w'→Q .normal a' w'):(Code.region id ops true).wp P Q a0 w0:=by
 obtain⟨svs,os,fin,fo,htr,hK⟩:=runH_trace (gs.map GOp.blank) h;obtain⟨hlen,hol,hfinl,hfin,hfo,hat⟩:=TraceH.at (gs.map GOp.blank) htr;have hbapp:∀ g:GOp,g.blank.isApp=g.isApp:=fun g=>by
  obtain⟨d,op,gd⟩:=g;unfold GOp.blank;cases op<;>rfl
 let OO:(Nat→Bool)→List Res:=fun L=>curO (gs.map GOp.blank) os 0 L own
 have nrmk:∀ {o o':List Res},(∀ r,mkR (getr o r)=mkR (getr o' r))→∀ s,nrm o s=nrm o' s:=fun {o o'} h s=>by
  cases s with
  | hd r =>
   have:=h r;simp only[nrm];cases h1:getr o r<;>cases h2:getr o' r<;>rw[h1,h2] at this<;>simp[mkR] at this<;>simp_all
  | ptr r k =>
   have:=h r;simp only[nrm];cases h1:getr o r<;>cases h2:getr o' r<;>rw[h1,h2] at this<;>simp[mkR] at this<;>simp_all
  | _=>rfl
 have mkk:∀ x:Res,mkR (mkR x)=mkR x:=fun x=>by cases x<;>rfl
 have hmkM:∀ (o:List Res) r,mkR (getr (maskR o) r)=mkR (getr o r):=fun o r=>by rw[getr_mask,mkk]
 have hbl:∀ (i:Nat) g',(gs.map GOp.blank)[i]?=some g'→∃ g,gs[i]?=some g∧g'=g.blank∧g'.dst=g.dst:=fun i g' hi=>by
  rw[qI,Option.map_eq_some_iff] at hi;obtain⟨g,h1,rfl⟩:=hi;exact⟨g,h1,rfl,blank_dst hbox h1⟩
 have hbl2:∀ (i:Nat) g,gs[i]?=some g→(gs.map GOp.blank)[i]?=some g.blank:=fun i g hi=>by rw[qI,hi];rfl
 obtain⟨hgl0,hget0⟩:=compOps_get ops ops.toList hcomp;have hgl:gs.length+1=ops.size:=by simpa using hgl0
 have hgs:∀ (i:Nat) g,gs[i]?=some g→(gs++[gl])[i]?=some g:=fun i g hi=>by
  rw[qM (qC.1 hi).1];exact hi
 have hget:∀ (i:Nat) o,i<gs.length→ops.toList[i]?=some o→∃ g,gs[i]?=some g∧compGOp P ops o=some g:=fun i o hi ho=>by
  obtain⟨g,h1,h2⟩:=hget0 i o ho;rw[qM hi] at h1;exact⟨g,h1,h2⟩
 obtain⟨ol,hol2,hgll,hlg,hle0⟩:∃ ol,ops[gs.length]?=some ol∧compGOp P ops ol=some gl∧gl.guard=none∧∀ i,i<gs.length→i∈reachs ops ol (List.range gs.length).reverse []:=by
  have h1:ops[gs.length]?=some (ops[gs.length]'(by omega)):=Array.getElem?_eq_getElem _;obtain⟨g,h2,h3⟩:=hget0 gs.length _ (by rw[Array.getElem?_toList];exact h1);rw[qN (qQ _)] at h2;simp at h2;subst h2;have h4:=hlst;simp only[lastChk,h1,qJ] at h4;exact⟨_,h1,h3,by simpa using h4.1,fun i hi=>by simpa using qL.1 h4.2 i (by simpa using hi)⟩
 have hc:∀ (k:Nat) o g,ops[k]?=some o→gs[k]?=some g→(∀ e∈o.after,Region.binds .any e=true→e.on<k) ∧
   ∀ (i:Nat) oi gi t,i≠k→ops[i]?=some oi→gs[i]?=some gi→gi.dst=some t→(t∈g.looks∨g.dst=some t)→(i<k→edge o i=true)∧(k<i→edge oi k=true):=by
  intro k o g ho hg;have hg:=hgs k g hg;have hk:k<ops.size:=(qB.1 ho).1;have h1:=qL.1 hchk k (by simpa using hk);simp only[ho,hg,qJ] at h1;obtain⟨h1,h2⟩:=h1;refine⟨fun e he hb=>?_,fun i oi gi t hne hoi hgi hdi ht=>?_⟩
  ·have:=(Array.all_eq_true'.1 h1) e he;simp[hb] at this;exact this
  ·have hgi:=hgs i gi hgi;have hi:i<ops.size:=(qB.1 hoi).1;have h3:=qL.1 h2 i (by simpa using hi);have hne':(i == k)=false:=by simpa using hne
   have hcond:(g.looks.contains t||g.dst == some t)=true:=by
    rcases ht with ht | ht
    ·simp[ht]
    ·simp[ht]
   simp only[hne',Bool.false_or,hoi,hgi,hdi,hcond,if_true] at h3;refine⟨fun hik=>by simpa [hik] using h3,fun hki=>?_⟩;rw[if_neg (by omega)] at h3;exact h3
 have hbnd:∀ (k:Nat) o,ops[k]?=some o→∀ e∈o.after,Region.binds .any e=true→e.on<k:=by
  intro k o ho e he hb;have hk:k<ops.size:=(qB.1 ho).1;have h1:=qL.1 hchk k (by simpa using hk);have hg:(gs++[gl])[k]?=some ((gs++[gl])[k]'(by simp;omega)):=qK _;simp only[ho,hg,qJ] at h1;have:=(Array.all_eq_true'.1 h1.1) e he;simp[hb] at this;exact this
 have hOM:∀ (L:Nat→Bool) r,mkR (getr (OO L) r)=mkR (getr own r):=by
  have key:∀ (gs':List GOp)(os':List (List Res))(k:Nat)(L:Nat→Bool)(acc:List Res),(∀ (i:Nat) o,os'[i]?=some o→∀ r,mkR (getr o r)=mkR (getr own r))→(∀ r,mkR (getr acc r)=mkR (getr own r))→∀ r,mkR (getr (curO gs' os' k L acc) r)=mkR (getr own r):=by
   intro gs'
   induction gs' with
   | nil=>intro os' k L acc _ ha;cases os'<;>exact ha
   | cons g gs' ih =>
    intro os' k L acc ho ha
    cases os' with
    | nil=>exact ha
    | cons o os' =>
     simp only[curO];refine ih os' (k+1) L _ (fun i o' hi=>ho (i+1) o' (by simpa using hi)) ?_;split
     ·exact ho 0 o rfl
     ·exact ha
  intro L;refine key _ os 0 L own (fun i o hi r=>?_) (fun _=>rfl);have hlt:i<(gs.map GOp.blank).length:=by rw[← hol];exact(qC.1 hi).1
  obtain⟨_,_,o',_,ho',_,_,_,h6,_⟩:=hat i _ (qK hlt);rw[hi] at ho';cases ho';exact h6 r
 have hfoM:∀ r,mkR (getr fo r)=mkR (getr own r):=fun r=>by rw[hfo];exact hOM _ r
 have hhy:∀ (k:Nat) o g,ops[k]?=some o→gs[k]?=some g→g.isCall=false∧(g.isApp=true→g.guard=none∧∀ (i:Nat) gi,i<k→gs[i]?=some gi→gi.isApp=true→edge o i=true∨∃ (j:Nat)(gj:GOp),i<j∧j<k∧gs[j]?=some gj∧gj.isApp=true):=by
  intro k o g ho hg;have hk:k<gs.length:=(qC.1 hg).1;have h1:=qL.1 hhyb k (by simpa using hk);simp only[ho,hg,qJ,Bool.not_eq_true',Bool.or_eq_true] at h1;refine⟨h1.1,fun ha=>?_⟩;rcases h1.2 with h2 | h2
  ·rw[ha] at h2;cases h2
  ·refine⟨by simpa using h2.1,fun i gi hik hgi hai=>?_⟩;have:=qL.1 h2.2 i (by simpa using hik);simp only[hgi,hai,Bool.not_true,Bool.false_or,Bool.or_eq_true] at this;rcases this with h | h
   ·exact .inl h
   ·obtain⟨j,hj,h⟩:=List.any_eq_true.1 h;rw[qJ] at h;obtain⟨h3,h4⟩:=h;have h3:=Nat.le_of_ble_eq_true h3
    cases hgj:gs[j]? with
    | none=>rw[hgj] at h4;cases h4
    | some gj=>rw[hgj] at h4;exact .inr ⟨j,gj,h3,by simpa using hj,hgj,h4⟩
 have hsto:∀ (j:Nat) g sz d v,gs[j]?=some g→g.op=.store sz (.tmp d) v→∃ sv,svs[j]?=some sv∧sv.flat=true∧sv.cells.length=sz∧sv.cells.all SV.one=true ∧
   (∀ (k:Nat) gk ty z,gs[k]?=some gk→gk.op=.alloc ty z→gk.dst=some d→sz=(cval z).cells.length)∧sv=evn fo fin v:=by
  intro j g sz d v hgj hoj;obtain⟨_,_,d',k,gk,ty,z,hx,hkj,hgk,hdk,hok,hone,hv⟩:=boxChk_store hbox hgj hoj;cases hx;obtain⟨envj,sv,oj,hsv,_,hjl,hstep,hcm,_,hej⟩:=hat j g.blank (hbl2 j g hgj);have hbk:g.blank=⟨none,.mv v,none⟩:=by simp only[GOp.blank,hoj]
  rw[hbk] at hstep;have hna:GOp.isApp ⟨none,.mv v,none⟩=false:=rfl;have hs0:evn (maskR (curO (gs.map GOp.blank) os 0 (fun i=>decide (i<j)) own)) envj v=sv:=by
   rcases hstep with ⟨h,_⟩ | ⟨_,h,_⟩
   ·rw[hna] at h;cases h
   ·exact h
  have hfok:∀ r,mkR (getr fo r)=mkR (getr own r):=hfoM;have hs1:evn fo envj v=sv:=by
   rw[← hs0];exact nrmk (fun r=>by rw[hmkM,hcm r,hfok r]) _
  have hs2:evn fo fin v=evn fo envj v:=by
   rcases hv with ⟨t,rfl,hw⟩ | ⟨u,rfl⟩
   ·have:geti fin t=geti envj t:=by
     by_cases ht:t<env.length
     ·rw[hfin t ht,hej t ht];refine curF_congr (gs.map GOp.blank) svs 0 _ fun i g' hi hd'=>?_
      obtain⟨g2,hg2,_,hd2⟩:=hbl i g' hi;rw[hd2] at hd';have:¬ j≤i:=fun hji=>hw i g2 hji hg2 hd'
      rw[Nat.zero_add];simp;omega
     ·have hge:env.length≤t:=Nat.le_of_not_lt ht;have e1:fin[t]?=none:=qX (by rw[hfinl];exact hge);have e2:envj[t]?=none:=qX (by rw[hjl];exact hge);rw[geti_eq,geti_eq,e1,e2]
    simp only[evn,ev,this]
   ·rfl
  obtain⟨cs,hcs⟩:=boxN_some gs hK k gk ty z d hgk hok hdk;have hst:=storeTo_at hgj hoj hone;simp only[boxS,hst] at hcs;split at hcs
  ·rename_i hcond;simp only[qJ] at hcond;obtain⟨q1,q2,q3,q4⟩:=hcond;rw[hs2,hs1] at q1 q2 q4;refine⟨sv,hsv,q1,Nat.eq_of_beq_eq_true q2,q4,fun k' gk' ty' z' hgk' hok' hdk'=>?_,by rw[hs2,hs1]⟩;have hkk:k'=k:=by
    rcases Nat.decEq k' k with hne | he
    ·obtain⟨_,_,_,d2,hd2,_,hun⟩:=boxChk_alloc hbox hgk hok;rw[hdk] at hd2;cases hd2;exact absurd hdk' (hun k' gk' hne hgk')
    ·exact he
   subst hkk;rw[hgk] at hgk';cases hgk';rw[hok] at hok';cases hok';exact Nat.eq_of_beq_eq_true q3
  ·cases hcs
 refine wp_region_any hm ?_;have main:∀ (fuel:Nat)(listed:Array Bool)(a:Act)(w:World)(c:Cx),listed.size=ops.size→listed.toList.countP (! ·)≤fuel →
   (∀ (i:Nat) o,listed.getD i false=true→ops[i]?=some o→∀ e∈o.after,Region.binds .any e=true→listed.getD e.on false=true)→listed.getD gs.length false=false →
   Sat c (OO fun i=>listed.getD i false) w→c0.le c→Goes c0 own w0 c (OO fun i=>listed.getD i false) w→a.defers=[]→a.tmps.size=env.length→(∀ (t:Nat) u,a.tmps[t]?=some u→Rel c (curF (gs.map GOp.blank) svs 0 (fun i=>listed.getD i false) t (geti env t)) u)→(∃ β,BoxOk w0.heap.size gs svs (fun i=>listed.getD i false) c (OO fun i=>listed.getD i false) a w β) →
   wpAny P .any ops Q fuel listed a w:=by
  have done:∀ (listed:Array Bool)(a:Act)(w:World)(c:Cx),listed.size=ops.size→(∀ i,i<gs.length→listed.getD i false=true)→Sat c (OO fun i=>listed.getD i false) w→c0.le c→Goes c0 own w0 c (OO fun i=>listed.getD i false) w→a.defers=[]→a.tmps.size=env.length →
    (∀ (t:Nat) u,a.tmps[t]?=some u→Rel c (curF (gs.map GOp.blank) svs 0 (fun i=>listed.getD i false) t (geti env t)) u)→(∃ β,BoxOk w0.heap.size gs svs (fun i=>listed.getD i false) c (OO fun i=>listed.getD i false) a w β)→∃ c' env' own',EnvOk c' env' a∧Sat c' own' w∧c.le c'∧Goes c0 own w0 c' own' w∧opN P gl.op env' own' (fun sv own3=>K (putE env' gl.dst sv) own3):=by
   intro listed a w c hsz hall hS hle hg hd hts hrel hβ;have hOfo:(OO fun i=>listed.getD i false)=fo:=by
    rw[hfo];refine curO_congr _ os 0 own fun i g hi _=>?_
    rw[Nat.zero_add];have hlt:=(qC.1 hi).1;rw[qO] at hlt;exact hall i (by omega)
   rw[hOfo] at hS hg hβ;obtain⟨β,hβ,hinj⟩:=hβ;have hallg:∀ (k:Nat) g,gs[k]?=some g→listed.getD k false=true:=fun k g hg=>hall k (qC.1 hg).1
   have hE:EnvOk c fin a:=⟨by rw[hts,hfinl],fun t s u hs hu=>by
    have ht:t<env.length:=by rw[← hts];exact(qB.1 hu).1
    have e1:geti fin t=s:=by rw[geti_eq,hs];rfl
    rw[← e1,hfin t ht];have:=hrel t u hu
    rwa [curF_congr (L':=fun _=>true) (gs.map GOp.blank) svs 0 _ (fun i g hi _=>by
     obtain⟨g',hg',_⟩:=hbl i g hi;exact hallg _ g' (by rw[Nat.zero_add];exact hg'))] at this⟩
   obtain⟨c',env',own',k1,k2,k3,k4,k5,k6⟩:=box_end (base:=w0.heap.size) hbox (a:=a) (w:=w) (β:=β)
    (fun k k' g g' ty ty' z z' h1 h2 h3 h4 h5=>hinj k k' g g' ty ty' z z' h1 h2 h3 h4 (hallg k g h1) (hallg k' g' h2) h5) gs 0 (fun i=>by rw[Nat.zero_add]) hS hE
    (fun k g ty z d _ hg ho hd'=>by
     obtain⟨h1,h2,_,h4,h5,us,h6,h7,h8,h9⟩:=hβ k g ty z d hg ho hd' (hallg k g hg);refine⟨h1,h2,h4,h5,us,h6,fun cs hcs=>?_⟩;unfold boxS at hcs;split at hcs
     ·rename_i hno;cases hcs;exact h8 fun j gj sz v hgj hoj=>absurd hoj (storeTo_none hno j gj sz v hgj)
     ·rename_i sz v hst;split at hcs
      ·cases hcs;obtain⟨j,gj,hgj,hoj⟩:=storeTo_mem hst;obtain⟨sv,hsv,_,_,_,_,hfs⟩:=hsto j gj sz d v hgj hoj;rw[← hfs];exact h9 j gj sz v sv hgj hoj (hallg j gj hgj) hsv
      ·cases hcs) hK
   refine⟨c',env',own',k2,k1,k3,⟨hg.os,hg.tape,hg.output,hg.size,hg.keep,fun b hb=>by rw[k4] at hb;exact hg.newF b hb,fun b hb=>?_,fun b o hb=>k3.f b o (hg.f b o hb)⟩,k6⟩;rcases k5 b hb with hb | hb
   ·exact hg.newO b hb
   ·exact .inr hb
  have lst:∀ (listed:Array Bool),listed.size=ops.size→Region.ready .any ops listed=[]→∀ i,i<ops.size→listed.getD i false=true:=by
   intro listed hsz hr i
   induction i using Nat.strongRecOn with
   | _ i ih =>
    intro hi;have ho:ops[i]?=some ops[i]:=by simp[hi]
    by_cases hl:listed.getD i false=true
    ·exact hl
    ·exfalso
     have hm2:i∈Region.ready .any ops listed:=by
      refine mem_ready.2 ⟨?_,ops[i],ho,fun e he hb=>?_⟩
      ·have hil:i<listed.size:=by omega
       simp[hil] at hl ⊢;exact hl
      ·have h1:=hbnd i _ ho e he hb;exact ih e.on h1 (by omega)
     rw[hr] at hm2;cases hm2
  intro fuel
  induction fuel with
  | zero =>
   intro listed a w c hsz hcnt hdown hnl
   exfalso
   have hil:gs.length<listed.size:=by omega
   have hf:listed[gs.length]=false:=by simpa [hil] using hnl
   have:=count_set listed.toList gs.length (by simp[hil,hf]);omega
  | succ fuel ih =>
   intro listed a w c hsz hcnt hdown hnl hS hle hg hd hts hrel hβ;refine⟨fun hr=>absurd (lst listed hsz hr gs.length (by omega)) (by rw[hnl];simp),fun i hi=>?_⟩;obtain⟨hun,o,ho,hpre⟩:=mem_ready.1 hi;have hi':i<ops.size:=(qB.1 ho).1;have hil:i<listed.size:=by omega
   have hunl:listed[i]?=some false:=by simp[hil] at hun;simp[hil,hun]
   have hunf:listed.getD i false=false:=by simp[hil] at hun;simp[hil,hun]
   by_cases hin:i=gs.length
   ·
    subst hin;rw[hol2] at ho;cases ho;have hall0:∀ j,j<gs.length→listed.getD j false=true:=fun j hj =>
     reachs_ok (L:=fun j=>listed.getD j false) (fun i hi=>by
      obtain⟨e,he,hb,heq⟩:=edge_mem hi;have:=hpre e he hb
      rwa [heq] at this) (fun m om hm hom i hi=>by
      obtain⟨e,he,hb,heq⟩:=edge_mem hi;have:=hdown m om hm hom e he hb
      rwa [heq] at this) _ [] (fun _ h=>by cases h) j (hle0 j hj)
    obtain⟨c1,env1,own1,q1,q2,q3,q4,q5⟩:=done listed a w c hsz hall0 hS hle hg hd hts hrel hβ;obtain⟨hco,hdst,hcase⟩:=guard_sound hgll q1 (A:=fun _=>True) (B:=fun _=>False) (by unfold GuardN;rw[hlg];trivial);have hw:Region.wanted ol (yielded ops a.tmps)=true:=by
     rcases hcase with ⟨hw,_⟩ | ⟨_,_,_,hB⟩
     ·exact hw
     ·exact hB.elim
    unfold wpOp;rw[hol2];show if Region.wanted ol (yielded ops a.tmps)=true then _ else _
    rw[if_pos hw];refine .inl (Oper.wp_mono (fun a' w' hfin=>?_) (opN_sound hco q1 q2 q5));obtain⟨c',sv',own',u,ha',k1,k2,k3,k4,k5⟩:=hfin;have hq:Q .normal a' w':=by
     rw[hdst] at ha';subst ha';refine hQ _ w' ⟨by rw[put_defers];exact hd,c',_,own',(q1.mono k3).putE k1,k2,fun r hr=>(k3.t r (by have:=q3.n;have:=hle.n;omega)).trans ((q3.t r (by have:=hle.n;omega)).trans (hle.t r (by omega))),Nat.le_trans hn (Nat.le_trans hle.n (Nat.le_trans q3.n k3.n)),q4.trans k4,k5⟩
    have hallS:∀ j,j<ops.size→(listed.setIfInBounds gs.length true).getD j false=true:=fun j hj=>by
     by_cases hjn:j=gs.length
     ·subst hjn;simp[hil]
     ·have hjl:j<gs.length:=by omega
      have h1:=hall0 j hjl;have hjs:j<listed.size:=by omega
      simp[hjs] at h1;simp[hjs,Ne.symm hjn,h1]
    have hno:Region.ready .any ops (listed.setIfInBounds gs.length true)=[]:=by
     cases hr:Region.ready .any ops (listed.setIfInBounds gs.length true) with
     | nil=>rfl
     | cons j l =>
      exfalso
      have hm2:j∈Region.ready .any ops (listed.setIfInBounds gs.length true):=by rw[hr];simp
      obtain⟨h1,o',ho',_⟩:=mem_ready.1 hm2;have hjs:j<ops.size:=(qB.1 ho').1;have h2:=hallS j hjs;rw[Array.getD_eq_getD_getElem?] at h2
      simp_all
    cases fuel with
    | zero=>exact⟨hno,hq⟩
    | succ fuel=>exact⟨fun _=>hq,fun j hj=>by rw[hno] at hj;cases hj⟩
   have hin':i<gs.length:=by omega
   obtain⟨g,hgi,hcg⟩:=hget i o hin' (by simpa using ho);obtain⟨envk,sv,oi,hsv,hoi,hkl,hstep,hckm,_,hek⟩:=hat i g.blank (hbl2 i g hgi);have hbai:=hbapp g;obtain⟨β,hβ⟩:=hβ;have hbd:=blank_dst hbox hgi;obtain⟨_,hord⟩:=hc i o g ho hgi;have hlook:∀ t,t∈g.looks∨g.dst=some t→∀ j gj',(gs.map GOp.blank)[j]?=some gj'→gj'.dst=some t→listed.getD j false=decide (j<i):=by
    intro t ht j gj' hj hdj;obtain⟨gj,hj,_,hdj'⟩:=hbl j gj' hj;rw[hdj'] at hdj;by_cases hji:j=i
    ·subst hji;rw[hunf];simp
    ·have hjs:j<ops.size:=by have:=(qC.1 hj).1;omega
     have hoj:ops[j]?=some ops[j]:=by simp[hjs]
     obtain⟨h1,h2⟩:=hord j ops[j] gj t hji hoj hj hdj ht;rcases Nat.lt_or_gt_of_ne hji with hlt | hgt
     ·obtain⟨e,he,hb,heq⟩:=edge_mem (h1 hlt);have:=hpre e he hb;rw[heq] at this;rw[this];simp[hlt]
     ·by_cases hl:listed.getD j false=true
      ·exfalso
       obtain⟨e,he,hb,heq⟩:=edge_mem (h2 hgt);have:=hdown j ops[j] hl hoj e he hb;rw[heq,hunf] at this;cases this
      ·have:listed.getD j false=false:=by simpa using hl
       rw[this];simp;omega
   have hslot:∀ t u,t∈g.looks→a.tmps[t]?=some u→Rel c (geti envk t) u:=by
    intro t u ht hu;have htl:t<env.length:=by rw[← hts];exact(qB.1 hu).1
    rw[hek t htl];have:=hrel t u hu
    rwa [curF_congr (L':=fun j=>decide (j<i)) (gs.map GOp.blank) svs 0 _ (fun j gj hj hdj=>by rw[Nat.zero_add];exact hlook t (.inl ht) j gj hj hdj)] at this
   let envR:=(List.range env.length).map fun t=>if t∈g.looks then geti envk t else .top
   have hRlen:envR.length=env.length:=by simp[envR]
   have hRget:∀ t,t∈g.looks→geti envR t=geti envk t:=fun t ht=>by
    rw[geti_eq,geti_eq];by_cases htl:t<env.length
    ·have:envR[t]?=some (geti envk t):=by simp[envR,htl,ht]
     rw[this,geti_eq];rfl
    ·have h1:envR[t]?=none:=by rw[List.getElem?_eq_none_iff];omega
     have h2:envk[t]?=none:=by rw[List.getElem?_eq_none_iff];omega
     rw[h1,h2]
   have hER:EnvOk c envR a:=⟨by rw[hts,hRlen],fun t s u hs hu=>by
    have htl:t<env.length:=by rw[← hts];exact(qB.1 hu).1
    simp only[envR,qI,List.getElem?_range htl,qS,qZ] at hs;subst hs;split
    ·rename_i ht;exact hslot t u ht hu
    ·exact .top u⟩
   have hagree:∀ (oo:List Res),∀ x∈g.op.ops,evn oo envk x=evn oo envR x:=fun oo x hx=>by
    cases x with
    | tmp t =>
     have:t∈g.looks:=by simp only[GOp.looks,qT];exact .inl (mem_tmpsOf.2 hx)
     simp only[evn,ev,hRget t this]
    | _=>rfl
   have hcount:(listed.setIfInBounds i true).toList.countP (! ·)≤fuel:=by
    have:=count_set listed.toList i (by simpa using hunl);rw[Array.toList_setIfInBounds];omega
   have hLset:∀ j,(listed.setIfInBounds i true).getD j false=if j=i then true else listed.getD j false:=fun j=>by
    by_cases hji:j=i
    ·subst hji;simp[hil]
    ·by_cases hjl:j<listed.size
     ·simp[hjl,hji,Ne.symm hji]
     ·simp[hjl,hji]
   have hdown':∀ (j:Nat) o',(listed.setIfInBounds i true).getD j false=true→ops[j]?=some o'→∀ e∈o'.after,Region.binds .any e=true→(listed.setIfInBounds i true).getD e.on false=true:=by
    intro j o' hj hoj e he hb;rw[hLset] at hj ⊢;split
    ·rfl
    ·split at hj
     ·rename_i hji;subst hji;rw[ho] at hoj;cases hoj;exact hpre e he hb
     ·exact hdown j o' hj hoj e he hb
   have hfun:(fun j=>(listed.setIfInBounds i true).getD j false)=fun j=>if j=i then true else listed.getD j false:=funext hLset
   have hnext:∀ (a':Act)(w':World)(c':Cx)(u:Value),a'=a.put g.dst u→Rel c' sv u∨g.dst=none→Sat c' (OO fun j=>if j=i then true else listed.getD j false) w'→c.le c'→Goes c0 own w0 c' (OO fun j=>if j=i then true else listed.getD j false) w'→(∃ β,BoxOk w0.heap.size gs svs (fun j=>if j=i then true else listed.getD j false) c' (OO fun j=>if j=i then true else listed.getD j false) a' w' β)→wpAny P .any ops Q fuel (listed.setIfInBounds i true) a' w':=by
    intro a' w' c' u ha hr hS' hle' hg' hβ';subst ha;refine ih _ _ w' c' (by simp[hsz]) hcount hdown' (by rw[hLset,if_neg (Ne.symm hin)];exact hnl) (by rw[hfun];exact hS') (hle.trans hle') (by rw[hfun];exact hg') (by rw[put_defers];exact hd) (by cases g.dst<;>simp[Act.put,hts]) ?_ (by rw[hfun];exact hβ');intro t v hv;rw[hfun];by_cases hdt:g.dst=some t
    ·
     have hvu:v=u:=by
      rw[hdt] at hv;simp only[Act.put,Array.getElem?_setIfInBounds,if_true] at hv;split at hv
      ·cases hv;rfl
      ·cases hv
     subst hvu;rw[curF_last (gs.map GOp.blank) svs 0 _ i g.blank sv (hbl2 i g hgi) hsv (hbd.trans hdt) (by simp) (fun j gj hij hj hdj=>by
      rw[Nat.zero_add,if_neg (by omega),hlook t (.inr hdt) j gj hj hdj];simp;omega)]
     rcases hr with hr | hr
     ·exact hr
     ·rw[hdt] at hr;cases hr
    ·have hv':a.tmps[t]?=some v:=by rwa [put_tmps hdt] at hv
     rw[curF_congr (L':=fun j=>listed.getD j false) (gs.map GOp.blank) svs 0 _ (fun j gj hj hdj=>by
      rw[Nat.zero_add,if_neg (fun e=>by subst e;rw[hbl2 j g hgi] at hj;cases hj;exact hdt (hbd.symm.trans hdj))])]
     exact(hrel t v hv').mono hle'
   have hsame:g.isApp=false→(OO fun j=>if j=i then true else listed.getD j false)=OO fun j=>listed.getD j false:=fun hna=>by
    refine curO_congr _ os 0 own fun j gj hj ha=>?_
    rw[Nat.zero_add];by_cases hji:j=i
    ·exfalso
     subst hji;rw[hbl2 j g hgi] at hj;cases hj;rw[hbapp,hna] at ha;cases ha
    ·rw[if_neg hji]
   unfold wpOp;rw[ho];show if Region.wanted o (yielded ops a.tmps)=true then _ else _
   by_cases hib:g.isBox=true
   ·
    have hgn:g.guard=none:=by
     unfold GOp.isBox at hib;split at hib
     ·rename_i ty z hop;exact(boxChk_alloc hbox hgi hop).1
     ·rename_i sz x v hop;exact(boxChk_store hbox hgi hop).1
     ·cases hib
    obtain⟨hco,hdst,hcase⟩:=guard_sound hcg hER (A:=fun _=>True) (B:=fun _=>False) (by unfold GuardN;rw[hgn];trivial);have hw:Region.wanted o (yielded ops a.tmps)=true:=by
     rcases hcase with ⟨hw,_⟩ | ⟨_,_,_,hB⟩
     ·exact hw
     ·exact hB.elim
    rw[if_pos hw];refine .inl ?_;unfold GOp.isBox at hib;split at hib
    ·
     rename_i ty z hop;obtain⟨_,hfl,hone,d,hdd,hdn,hun⟩:=boxChk_alloc hbox hgi hop;rw[hop] at hco;obtain⟨hoo,hz⟩:=compOp_alloc hco
     ·refine wp_sem (s:=Instr.alloc ty true (.tuple #[])) (u:=.pointer (some ⟨w.heap.size,0,none⟩)) (w':=w.alloc (.cells z.cells ty)) (by simp only[execOp,hoo]) ?_ ?_
      ·simp only[Instr.alloc,qG,run_zeroB hz,qF,newVar,newRow,run_newObj,Sem.run_pure,World.alloc_eq]
      ·have hsvt:sv=.top:=by
        have hbk:g.blank=⟨g.dst,.mv (.global 0),none⟩:=by simp only[GOp.blank,hop]
        rw[hbk] at hstep;rcases hstep with ⟨h,_⟩ | ⟨_,h,_⟩
        ·cases h
        ·exact(show evn _ envk (.global 0)=sv from h).symm
       have hna:g.isApp=false:=by simp only[GOp.isApp,hop]
       rw[hsame hna] at hnext;refine hnext _ _ c (.pointer (some ⟨w.heap.size,0,none⟩)) (by rw[hdst]) (.inl (by rw[hsvt];exact .top _)) ?_ (.refl c) (hg.trans ⟨rfl,rfl,rfl,by simp,fun b hb _=>Below.heap_alloc w _ b hb,fun _ hb=>.inl hb,fun _ hb=>.inl hb,fun _ _ hb=>hb⟩) ?_
       ·exact hS.on (.refl c) rfl hS.one (fun b hb=>Below.heap_alloc w _ b hb) (fun b x hb=>by rw[Below.heap_alloc w _ b (hS.F_lt hb)];exact hS.le b x hb) (fun b hb=>.inl hb)
       ·rw[hdst,hdd];refine⟨_,hβ.alloc hbox hS hgi hop hdd (by rw[hts];exact hdn) hg.size hunf fun j gj sz v hgj hoj=>?_⟩;by_cases hl:listed.getD j false=true
        ·exfalso
         have hjs:j<ops.size:=by have:=(qC.1 hgj).1;omega
         have hoj':ops[j]?=some ops[j]:=by simp[hjs]
         obtain⟨_,hord2⟩:=hc j ops[j] gj hoj' hgj;have hij:i≠j:=fun e=>by subst e;rw[hgi] at hgj;cases hgj;rw[hop] at hoj;cases hoj
         have hlk:d∈gj.looks:=by simp only[GOp.looks,qT,hoj,DOp.ops];exact .inl (mem_tmpsOf.2 (by simp))
         obtain⟨e1,e2⟩:=hord2 i o g d hij ho hgi hdd (.inl hlk);rcases Nat.lt_or_gt_of_ne hij with hlt | hgt
         ·obtain⟨e,he,hb,heq⟩:=edge_mem (e1 hlt);have:=hdown j ops[j] hl hoj' e he hb;rw[heq,hunf] at this;cases this
         ·obtain⟨_,_,d',k,gk,ty',z',hx,hkj,hgk,hdk,_⟩:=boxChk_store hbox hgj hoj;cases hx;exact hun k gk (by omega) hgk hdk
        ·simpa using hl
    ·
     rename_i sz x v hop;obtain⟨_,hdn,d,k,gk,ty,z,rfl,hki,hgk,hdk,hok,hone,hv⟩:=boxChk_store hbox hgi hop;obtain⟨sv',hsv',hfl,hlen,hall1,hzl,hfs⟩:=hsto i g sz d v hgi hop;rw[hsv] at hsv';cases hsv';have hks:k<ops.size:=by have:=(qC.1 hgk).1;omega
     have hok':ops[k]?=some ops[k]:=by simp[hks]
     have hlk:d∈g.looks:=by simp only[GOp.looks,qT,hop,DOp.ops];exact .inl (mem_tmpsOf.2 (by simp))
     have hLk:listed.getD k false=true:=by
      obtain⟨e1,_⟩:=hord k ops[k] gk d (by omega) hok' hgk hdk (.inl hlk);obtain⟨e,he,hb,heq⟩:=edge_mem (e1 hki);have:=hpre e he hb
      rwa [heq] at this
     obtain⟨h1,h2,h3,h4,h5,us,h6,h7,_,_⟩:=hβ.1 k gk ty z d hgk hok hdk hLk;have hna:g.isApp=false:=by simp only[GOp.isApp,hop]
     rw[hsame hna] at hnext;have hsvr:evn (OO fun j=>listed.getD j false) envR v=sv:=by
      have hbk:g.blank=⟨none,.mv v,none⟩:=by simp only[GOp.blank,hop]
      rw[hbk] at hstep;rcases hstep with ⟨h,_⟩ | ⟨_,h,_⟩
      ·cases h
      ·have:=(show evn _ envk v=sv from h);rw[← hagree _ v (by rw[hop];simp[DOp.ops]),← this];exact nrmk (fun r=>by rw[hOM,hmkM,hckm r]) _
     have hrv:Rel c sv (a.eval v):=by rw[← hsvr];exact nrm_rel hS (ev_rel hER v)
     have hcr:CRel c (a.eval v).cells sv.cells:=.of hS hrv hfl hall1;rw[hop] at hco;obtain⟨t,hoo,hs⟩:=compOp_store hco
     ·have hone':∀ y∈(a.eval v).cells.toList,y.oneCell'=true:=all_one hS (cells_rel hS.one hrv hfl) hall1;have hzl':=hzl k gk ty z hgk hok hdk;have hrun:=store_run (P:=P) (w:=w) (b:=β k) (ty:=ty) (cur:=us) (y:=a.eval v) hs h6 (by rw[hcr.1,hlen]) (by rw[h7,hzl']) hone';have hea:a.eval (.tmp d)=.pointer (some ⟨β k,0,none⟩):=by
       show a.tmps.getD d undef=_;rw[Array.getD_eq_getD_getElem?,h1];rfl
      refine wp_skp (w':=w.setRow (β k) (a.eval v).cells) ?_ ?_
      ·simp only[execOp,hoo,qG,hea,hrun,qF,Sem.run_pure]
      ·have hoth:∀ j,j≠β k→(w.setRow (β k) (a.eval v).cells).heap[j]?=w.heap[j]?:=fun j hj=>setRow_other w (β k) j _ hj
       refine hnext _ _ c undef (by rw[hdst]) (.inr hdn) (hS.touch hoth h4 h5) (.refl c) ⟨hg.os,hg.tape,hg.output,by simpa using hg.size,fun b hb hnO=>?_,hg.newF,hg.newO,hg.f⟩ ?_
       ·rw[hoth b (by omega)];exact hg.keep b hb hnO
       ·rw[hdst,hdn];exact⟨β,hβ.store hbox hgi hop hgk hok hdk hLk (by simp) hoth (setRow_heap w (β k) us _ ty _ h6) (by rw[hcr.1,hlen,hzl']) hsv hcr⟩
    ·cases hib
   ·have hib:g.isBox=false:=by simpa using hib
    have hbe:g.blank=g:=blank_self hib;rw[hbe] at hstep;obtain⟨hnc,happ⟩:=hhy i o g ho hgi;rcases hstep with ⟨ha,hstep⟩ | ⟨ha,hstep,_⟩
    ·
     obtain⟨hgn,hedge⟩:=happ ha;have hbefore:∀ (j:Nat) gj,gs[j]?=some gj→gj.isApp=true→listed.getD j false=true→∀ (q:Nat) gq,q<j→gs[q]?=some gq→gq.isApp=true→listed.getD q false=true:=by
      intro j
      induction j using Nat.strongRecOn with
      | _ j ihj =>
       intro gj hgj haj hlj;have down:∀ (m q:Nat) gq,j - q≤m→q<j→gs[q]?=some gq→gq.isApp=true→listed.getD q false=true:=by
        intro m
        induction m with
        | zero=>intro q gq h1 h2;omega
        | succ m ihm =>
         intro q gq h1 h2 hgq haq;have hjs:j<ops.size:=by have:=(qC.1 hgj).1;omega
         have hoj:ops[j]?=some ops[j]:=by simp[hjs]
         obtain⟨_,happj⟩:=hhy j ops[j] gj hoj hgj;rcases (happj haj).2 q gq h2 hgq haq with h3 | ⟨p,gp,h3,h4,hgp,hap⟩
         ·obtain⟨e,he,hb,heq⟩:=edge_mem h3;have:=hdown j ops[j] hlj hoj e he hb
          rwa [heq] at this
         ·have hlp:=ihm p gp (by omega) h4 hgp hap;exact ihj p h4 gp hgp hap hlp q gq h3 hgq haq
       exact fun q gq hq=>down (j - q) q gq (qQ _) hq
     have hprel:∀ (q:Nat) gq,q<i→gs[q]?=some gq→gq.isApp=true→listed.getD q false=true:=by
      have down:∀ (m q:Nat) gq,i - q≤m→q<i→gs[q]?=some gq→gq.isApp=true→listed.getD q false=true:=by
       intro m
       induction m with
       | zero=>intro q gq h1 h2;omega
       | succ m ihm =>
        intro q gq h1 h2 hgq haq;rcases hedge q gq h2 hgq haq with h3 | ⟨p,gp,h3,h4,hgp,hap⟩
        ·obtain⟨e,he,hb,heq⟩:=edge_mem h3;have:=hpre e he hb
         rwa [heq] at this
        ·have hlp:=ihm p gp (by omega) h4 hgp hap;exact hbefore p gp hgp hap hlp q gq h3 hgq haq
      exact fun q gq hq=>down (i - q) q gq (qQ _) hq
     have hcur:(OO fun j=>listed.getD j false)=curO (gs.map GOp.blank) os 0 (fun j=>decide (j<i)) own:=by
      refine curO_congr _ os 0 own fun j gj' hj haj=>?_
      rw[Nat.zero_add];obtain⟨gj,hgj,rfl,_⟩:=hbl j gj' hj;rw[hbapp] at haj;by_cases hji:j=i
      ·subst hji;rw[hunf];simp
      ·rcases Nat.lt_or_gt_of_ne hji with hlt | hgt
       ·have:=hprel j gj hlt hgj haj;rw[this];simp[hlt]
       ·by_cases hl:listed.getD j false=true
        ·exfalso
         have:=hbefore j gj hgj haj hl i g hgt hgi ha;rw[hunf] at this;cases this
        ·have:listed.getD j false=false:=by simpa using hl
         rw[this];simp;omega
     have hnew:(OO fun j=>if j=i then true else listed.getD j false)=oi:=by
      refine curO_last _ os 0 own i g.blank oi (hbl2 i g hgi) hoi (by rw[hbapp];exact ha) (by simp) fun j gj' hij hj haj=>?_
      rw[Nat.zero_add,if_neg (by omega)];obtain⟨gj,hgj,rfl,_⟩:=hbl j gj' hj;rw[hbapp] at haj;by_cases hl:listed.getD j false=true
      ·exfalso
       have:=hbefore j gj hgj haj hl i g hij hgi ha;rw[hunf] at this;cases this
      ·simpa using hl
     rw[← hcur] at hstep;have hopR:opN P g.op envR (OO fun j=>listed.getD j false) (fun s o'=>s=sv∧o'=oi):=by
      unfold GOp.isApp at ha;split at ha
      ·rename_i ty sz bytes z x y hop;rw[hop] at hstep ⊢;simp only[opN] at hstep ⊢;rw[← hagree _ x (by rw[hop];simp[DOp.ops]),← hagree _ y (by rw[hop];simp[DOp.ops])];exact hstep
      ·rename_i ty sz z hop;rw[hop] at hstep ⊢;exact hstep
      ·rename_i ty z x hop;rw[hop] at hstep ⊢;simp only[opN,qR,List.map_nil] at hstep ⊢;rw[← hagree _ x.2 (by rw[hop];simp[DOp.ops])];exact hstep
      ·cases ha
     obtain⟨hco,hdst,hcase⟩:=guard_sound hcg hER (A:=fun _=>True) (B:=fun _=>False) (by unfold GuardN;rw[hgn];trivial);have hw:Region.wanted o (yielded ops a.tmps)=true:=by
      rcases hcase with ⟨hw,_⟩ | ⟨_,_,_,hB⟩
      ·exact hw
      ·exact hB.elim
     rw[if_pos hw];refine .inl (Oper.wp_mono (fun a' w' hfin=>?_) (opN_sound hco hER hS hopR));obtain⟨c',sv',own',u,ha',k1,k2,k3,k4,rfl,rfl⟩:=hfin;rw[hdst] at ha';subst ha';rw[← hnew] at k2 k4;exact hnext _ w' c' u rfl (.inl k1) k2 k3 (hg.trans k4) ⟨β,hβ.eff hbox hgi hib k3 k4⟩
    ·rw[hsame ha] at hnext;have hgd:GuardN g.guard envR (fun _=>fnN P g.op envR (maskR (OO fun j=>listed.getD j false)) (·=sv)) (fun _=>sv=.tup []):=by
      have hmg:∀ r,getr (maskR (curO (gs.map GOp.blank) os 0 (fun j=>decide (j<i)) own)) r=getr (maskR (OO fun j=>listed.getD j false)) r:=fun r=>by rw[getr_mask,getr_mask,hckm r,hOM]
      unfold StepY at hstep;unfold GuardN at hstep ⊢;split
      ·rename_i hgn;simp only[hgn] at hstep;exact(fnN_agree (hagree _)).1 (fnN_g hmg hnc hstep)
      ·rename_i s want hgs;simp only[hgs] at hstep;have hs:s∈g.looks:=by simp only[GOp.looks,qT,hgs];exact .inr (by simp)
       rw[hRget s hs];split at hstep
       ·rename_i b hb;simp only[];exact⟨fun e=>(fnN_agree (hagree _)).1 (fnN_g hmg hnc (hstep.1 e)),hstep.2⟩
       ·rename_i hb;simp only[];exact hstep
       ·exact hstep.elim
     obtain⟨hco,hdst,hcase⟩:=guard_sound hcg hER hgd;rcases hcase with ⟨hw,_,_,hA⟩ | ⟨hw,_,_,hB⟩
     ·rw[if_pos hw];refine .inl (Oper.wp_mono (fun a' w' hfin=>?_) (fn_wp hco hER hS.mask hA));obtain⟨c',sv',own',u,ha',k1,k2,k3,k4,rfl,rfl⟩:=hfin;rw[hdst] at ha';subst ha';obtain⟨m1,m2⟩:=hS.unmask k2 k3 k4;exact hnext _ w' c' u rfl (.inl k1) m1 k3 (hg.trans m2) ⟨β,hβ.eff hbox hgi hib k3 m2⟩
     ·rw[if_neg (by rw[hw];simp)];subst hB;rw[hdst];exact hnext _ w c undef rfl (.inl (.tup rfl (fun i s u hs=>by simp at hs))) hS (.refl c) hg ⟨β,hβ.eff hbox hgi hib (.refl c) (.refl c _ w)⟩
 have hrep:∀ j,(Array.replicate ops.size false).getD j false=false:=fun j=>by
  rw[Array.getD_eq_getD_getElem?,Array.getElem?_replicate];split<;>rfl
 have hO0:(OO fun j=>(Array.replicate ops.size false).getD j false)=own:=curO_none _ os 0 own fun i g _ _=>hrep _
 refine main ops.size (Array.replicate ops.size false) a0 { w0 with drawn:=w0.drawn+1 } c0 (by simp) ?_ ?_ (hrep _) (by rw[hO0];exact hS0.drew rfl) (.refl c0) (by rw[hO0];exact .drew rfl rfl rfl rfl) hd0 hE0.size ?_ ⟨fun _=>0,fun k g ty z d _ _ _ hL=>?_,fun k k' g g' ty ty' z z' _ _ _ _ hL=>?_⟩
 ·simp[Array.toList_replicate,List.countP_replicate]
 ·intro i o hl _;rw[hrep] at hl;cases hl
 ·intro t u hu;have htl:t<env.length:=by rw[← hE0.size];exact(qB.1 hu).1
  rw[curF_none _ _ _ _ (fun i g _ _=>hrep _)];exact hE0.rel t _ u (by rw[geti_eq];simp[htl]) hu
 ·simp only[hrep] at hL;cases hL
 ·simp only[hrep] at hL;cases hL
def lastChk2 (ops:Array Oper)(gs:List GOp):Bool :=
 match gs.getLast? with
 | some gl=>hybChk ops gs.dropLast&&lastChk ops gs.dropLast gl
 | none=>false
theorem lastChk2_snoc {ops:Array Oper}{gs:List GOp}{gl:GOp}(h:lastChk2 ops (gs++[gl])=true):hybChk ops gs=true∧lastChk ops gs gl=true:=by
 unfold lastChk2 at h
 simpa using h
end
end Go.SX
