/- Parts of the proof. -/
import Derived.Test.YtlpempbeenpilaaGreatDoorZSxMg
import Derived.RangeFuncCalls
import Derived.OrdersIn
import Derived.RangeFuncWrites
set_option linter.unusedSimpArgs false
set_option linter.unusedVariables false
set_option linter.unusedSectionVars false
namespace Go.SX
open Go
variable [Tabs]
theorem op_in {P:Program}{o:Oper}{a:Act}{w:World}{K:Act→World→Prop}{Q Q':Exit→Act→World→Prop}(l n:Nat)(hd:∀ c,o.op≠.defer c)(hq:∀ e a w,Q e a w→Q' e a w)(h:o.wp P a w K Q):o.wpIn (Fence.wide.inRound l) n P a w K Q':=by
 unfold Oper.wp at h;refine⟨fun _ _=>trivial,?_⟩;rw[Oper.semAt_eq _ _ _ hd];generalize (execOp a.eval o).run P w=r at h
 cases r with
 | ok nx w' =>
  cases nx with
  | value v=>exact h
  | skip=>exact h
  | defer d=>exact h
  | enter f args =>
   refine⟨fun h=>(by cases h),CallsIn.inRound l (callsIn_wide.2 (Calls.mono h fun e w'' he=>?_))⟩
   cases e with
   | returned v=>exact he
   | panicked ch=>exact hq _ _ _ he
   | outgrown=>obtain⟨a1,w1,h1⟩:=he;exact⟨a1,w1,hq _ _ _ h1⟩
  | row row args=>exact⟨fun h=>(by cases h),fun c cs _=>let ⟨v,w',r,s⟩:=h c cs;⟨v,w',r,stepsIn_wide.2 s⟩⟩
  | _=>exact h.elim
 | halt hl w' =>
  cases hl with
  | panic v=>exact hq _ _ _ h
  | _=>exact h.elim
theorem any_in {P:Program}{ops:Array Oper}{R:Act→World→Prop}{Q':Exit→Act→World→Prop}(l n:Nat)(hd:∀ (i:Nat) o,ops[i]?=some o→∀ c,o.op≠.defer c)(hq:∀ a w,R a w→Q' .normal a w):∀ (fuel:Nat)(listed:Array Bool)(a:Act)(w:World),
  wpAny P .any ops (fun e a w=>match e with | .normal=>R a w | _=>False) fuel listed a w→wpAnyIn (Fence.wide.inRound l) n P .any ops Q' fuel listed a w
 | 0,listed,a,w,h=>⟨h.1,hq _ _ h.2⟩
 | fuel+1,listed,a,w,h=>by
  refine⟨fun hr=>hq _ _ (h.1 hr),fun i hi=>?_⟩;have h1:=h.2 i hi;unfold wpOp at h1;unfold wpOpIn
  cases ho:ops[i]? with
  | none=>rw[ho] at h1;exact any_in l n hd hq fuel _ a w h1
  | some o =>
   rw[ho] at h1;simp only at h1 ⊢;split at h1
   ·rename_i hw;rw[if_pos hw];rcases h1 with h1 | ⟨_,_,_,h1⟩
    ·exact op_in l n (hd i o ho) (fun e a w he=>by cases e<;>first | exact hq _ _ he | exact he.elim) (Oper.wp_mono (fun a w=>any_in l n hd hq fuel _ a w) h1)
    ·exact h1.elim
   ·rename_i hw;rw[if_neg hw];exact⟨fun _ _=>trivial,any_in l n hd hq fuel _ _ w h1⟩
theorem compOp_nodefer {P:Program}{op:Op}{d:DOp}(h:compOp P op=some d):∀ c,op≠.defer c:=by
 rintro c rfl;simp[compOp] at h
theorem compOps_nodefer {P:Program}{ops:Array Oper}{gs:List GOp}(h:compOps P ops ops.toList=some gs):∀ (i:Nat) o,ops[i]?=some o→∀ c,o.op≠.defer c:=fun i o ho=>by
 obtain⟨g,_,h2⟩:=(compOps_get ops ops.toList h).2 i o (by simpa using ho);unfold compGOp at h2;split at h2
 ·rename_i d h3 h4;exact compOp_nodefer h3
 ·rename_i d j want h3 h4;exact compOp_nodefer h3
 ·cases h2
theorem region_any_in {P:Program}{own:List Res}{id:Nat}{ops:Array Oper}{gs:List GOp}{c0:Cx}{env:List SV}{a0:Act}{w0:World}{K:List SV→Prop}{Q:Exit→Act→World→Prop}(l n:Nat)(hm:P.follows .mixedOrders=true)
  (hcomp:compOps P ops ops.toList=some gs) (hchk:regChk ops gs=true) (hE0:EnvOk c0 env a0) (hS0:Sat c0 own w0) (hd0:a0.defers=[]) (n0:Nat) (hn:n0≤c0.N) (h:runF P gs env own K)
  (hQ:∀ a' w',Nx n0 c0 own w0 (fun env' own'=>own'=own∧K env') a' w'→Q .normal a' w'):(Code.region id ops true).wpIn (Fence.wide.inRound l) n P Q a0 w0 :=
 wpIn_region_any hm (any_in l n (compOps_nodefer hcomp) hQ _ _ _ _ (any_wp (n0:=n0) hcomp hchk hE0 hS0 hn hd0 h fun _ _ h=>h))
theorem region_sfx_in {P:Program}{own:List Res}{id:Nat}{ops:Array Oper}{gs gl:List GOp}{c0:Cx}{env:List SV}{a0:Act}{w0:World}{K:List SV→List Res→Prop}{Q:Exit→Act→World→Prop}(l n:Nat)(hm:P.follows .mixedOrders=true)
  (hcomp:compOps P ops ops.toList=some (gs++gl)) (hchk:regChk ops (gs++gl)=true) (hsfx:sfxOf ops=gs.length) (hE0:EnvOk c0 env a0) (hS0:Sat c0 own w0) (hd0:a0.defers=[]) (n0:Nat) (hn:n0≤c0.N) (h:runF P gs env own (fun env'=>run P gl env' own K))
  (hQ:∀ a' w',Nx n0 c0 own w0 K a' w'→Q .normal a' w'):(Code.region id ops true).wpIn (Fence.wide.inRound l) n P Q a0 w0:=by
 have e:mkAt gs gs.length=none:=by unfold mkAt;rw[qX (qQ _)]
 have e2:blankAt gs gs.length=gs:=by unfold blankAt;rw[e]
 exact wpIn_region_any hm (any_in l n (compOps_nodefer hcomp) hQ _ _ _ _ (sfm_wp (n0:=n0) gs.length hcomp hchk hsfx (by unfold mkOk;rw[e]) hE0 hS0 hn hd0 (by rw[e,e2];exact h) fun _ _ h=>h))
end Go.SX
namespace Go.SX
open Go Go.RowKit
variable [Tabs]
def Cx.cut (n0:Nat)(c:Cx):Cx:={ c with F:=fun b=>match c.F b with | some o=>if b<n0∨o.isCells=true then some o else none | none=>none }
theorem Cx.cut_some {n0:Nat}{c:Cx}{b:Nat}{o:Obj}:(c.cut n0).F b=some o↔c.F b=some o∧(b<n0∨o.isCells=true):=by
 unfold Cx.cut;dsimp only
 cases h:c.F b with
 | none=>simp
 | some o' =>
  dsimp only;split
  ·rename_i h1;constructor
   ·intro e;cases e;exact⟨rfl,h1⟩
   ·rintro ⟨e,_⟩;exact e
  ·rename_i h1;constructor
   ·intro e;cases e
   ·rintro ⟨e,h2⟩;cases e;exact absurd h2 h1
theorem Cx.cut_cells {n0:Nat}{c:Cx}{b:Nat}{cs:Array Value}{e:TypeId}{fr:Nat×Nat}(h:c.F b=some (.cells cs e fr)):(c.cut n0).F b=some (.cells cs e fr):=Cx.cut_some.2 ⟨h,.inr rfl⟩
theorem Rep.cut {n0:Nat}{c:Cx}{v:Value}{d:D}(r:Rep c.F v d):Rep (c.cut n0).F v d:=by
 induction r with
 | val v h=>exact .val v h
 | nil a cap h=>exact .nil a cap h
 | sl b off cap c e fr es sz g hF hcap hsz hc _ ih=>exact .sl b off cap c e fr es sz g (Cx.cut_cells hF) hcap hsz hc ih
theorem Rel.cut {n0:Nat}{c:Cx}{s:SV}{v:Value}(h:Rel c s v):Rel (c.cut n0) s v:=by
 induction h with
 | d h=>exact .d h.cut
 | agg hl _ ih=>exact .agg hl ih
 | tup hl _ ih=>exact .tup hl ih
 | ptr hr h=>exact .ptr hr h
 | hd hr h=>exact .hd hr h
 | fp hF h=>exact .fp (Cx.cut_cells hF) (fun j d hj=>let ⟨u,h1,h2⟩:=h j d hj;⟨u,h1,h2.cut⟩)
 | rp hr h=>exact .rp hr h
 | clo hl _ hl' _ ih ih'=>exact .clo hl ih hl' ih'
 | rs hr h=>exact .rs hr h
 | top v=>exact .top v
def Res.flat : Res→Bool
 | .mp .. | .mpf ..=>false
 | _=>true
theorem ResOk.cut {n0:Nat}{c:Cx}{w:World}{v:Value}{x:Res}(h:ResOk c w v x)(hx:x.flat=true):ResOk (c.cut n0) w v x:=by
 cases x with
 | gone=>trivial
 | fz es=>exact Rep.cut h
 | fzc ds=>exact Rel.cut h
 | mp=>cases hx
 | mpf=>cases hx
 | cells cs ty =>
  obtain⟨b,us,hv,hb,hs,hc⟩:=h;exact⟨b,us,hv,hb,hs,fun i s hi=>let ⟨u,h1,h2,h3⟩:=hc i s hi;⟨u,h1,h2,h3.cut⟩⟩
 | row ty sz es =>
  obtain⟨hd,us,hv,hc⟩:=h;exact⟨hd,us,hv,fun j d hj=>let ⟨u,h1,h2⟩:=hc j d hj;⟨u,h1,h2.cut⟩⟩
theorem Sat.cells {c:Cx}{own:List Res}{w:World}(h:Sat c own w)(hf:∀ x∈own,x.flat=true){b:Nat}(hb:Own c own b):∃ o,w.heap[b]?=some o∧o.isCells=true:=by
 obtain⟨r,x,hx,hl,hbk⟩:=hb;have hr:=h.res r x hx;have hfx:=hf x (qU hx)
 cases x with
 | gone=>simp[Res.live] at hl
 | fz=>simp[Res.live] at hl
 | fzc=>simp[Res.live] at hl
 | mp=>cases hfx
 | mpf=>cases hfx
 | cells cs ty =>
  obtain⟨b',us,hv,hw,_⟩:=hr;rw[hv] at hbk;simp[blkOf] at hbk;subst hbk;exact⟨_,hw,rfl⟩
 | row ty sz es =>
  obtain⟨_,us,⟨_,hv⟩,_⟩:=hr;rcases hv with ⟨hv,_⟩ | ⟨g,cap,cur,hv,_,hw,_⟩
  ·rw[hv] at hbk;simp[blkOf] at hbk
  ·rw[hv] at hbk;simp[blkOf] at hbk;subst hbk;exact⟨_,hw,rfl⟩
theorem Sat.turn {c:Cx}{own:List Res}{w w':World}(h:Sat c own w)(hF:∀ b,c.F b≠none→w'.heap[b]?=w.heap[b]?)(hO:∀ b,Own c own b→w'.heap[b]?=w.heap[b]?):Sat c own w' where
 n:=h.n
 res r x hx:=(h.res r x hx).keep (.refl c) fun hl b hb=>hO b ⟨r,x,hx,hl,hb⟩
 apart:=h.apart
 notF:=h.notF
 le b o hb:=(hF b (by rw[hb];exact Option.some_ne_none o)).trans (h.le b o hb)
 one:=h.one
 tab:=h.tab
def Rd (cE:Cx)(wE:World)(c0:Cx)(own:List Res)(W:World):Prop :=
 ∃ c1,(∀ b o,c1.F b=some o→b<wE.heap.size∨o.isCells=true)∧c0.le c1∧Sat c1 own W∧Goes cE [] wE c1 own W
theorem Sat.cutE {cE c1:Cx}{wE W:World}{own:List Res}(hE:Sat cE [] wE)(hG:Goes cE [] wE c1 own W)(hS:Sat c1 own W)(hf:∀ x∈own,x.flat=true) :
  (∀ b o,(c1.cut wE.heap.size).F b=some o→b<wE.heap.size∨o.isCells=true)∧Sat (c1.cut wE.heap.size) own W∧Goes cE [] wE (c1.cut wE.heap.size) own W:=by
 have hcut:∀ b o,cE.F b=some o→(c1.cut wE.heap.size).F b=some o:=fun b o hb=>Cx.cut_some.2 ⟨hG.f b o hb,.inl (hE.F_lt hb)⟩
 refine⟨fun b o hb=>(Cx.cut_some.1 hb).2,⟨hS.n,fun r x hx=>(hS.res r x hx).cut (hf x (qU hx)),hS.apart,?_,?_,hS.one,Tabs.mono hcut hE.tab⟩,⟨hG.os,hG.tape,hG.output,hG.size,hG.keep,?_,hG.newO,hcut⟩⟩
 ·intro r x b hx hl hb;have:=hS.notF r x b hx hl hb;unfold Cx.cut;dsimp only;rw[this]
 ·exact fun b o hb=>hS.le b o (Cx.cut_some.1 hb).1
 ·intro b hb;obtain⟨o,ho⟩:=Option.ne_none_iff_exists'.1 hb;exact hG.newF b (by rw[(Cx.cut_some.1 ho).1];exact Option.some_ne_none o)
theorem Rd.of {cE c0 c1:Cx}{wE W:World}{own:List Res}(hE:Sat cE [] wE)(hc0:∀ b o,c0.F b=some o→cE.F b=some o)(hle:c0.le c1)(hS:Sat c1 own W)(hG:Goes cE [] wE c1 own W)(hf:∀ x∈own,x.flat=true):Rd cE wE c0 own W :=
 let ⟨h1,h2,h3⟩:=Sat.cutE hE hG hS hf
 ⟨_,h1,⟨hle.n,hle.t,fun b o hb=>h3.f b o (hc0 b o hb)⟩,h2,h3⟩
theorem rd_grow {cE c1:Cx}{wE W W':World}{own:List Res}{row:Option Nat}(h1:∀ b o,c1.F b=some o→b<wE.heap.size∨o.isCells=true)(h3:Sat c1 own W)(h4:Goes cE [] wE c1 own W)(hf:∀ x∈own,x.flat=true)(hg:W.grownBy W' row)
  (hr:∀ r,row=some r→wE.heap.size≤r∧∃ o:Obj,W.heap[r]?=some o∧o.isCells=false):Sat c1 own W'∧Goes cE [] wE c1 own W':=by
 have hcell:∀ b o,W.heap[b]?=some o→(b<wE.heap.size∨o.isCells=true)→W'.heap[b]?=W.heap[b]?:=fun b o ho hk=>by
  refine hg.block b (qB.1 ho).1 fun e=>?_
  obtain⟨k1,o',k2,k3⟩:=hr b e.symm;rw[ho] at k2;cases k2;rcases hk with hk | hk
  ·omega
  ·rw[hk] at k3;cases k3
 refine⟨h3.turn (fun b hb=>?_) (fun b hb=>?_),?_⟩
 ·obtain⟨o,ho⟩:=Option.ne_none_iff_exists'.1 hb;exact hcell b o (h3.le b o ho) (h1 b o ho)
 ·obtain⟨o,ho,hc⟩:=h3.cells hf hb;exact hcell b o ho (.inr hc)
 ·refine⟨hg.os.trans h4.os,hg.tape.trans h4.tape,hg.output.trans h4.output,Nat.le_trans h4.size hg.size,fun b hb hn=>?_,h4.newF,h4.newO,h4.f⟩;have hlt:b<W.heap.size:=zC hb h4.size;obtain⟨o,ho⟩:∃ o,W.heap[b]?=some o:=⟨W.heap[b],Array.getElem?_eq_getElem hlt⟩;exact(hcell b o ho (.inl hb)).trans (h4.keep b hb hn)
theorem Rd.own {α:Type}{cE c0:Cx}{wE:World}{B:Nat}(hB:wE.heap.size≤B)(OWN:List α→List Res)(hf:∀ l,∀ x∈OWN l,x.flat=true):OwnFrom B fun l W=>Rd cE wE c0 (OWN l) W:=by
 rintro l W W' row ⟨c1,h1,h2,h3,h4⟩ hg hr;obtain⟨k1,k2⟩:=rd_grow h1 h3 h4 (hf l) hg fun r e=>let ⟨a,b⟩:=hr r e;⟨Nat.le_trans hB a,b⟩
 exact⟨c1,h1,h2,k1,k2⟩
theorem own_nil {c:Cx}{b:Nat}:¬ Own c [] b:=by rintro ⟨r,x,h,_⟩;simp at h
theorem Goes.rd {cE c1 c2:Cx}{wE W W':World}{own own':List Res}{B:Nat}(h:Goes cE [] wE c1 own W)(hS:Sat c1 own W)(hf:∀ x∈own,x.flat=true)(k:Goes c1 own W c2 own' W'):KeepsFrom B W W'∧Below wE.heap.size W W':=by
 refine⟨⟨k.size,fun b o _ ho hc=>?_⟩,⟨k.os,k.tape,k.output,k.size,fun b hb=>?_⟩⟩
 ·refine(k.keep b (qB.1 ho).1 fun hb=>?_).trans ho;obtain⟨o',ho',hc'⟩:=hS.cells hf hb;rw[ho] at ho';cases ho';rw[hc] at hc';cases hc'
 ·refine k.keep b (zC hb h.size) fun ho=>?_
  rcases h.newO b ho with h1 | h1
  ·exact own_nil h1
  ·omega
theorem list_in {P:Program}{ops:Array Oper}{R:Act→World→Prop}{Q':Exit→Act→World→Prop}(l n:Nat)(hq:∀ a w,R a w→Q' .normal a w):∀ (rest:List Oper)(a:Act)(w:World),(∀ o∈rest,∀ c,o.op≠.defer c) →
  wpList P ops (fun e a w=>match e with | .normal=>R a w | _=>False) rest a w→wpListIn (Fence.wide.inRound l) n P ops Q' rest a w
 | [],a,w,_,h=>hq _ _ h
 | o::rest,a,w,hd,h=>by
  unfold wpList at h;unfold wpListIn;have hd':∀ o∈rest,∀ c,o.op≠.defer c:=fun o ho=>hd o (List.mem_cons_of_mem _ ho)
  split at h
  ·rename_i hw;rw[if_pos hw];rcases h with h | ⟨_,_,_,h⟩
   ·exact op_in l n (hd o (List.mem_cons_self ..)) (fun e a w he=>by cases e<;>first | exact hq _ _ he | exact he.elim) (Oper.wp_mono (fun a w=>list_in l n hq rest a w hd') h)
   ·exact h.elim
  ·rename_i hw;rw[if_neg hw];exact⟨fun _ _=>trivial,list_in l n hq rest _ w hd' h⟩
theorem region_run_in {P:Program}{own:List Res}{id:Nat}{ops:Array Oper}{gs:List GOp}{c0:Cx}{env:List SV}{a0:Act}{w0:World}{K:List SV→List Res→Prop}{Q:Exit→Act→World→Prop}(l n:Nat)
  (hcomp:compOps P ops ops.toList=some gs) (hE0:EnvOk c0 env a0) (hS0:Sat c0 own w0) (hd0:a0.defers=[]) (n0:Nat) (hn:n0≤c0.N) (h:run P gs env own K)
  (hQ:∀ a' w',Nx n0 c0 own w0 K a' w'→Q .normal a' w'):(Code.region id ops false).wpIn (Fence.wide.inRound l) n P Q a0 w0 :=
 wpIn_region_list (list_in l n hQ _ _ _ (fun o ho=>by
  obtain⟨i,hi⟩:=List.mem_iff_getElem?.1 ho;exact compOps_nodefer hcomp i o (by simpa using hi)) (run_sound (n0:=n0) ops _ gs hcomp hE0 hS0 hn hd0 h fun _ _ h=>h))
theorem Sat.drop {c:Cx}{own:List Res}{w:World}(h:Sat c own w):Sat { c with N:=0 } [] w :=
 ⟨rfl,fun r x hx=>by simp at hx,fun r s x y b hx=>by simp at hx,fun r x b hx=>by simp at hx,h.le,h.one,h.tab⟩
theorem Goes.drop {c c':Cx}{own own':List Res}{w w':World}(h:Goes c own w c' own' w'):Goes c own w { c' with N:=0 } [] w' :=
 ⟨h.os,h.tape,h.output,h.size,h.keep,h.newF,fun b hb=>absurd hb own_nil,h.f⟩
end Go.SX
