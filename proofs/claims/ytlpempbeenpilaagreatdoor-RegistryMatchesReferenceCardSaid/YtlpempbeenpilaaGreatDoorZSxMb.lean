/- Parts of the proof. -/
import Derived.Test.YtlpempbeenpilaaGreatDoorZSxL
set_option linter.unusedSimpArgs false
set_option linter.unusedVariables false
set_option linter.unusedSectionVars false
namespace Go.SX
open Go Go.RowKit
variable [Tabs]
def GOp.isBox (g:GOp):Bool:=match g.op with | .alloc .. | .store ..=>true | _=>false
def GOp.blank (g:GOp):GOp :=
 match g.op with
 | .alloc ..=>⟨g.dst,.mv (.global 0),none⟩
 | .store _ _ v=>⟨none,.mv v,none⟩
 | _=>g
def noW (gs:List GOp)(p:Nat→Bool)(t:Nat):Bool:=(List.range gs.length).all fun i=>p i||(match gs[i]? with | some g=>!(g.dst == some t) | none=>true)
def boxChk1 (n:Nat)(gs:List GOp)(k:Nat):Bool :=
 match gs[k]? with
 | some g =>
  (match g.op with
   | .alloc _ z=>g.guard.isNone&&((cval z).flat&&((cval z).cells.all SV.one&&(match g.dst with | some d=>Nat.blt d n&&noW gs (fun i=>Nat.beq i k) d | none=>false)))
   | .store _ x v=>g.guard.isNone&&(g.dst.isNone&&(match x with
    | .tmp d=>((List.range k).any fun i=>match gs[i]? with | some gi=>(match gi.op with | .alloc ..=>gi.dst == some d | _=>false) | none=>false) &&
      ((List.range gs.length).all (fun i=>Nat.beq i k||(match gs[i]? with | some gi=>(match gi.op with | .store _ (.tmp d') _=>!(Nat.beq d' d) | _=>true) | none=>true)) &&
      (match v with | .tmp t=>noW gs (fun i=>Nat.blt i k) t | .const _=>true | _=>false))
    | _=>false))
   | _=>true)
 | none=>true
def boxChk (n:Nat)(gs:List GOp):Bool:=(List.range gs.length).all (boxChk1 n gs)
def storeTo (d:Nat):List GOp→Option (Nat×Operand)
 | []=>none
 | g::l=>match g.op with
  | .store sz (.tmp d') v=>if Nat.beq d' d then some (sz,v) else storeTo d l
  | _=>storeTo d l
def boxS (gs:List GOp)(own:List Res)(env:List SV)(d:Nat)(zs:List SV):Option (List SV) :=
 match storeTo d gs with
 | none=>some zs
 | some (sz,v)=>(match (evn own env v).flat&&(Nat.beq (evn own env v).cells.length sz&&(Nat.beq sz zs.length&&(evn own env v).cells.all SV.one)) with
  | true=>some (evn own env v).cells
  | false=>none)
def boxN (gs:List GOp)(env0:List SV)(own0:List Res):List GOp→List SV→List Res→(List SV→List Res→Prop)→Prop
 | [],env,own,K=>K env own
 | g::l,env,own,K =>
  match g.op,g.dst with
  | .alloc ty z,some d=>(match boxS gs own0 env0 d (cval z).cells with
   | some cs=>boxN gs env0 own0 l (seti env d (.ptr own.length 0)) (own++[.cells cs ty]) K
   | none=>False)
  | _,_=>boxN gs env0 own0 l env own K
section
variable {P:Program}
theorem nbF {i k:Nat}(h:i≠k):Nat.beq i k=false:=by
 cases hb:Nat.beq i k with
 | false=>rfl
 | true=>exact absurd (Nat.eq_of_beq_eq_true hb) h
theorem noW_spec {gs:List GOp}{p:Nat→Bool}{t:Nat}(h:noW gs p t=true){i:Nat}{g:GOp}(hg:gs[i]?=some g)(hp:p i=false):g.dst≠some t:=by
 have hi:=(qC.1 hg).1;have:=qL.1 h i (by simpa using hi);rw[hp,hg] at this
 simpa using this
theorem boxChk_alloc {n:Nat}{gs:List GOp}(h:boxChk n gs=true){k:Nat}{g:GOp}{ty:TypeId}{z:Value}(hg:gs[k]?=some g)(ho:g.op=.alloc ty z) :
  g.guard=none∧(cval z).flat=true∧(cval z).cells.all SV.one=true∧∃ d,g.dst=some d∧d<n∧∀ (i:Nat) gi,i≠k→gs[i]?=some gi→gi.dst≠some d:=by
 have hi:=(qC.1 hg).1;have h1:=qL.1 h k (by simpa using hi);simp only[boxChk1,hg,ho,qJ] at h1;obtain⟨h1,h2,h3,h4⟩:=h1;split at h4
 ·rename_i d hd;simp only[qJ] at h4;exact⟨by simpa using h1,h2,h3,d,hd,by have:=Nat.le_of_ble_eq_true h4.1;omega,fun i gi hik hgi=>noW_spec h4.2 hgi (nbF hik)⟩
 ·cases h4
theorem boxChk_store {n:Nat}{gs:List GOp}(h:boxChk n gs=true){j:Nat}{g:GOp}{sz:Nat}{x v:Operand}(hg:gs[j]?=some g)(ho:g.op=.store sz x v) :
  g.guard=none∧g.dst=none∧∃ d k gk ty z,x=.tmp d∧k<j∧gs[k]?=some gk∧gk.dst=some d∧gk.op=.alloc ty z ∧
   (∀ (i:Nat) gi sz' v',i≠j→gs[i]?=some gi→gi.op≠.store sz' (.tmp d) v')∧((∃ t,v=.tmp t∧∀ (i:Nat) gi,j≤i→gs[i]?=some gi→gi.dst≠some t)∨∃ u,v=.const u):=by
 have hi:=(qC.1 hg).1;have h1:=qL.1 h j (by simpa using hi);simp only[boxChk1,hg,ho,qJ] at h1;obtain⟨h1,h2,h3⟩:=h1;split at h3
 ·rename_i d;simp only[qJ] at h3;obtain⟨h3,h4,h5⟩:=h3;obtain⟨k,hk,hk2⟩:=List.any_eq_true.1 h3;rw[List.mem_range] at hk;split at hk2
  ·rename_i gk hgk;split at hk2
   ·rename_i ty z hop;refine⟨by simpa using h1,by simpa using h2,d,k,gk,ty,z,rfl,hk,hgk,by simpa using hk2,hop,fun i gi sz' v' hij hgi e=>?_,?_⟩
    ·have hil:=(qC.1 hgi).1;have:=qL.1 h4 i (by simpa using hil);rw[hgi] at this;simp only[e] at this;have hb:Nat.beq i j=false:=nbF hij;rw[hb] at this;simp at this
    ·split at h5
     ·rename_i t;exact .inl ⟨t,rfl,fun i gi hji hgi=>noW_spec h5 hgi (by
       cases hb:Nat.blt i j with
       | false=>rfl
       | true=>have:=Nat.le_of_ble_eq_true hb;omega)⟩
     ·rename_i u;exact .inr ⟨u,rfl⟩
     ·cases h5
   ·cases hk2
  ·cases hk2
 ·cases h3
theorem storeTo_at {gs:List GOp}{d:Nat}:∀ {j:Nat}{g:GOp}{sz:Nat}{v:Operand},gs[j]?=some g→g.op=.store sz (.tmp d) v →
  (∀ (i:Nat) gi sz' v',i≠j→gs[i]?=some gi→gi.op≠.store sz' (.tmp d) v')→storeTo d gs=some (sz,v):=by
 induction gs with
 | nil=>intro j g sz v h;simp at h
 | cons g0 gs ih =>
  intro j g sz v hg ho hu
  cases j with
  | zero =>
   simp at hg;subst hg;simp only[storeTo,ho];have:Nat.beq d d=true:=by simp[]
   rw[if_pos this]
  | succ j =>
   have h0:storeTo d (g0::gs)=storeTo d gs:=by
    simp only[storeTo];split
    ·rename_i sz' d' v' hop;split
     ·rename_i hb;have:d'=d:=by simpa [Nat.beq_eq] using hb
      subst this;exact absurd hop (hu 0 g0 sz' v' (by omega) rfl)
     ·rfl
    ·rfl
   rw[h0];exact ih (j:=j) (by simpa using hg) ho fun i gi sz' v' hij hgi=>hu (i+1) gi sz' v' (by omega) (by simpa using hgi)
theorem storeTo_none {gs:List GOp}{d:Nat}(h:storeTo d gs=none):∀ (j:Nat) g sz v,gs[j]?=some g→g.op≠.store sz (.tmp d) v:=by
 induction gs with
 | nil=>intro j g sz v hg;simp at hg
 | cons g0 gs ih =>
  intro j g sz v hg ho;simp only[storeTo] at h
  cases j with
  | zero =>
   simp at hg;subst hg;simp only[ho] at h;have:Nat.beq d d=true:=by simp[]
   rw[if_pos this] at h;cases h
  | succ j =>
   refine ih ?_ j g sz v (by simpa using hg) ho;split at h
   ·split at h
    ·cases h
    ·exact h
   ·exact h
theorem storeTo_mem {gs:List GOp}{d sz:Nat}{v:Operand}(h:storeTo d gs=some (sz,v)):∃ (j:Nat)(g:GOp),gs[j]?=some g∧g.op=.store sz (.tmp d) v:=by
 induction gs with
 | nil=>simp[storeTo] at h
 | cons g0 gs ih =>
  simp only[storeTo] at h;split at h
  ·rename_i sz' d' v' hop;split at h
   ·rename_i hb;have:d'=d:=by simpa [Nat.beq_eq] using hb
    subst this;cases h;exact⟨0,g0,rfl,hop⟩
   ·obtain⟨j,g,h1,h2⟩:=ih h;exact⟨j+1,g,by simpa using h1,h2⟩
  ·obtain⟨j,g,h1,h2⟩:=ih h;exact⟨j+1,g,by simpa using h1,h2⟩
theorem blank_dst {n:Nat}{gs:List GOp}(h:boxChk n gs=true){k:Nat}{g:GOp}(hg:gs[k]?=some g):g.blank.dst=g.dst:=by
 unfold GOp.blank;split
 ·rfl
 ·rename_i sz x v ho;exact(boxChk_store h hg ho).2.1.symm
 ·rfl
def CRel (c:Cx)(us:Array Value)(cs:List SV):Prop:=us.size=cs.length∧∀ (i:Nat) s,cs[i]?=some s→∃ u,us[i]?=some u∧u.oneCell'=true∧Rel c s u
theorem CRel.mono {c c':Cx}(hle:c.le c'){us:Array Value}{cs:List SV}(h:CRel c us cs):CRel c' us cs:=⟨h.1,fun i s hi=>let ⟨u,h1,h2,h3⟩:=h.2 i s hi;⟨u,h1,h2,h3.mono hle⟩⟩
theorem CRel.of {c:Cx}{own:List Res}{w:World}(hS:Sat c own w){s:SV}{u:Value}(hr:Rel c s u)(hf:s.flat=true)(h1:s.cells.all SV.one=true):CRel c u.cells s.cells:=by
 have hc:=cells_rel hS.one hr hf;have hone:=all_one hS hc h1;refine⟨by have:=hc.1;simpa using this,fun i t hi=>?_⟩;have hlt:i<u.cells.size:=by have:=hc.1;have h2:=(qC.1 hi).1;simp at this;omega
 have hu:u.cells.toList[i]?=some u.cells[i]:=by simp[hlt]
 exact⟨u.cells[i],by simp[hlt],hone _ (by simp),hc.2 i t _ hi hu⟩
theorem Sat.touch {c:Cx}{own:List Res}{w w':World}{b:Nat}(h:Sat c own w)(hw:∀ j,j≠b→w'.heap[j]?=w.heap[j]?)(hO:¬ Own c own b)(hF:c.F b=none):Sat c own w' where
 n:=h.n
 res r x hx:=(h.res r x hx).keep (.refl c) fun hl b' hb'=>hw b' (fun e=>hO (e▸⟨r,x,hx,hl,hb'⟩))
 apart:=h.apart
 notF:=h.notF
 le b' o hb':=by rw[hw b' (fun e=>by subst e;rw[hF] at hb';cases hb')];exact h.le b' o hb'
 one:=h.one
 tab:=h.tab
theorem Sat.adopt {c:Cx}{own:List Res}{w:World}{b:Nat}{x:Res}(h:Sat c own w)(hO:¬ Own c own b)(hF:c.F b=none)(hres:ResOk (c.push (.pointer (some ⟨b,0,none⟩))) w (.pointer (some ⟨b,0,none⟩)) x) :
  Sat (c.push (.pointer (some ⟨b,0,none⟩))) (own++[x]) w∧∀ b',Own (c.push (.pointer (some ⟨b,0,none⟩))) (own++[x]) b'→Own c own b'∨b'=b:=by
 obtain⟨v,hv⟩:∃ v:Value,v=.pointer (some ⟨b,0,none⟩):=⟨_,rfl⟩;rw[← hv] at hres ⊢;have hle:=c.push_le v;have hθN:(c.push v).θ c.N=v:=by simp[Cx.push]
 have hget:∀ (s:Nat) y,(own++[x])[s]?=some y→(s<c.N∧own[s]?=some y)∨(s=c.N∧y=x):=fun s y hy=>by
  rw[List.getElem?_append] at hy;split at hy
  ·exact .inl ⟨by rw[← h.n];assumption,hy⟩
  ·rename_i hge;have:s=c.N:=by
    have:=(qC.1 hy).1;simp at this;rw[← h.n];omega
   subst this;simp[h.n] at hy;exact .inr ⟨rfl,hy.symm⟩
 have hbk:blkOf v=some b:=by rw[hv];rfl
 refine⟨⟨by simp[Cx.push,h.n],?_,?_,?_,h.le,?_,h.tab⟩,?_⟩
 ·intro r y hy;rcases hget r y hy with ⟨hr,hy⟩ | ⟨rfl,rfl⟩
  ·rw[hle.t r hr];exact(h.res r y hy).keep hle fun _ _ _=>rfl
  ·rw[hθN];exact hres
 ·intro r s y z b' hy hz hly hlz hb hb';rcases hget r y hy with ⟨hr,hy1⟩ | ⟨hr,_⟩
  ·rw[hle.t r hr] at hb;rcases hget s z hz with ⟨hs,hz1⟩ | ⟨hs,_⟩
   ·rw[hle.t s hs] at hb';exact h.apart r s y z b' hy1 hz1 hly hlz hb hb'
   ·rw[hs,hθN,hbk] at hb';cases hb';exact absurd ⟨r,y,hy1,hly,hb⟩ hO
  ·rw[hr,hθN,hbk] at hb;cases hb;rcases hget s z hz with ⟨hs,hz1⟩ | ⟨hs,_⟩
   ·rw[hle.t s hs] at hb';exact absurd ⟨s,z,hz1,hlz,hb'⟩ hO
   ·rw[hr,hs]
 ·intro r y b' hy hly hb;rcases hget r y hy with ⟨hr,hy⟩ | ⟨rfl,rfl⟩
  ·rw[hle.t r hr] at hb;exact h.notF r y b' hy hly hb
  ·rw[hθN,hbk] at hb;cases hb;exact hF
 ·intro r;simp only[Cx.push];split
  ·rw[hv];rfl
  ·exact h.one r
 ·rintro b' ⟨r,y,hy,hly,hb⟩;rcases hget r y hy with ⟨hr,hy⟩ | ⟨rfl,rfl⟩
  ·rw[hle.t r hr] at hb;exact .inl ⟨r,y,hy,hly,hb⟩
  ·rw[hθN,hbk] at hb;cases hb;exact .inr rfl
theorem box_end {gs:List GOp}{env0:List SV}{own0:List Res}{n base:Nat}(_hbox:boxChk n gs=true){a:Act}{w:World}{β:Nat→Nat}{K:List SV→List Res→Prop}
  (hinj:∀ (k k':Nat) g g' ty ty' z z',gs[k]?=some g→gs[k']?=some g'→g.op=.alloc ty z→g'.op=.alloc ty' z'→β k=β k'→k=k') :
  ∀ (l:List GOp)(k0:Nat){c:Cx}{env:List SV}{own:List Res},(∀ i,l[i]?=gs[k0+i]?)→Sat c own w→EnvOk c env a →
   (∀ (k:Nat) g ty z d,k0≤k→gs[k]?=some g→g.op=.alloc ty z→g.dst=some d→a.tmps[d]?=some (.pointer (some ⟨β k,0,none⟩))∧base≤β k∧¬ Own c own (β k)∧c.F (β k)=none ∧
    ∃ us,w.heap[β k]?=some (.cells us ty (0,0))∧∀ cs,boxS gs own0 env0 d (cval z).cells=some cs→CRel c us cs) →
   boxN gs env0 own0 l env own K→∃ c' env' own',Sat c' own' w∧EnvOk c' env' a∧c.le c'∧c'.F=c.F∧(∀ b,Own c' own' b→Own c own b∨base≤b)∧K env' own':=by
 intro l
 induction l with
 | nil=>intro k0 c env own _ hS hE _ h;exact⟨c,env,own,hS,hE,.refl c,rfl,fun b hb=>.inl hb,h⟩
 | cons g l ih =>
  intro k0 c env own hl hS hE hB h;have hg:gs[k0]?=some g:=by have:=hl 0;simpa using this.symm
  have hl':∀ i,l[i]?=gs[k0+1+i]?:=fun i=>by
   have:=hl (i+1);rw[List.getElem?_cons_succ] at this;rw[this];congr 1;omega
  have hB':∀ (k:Nat) g ty z d,k0+1≤k→gs[k]?=some g→g.op=.alloc ty z→g.dst=some d→a.tmps[d]?=some (.pointer (some ⟨β k,0,none⟩))∧base≤β k∧¬ Own c own (β k)∧c.F (β k)=none ∧
    ∃ us,w.heap[β k]?=some (.cells us ty (0,0))∧∀ cs,boxS gs own0 env0 d (cval z).cells=some cs→CRel c us cs:=fun k g ty z d hk=>hB k g ty z d (by omega)
  unfold boxN at h;split at h
  ·rename_i ty z d ho hd;obtain⟨h1,h2,h3,h4,us,h5,h6⟩:=hB k0 g ty z d (qQ _) hg ho hd;split at h
   ·rename_i cs hcs;have hcr:=h6 cs hcs;obtain⟨k1,k2⟩:=hS.adopt (x:=.cells cs ty) h3 h4 ⟨β k0,us,rfl,h5,hcr.1,fun i s hi=>let ⟨u,m1,m2,m3⟩:=hcr.2 i s hi;⟨u,m1,m2,m3.mono (c.push_le _)⟩⟩;have hle:=c.push_le (.pointer (some ⟨β k0,0,none⟩));have hE2:EnvOk (c.push (.pointer (some ⟨β k0,0,none⟩))) (seti env d (.ptr own.length 0)) a:=by
     refine⟨by rw[seti_eq,List.length_set,hE.size],fun t s u hs hu=>?_⟩;rw[seti_eq,List.getElem?_set] at hs;split at hs
     ·rename_i e;subst e;split at hs
      ·cases hs;rw[h1] at hu;cases hu;exact .ptr (by simp[Cx.push,hS.n]) (by simp[Cx.push,hS.n])
      ·cases hs
     ·exact(hE.rel t s u hs hu).mono hle
    obtain⟨c',env',own',m1,m2,m3,m4,m5,m6⟩:=ih (k0+1) hl' k1 hE2 (fun k g' ty' z' d' hk hg' ho' hd'=>by
     obtain⟨n1,n2,n3,n4,us',n5,n6⟩:=hB k g' ty' z' d' (by omega) hg' ho' hd';refine⟨n1,n2,fun hO=>?_,n4,us',n5,fun cs' hcs'=>(n6 cs' hcs').mono hle⟩;rcases k2 _ hO with hO | hO
     ·exact n3 hO
     ·have:=hinj k k0 g' g ty' ty z' z hg' hg ho' ho hO;omega) h
    refine⟨c',env',own',m1,m2,hle.trans m3,m4,fun b hb=>?_,m6⟩;rcases m5 b hb with hb | hb
    ·rcases k2 b hb with hb | hb
     ·exact .inl hb
     ·subst hb;exact .inr h2
    ·exact .inr hb
   ·exact h.elim
  ·exact ih (k0+1) hl' hS hE hB' h
end
end Go.SX
namespace Go.SX
open Go Go.RowKit
variable [Tabs]
def BoxOk (base:Nat)(gs:List GOp)(svs:List SV)(L:Nat→Bool)(c:Cx)(own:List Res)(a:Act)(w:World)(β:Nat→Nat):Prop :=
 (∀ (k:Nat) g ty z d,gs[k]?=some g→g.op=.alloc ty z→g.dst=some d→L k=true →
  a.tmps[d]?=some (.pointer (some ⟨β k,0,none⟩))∧base≤β k∧β k<w.heap.size∧¬ Own c own (β k)∧c.F (β k)=none ∧
  ∃ us,w.heap[β k]?=some (.cells us ty (0,0))∧us.size=(cval z).cells.length ∧
   ((∀ (j:Nat) gj sz v,gs[j]?=some gj→gj.op=.store sz (.tmp d) v→L j=false)→CRel c us (cval z).cells) ∧
   (∀ (j:Nat) gj sz v sv,gs[j]?=some gj→gj.op=.store sz (.tmp d) v→L j=true→svs[j]?=some sv→CRel c us sv.cells)) ∧
 (∀ (k k':Nat) g g' ty ty' z z',gs[k]?=some g→gs[k']?=some g'→g.op=.alloc ty z→g'.op=.alloc ty' z'→L k=true→L k'=true→β k=β k'→k=k')
section
variable {P:Program}
theorem put_tmps {a:Act}{d:Option Nat}{u:Value}{t:Nat}(h:d≠some t):(a.put d u).tmps[t]?=a.tmps[t]?:=by
 cases d with
 | none=>rfl
 | some d=>simp only[Act.put,Array.getElem?_setIfInBounds];rw[if_neg (fun e=>h (by rw[e]))]
theorem BoxOk.pure {base n:Nat}{gs:List GOp}{svs:List SV}{L:Nat→Bool}{c c':Cx}{own:List Res}{a:Act}{w w':World}{β:Nat→Nat}{i:Nat}{g:GOp}{u:Value}(hbox:boxChk n gs=true)(h:BoxOk base gs svs L c own a w β)
  (hg:gs[i]?=some g) (hna:g.isBox=false) (hle:c.le c') (hgo:Goes c own w c' own w'):BoxOk base gs svs (fun j=>if j=i then true else L j) c' own (a.put g.dst u) w' β:=by
 have hk:∀ (k:Nat) g' ty z,gs[k]?=some g'→g'.op=.alloc ty z→k≠i:=fun k g' ty z hg' ho e=>by
  subst e;rw[hg] at hg';cases hg';simp[GOp.isBox,ho] at hna
 have hj:∀ (k:Nat) g' sz x v,gs[k]?=some g'→g'.op=.store sz x v→k≠i:=fun k g' sz x v hg' ho e=>by
  subst e;rw[hg] at hg';cases hg';simp[GOp.isBox,ho] at hna
 refine⟨fun k g' ty z d hg' ho hd hL=>?_,fun k k' g1 g2 ty ty' z z' h1 h2 h3 h4 h5 h6=>?_⟩
 ·have hki:=hk k g' ty z hg' ho;simp only[if_neg hki] at hL;obtain⟨h1,h2,h3,h4,h5,us,h6,h7,h8,h9⟩:=h.1 k g' ty z d hg' ho hd hL;obtain⟨_,_,_,d',hd',_,hun⟩:=boxChk_alloc hbox hg' ho;rw[hd] at hd';cases hd';refine⟨by rw[put_tmps (hun i g (Ne.symm hki) hg)];exact h1,h2,zC h3 hgo.size,fun hO=>?_,?_,us,by rw[hgo.keep _ h3 h4];exact h6,h7,fun hs=>(h8 fun j gj sz v hgj hoj=>?_).mono hle,fun j gj sz v sv hgj hoj hLj hsv=>(h9 j gj sz v sv hgj hoj ?_ hsv).mono hle⟩
  ·rcases hgo.newO _ hO with hO | hO
   ·exact h4 hO
   ·omega
  ·cases hc:c'.F (β k) with
   | none=>rfl
   | some o =>
    rcases hgo.newF (β k) (by simp[hc]) with h | h | h
    ·exact absurd h5 h
    ·omega
    ·exact absurd h h4
  ·have:=hs j gj sz v hgj hoj
   simpa only[if_neg (hj j gj _ _ _ hgj hoj)] using this
  ·simpa only[if_neg (hj j gj _ _ _ hgj hoj)] using hLj
 ·simp only[if_neg (hk k g1 ty z h1 h3)] at h5;simp only[if_neg (hk k' g2 ty' z' h2 h4)] at h6;exact h.2 k k' g1 g2 ty ty' z z' h1 h2 h3 h4 h5 h6
theorem BoxOk.alloc {base n:Nat}{gs:List GOp}{svs:List SV}{L:Nat→Bool}{c:Cx}{own:List Res}{a:Act}{w:World}{β:Nat→Nat}{i:Nat}{g:GOp}{ty:TypeId}{z:Value}{d:Nat}(hbox:boxChk n gs=true)(hS:Sat c own w)(h:BoxOk base gs svs L c own a w β)
  (hg:gs[i]?=some g) (ho:g.op=.alloc ty z) (hd:g.dst=some d) (hdt:d<a.tmps.size) (hb:base≤w.heap.size) (hLi:L i=false)
  (hst:∀ (j:Nat) gj sz v,gs[j]?=some gj→gj.op=.store sz (.tmp d) v→L j=false) :
  BoxOk base gs svs (fun j=>if j=i then true else L j) c own (a.put (some d) (.pointer (some ⟨w.heap.size,0,none⟩))) (w.alloc (.cells z.cells ty)) (fun k=>if k=i then w.heap.size else β k):=by
 obtain⟨_,hfl,hone,d0,hd0,_,hun⟩:=boxChk_alloc hbox hg ho;rw[hd] at hd0;cases hd0;have hnew:∀ b,Own c own b∨c.F b≠none→b<w.heap.size:=fun b hb=>by
  rcases hb with hb | hb
  ·exact hS.blk_lt hb
  ·cases hc:c.F b with
   | none=>exact absurd hc hb
   | some o=>exact hS.F_lt hc
 have hns:∀ (j:Nat) gj sz x v,gs[j]?=some gj→gj.op=.store sz x v→j≠i:=fun j gj sz x v hgj hoj e=>by
  subst e;rw[hg] at hgj;cases hgj;rw[ho] at hoj;cases hoj
 refine⟨fun k g' ty' z' d' hg' ho' hd' hL=>?_,fun k k' g1 g2 ty1 ty2 z1 z2 h1 h2 h3 h4 h5 h6 h7=>?_⟩
 ·by_cases hki:k=i
  ·subst hki;rw[hg] at hg';cases hg';rw[ho] at ho';cases ho';rw[hd] at hd';cases hd';simp only[if_true];have hcr:CRel c z.cells (cval z).cells:=.of hS (cval_rel c z) hfl hone;refine⟨by simp[Act.put,hdt],hb,by simp,fun hO=>by have:=hnew _ (.inl hO);omega,?_,z.cells,heap_alloc_new w _,hcr.1,fun _=>hcr,fun j gj sz v sv hgj hoj hLj _=>?_⟩
   ·cases hc:c.F w.heap.size with
    | none=>rfl
    | some o=>have:=hS.F_lt hc;omega
   ·simp only[if_neg (hns j gj _ _ _ hgj hoj)] at hLj;rw[hst j gj sz v hgj hoj] at hLj;cases hLj
  ·simp only[if_neg hki] at hL ⊢;obtain⟨h1,h2,h3,h4,h5,us,h6,h7,h8,h9⟩:=h.1 k g' ty' z' d' hg' ho' hd' hL;have hdd:some d≠some d':=fun e=>by
    cases e;exact hun k g' hki hg' hd'
   refine⟨by rw[put_tmps hdd];exact h1,h2,by simp;omega,h4,h5,us,by rw[Below.heap_alloc w _ _ h3];exact h6,h7,fun hs=>h8 fun j gj sz v hgj hoj=>?_,fun j gj sz v sv hgj hoj hLj hsv=>h9 j gj sz v sv hgj hoj ?_ hsv⟩
   ·have:=hs j gj sz v hgj hoj
    simpa only[if_neg (hns j gj _ _ _ hgj hoj)] using this
   ·simpa only[if_neg (hns j gj _ _ _ hgj hoj)] using hLj
 ·have lt:∀ (k:Nat) g' ty' z',gs[k]?=some g'→g'.op=.alloc ty' z'→k≠i→L k=true→β k<w.heap.size:=fun k g' ty' z' hg' ho' hki hL=>by
   obtain⟨_,_,_,d',hd',_,_⟩:=boxChk_alloc hbox hg' ho';exact(h.1 k g' ty' z' d' hg' ho' hd' hL).2.2.1
  by_cases hki:k=i
  ·by_cases hki':k'=i
   ·omega
   ·simp only[if_neg hki'] at h6;simp only[if_pos hki,if_neg hki'] at h7;have:=lt k' g2 ty2 z2 h2 h4 hki' h6;omega
  ·simp only[if_neg hki] at h5;by_cases hki':k'=i
   ·simp only[if_neg hki,if_pos hki'] at h7;have:=lt k g1 ty1 z1 h1 h3 hki h5;omega
   ·simp only[if_neg hki'] at h6;simp only[if_neg hki,if_neg hki'] at h7;exact h.2 k k' g1 g2 ty1 ty2 z1 z2 h1 h2 h3 h4 h5 h6 h7
theorem BoxOk.store {base n:Nat}{gs:List GOp}{svs:List SV}{L:Nat→Bool}{c:Cx}{own:List Res}{a:Act}{w w':World}{β:Nat→Nat}{i k0:Nat}{g gk:GOp}{sz d:Nat}{v:Operand}{ty0:TypeId}{z0:Value}{us0:Array Value}{sv0:SV}(hbox:boxChk n gs=true)(h:BoxOk base gs svs L c own a w β)
  (hg:gs[i]?=some g) (ho:g.op=.store sz (.tmp d) v) (hk:gs[k0]?=some gk) (hok:gk.op=.alloc ty0 z0) (hdk:gk.dst=some d) (hLk:L k0=true) (hsize:w'.heap.size=w.heap.size)
  (hw:∀ j,j≠β k0→w'.heap[j]?=w.heap[j]?) (hw0:w'.heap[β k0]?=some (.cells us0 ty0 (0,0))) (hus:us0.size=(cval z0).cells.length) (hsv:svs[i]?=some sv0) (hcr:CRel c us0 sv0.cells) :
  BoxOk base gs svs (fun j=>if j=i then true else L j) c own a w' β:=by
 have hka:∀ (k:Nat) g' ty z,gs[k]?=some g'→g'.op=.alloc ty z→k≠i:=fun k g' ty z hg' ho' e=>by
  subst e;rw[hg] at hg';cases hg';rw[ho] at ho';cases ho'
 obtain⟨_,_,d',k',gk',ty',z',hx,_,_,_,_,hone,_⟩:=boxChk_store hbox hg ho;cases hx;refine⟨fun k g' ty z dd hg' ho' hd' hL=>?_,fun k k' g1 g2 ty ty' z z' h1 h2 h3 h4 h5 h6=>?_⟩
 ·have hki:=hka k g' ty z hg' ho';simp only[if_neg hki] at hL;obtain⟨h1,h2,h3,h4,h5,us,h6,h7,h8,h9⟩:=h.1 k g' ty z dd hg' ho' hd' hL;by_cases hkk:k=k0
  ·subst hkk;rw[hk] at hg';cases hg';rw[hok] at ho';cases ho';rw[hdk] at hd';cases hd';refine⟨h1,h2,by omega,h4,h5,us0,hw0,hus,fun hs=>?_,fun j gj sz' v' sv hgj hoj hLj hsvj=>?_⟩
   ·have:=hs i g sz v hg ho;simp at this
   ·by_cases hji:j=i
    ·subst hji;rw[hsv] at hsvj;cases hsvj;exact hcr
    ·exact absurd hoj (hone j gj sz' v' hji hgj)
  ·have hdne:dd≠d:=fun e=>by
    subst e;obtain⟨_,_,_,d2,hd2,_,hun⟩:=boxChk_alloc hbox hk hok;rw[hdk] at hd2;cases hd2;exact hun k g' hkk hg' hd'
   have hsne:∀ (j:Nat) gj sz' v',gs[j]?=some gj→gj.op=.store sz' (.tmp dd) v'→j≠i:=fun j gj sz' v' hgj hoj e=>by
    subst e;rw[hg] at hgj;cases hgj;rw[ho] at hoj;cases hoj;exact hdne rfl
   have hbne:β k≠β k0:=fun e=>hkk (h.2 k k0 g' gk ty ty0 z z0 hg' hk ho' hok hL hLk e)
   refine⟨h1,h2,by omega,h4,h5,us,by rw[hw _ hbne];exact h6,h7,fun hs=>h8 fun j gj sz' v' hgj hoj=>?_,fun j gj sz' v' sv hgj hoj hLj hsvj=>h9 j gj sz' v' sv hgj hoj ?_ hsvj⟩
   ·have:=hs j gj sz' v' hgj hoj
    simpa only[if_neg (hsne j gj _ _ hgj hoj)] using this
   ·simpa only[if_neg (hsne j gj _ _ hgj hoj)] using hLj
 ·simp only[if_neg (hka k g1 ty z h1 h3)] at h5;simp only[if_neg (hka k' g2 ty' z' h2 h4)] at h6;exact h.2 k k' g1 g2 ty ty' z z' h1 h2 h3 h4 h5 h6
theorem boxN_some {gs:List GOp}{env0:List SV}{own0:List Res}{K:List SV→List Res→Prop}:∀ (l:List GOp){env:List SV}{own:List Res},boxN gs env0 own0 l env own K →
  ∀ (k:Nat) g ty z d,l[k]?=some g→g.op=.alloc ty z→g.dst=some d→∃ cs,boxS gs own0 env0 d (cval z).cells=some cs
 | [],env,own,_,k,g,ty,z,d,hg,_,_=>by simp at hg
 | g0::l,env,own,h,k,g,ty,z,d,hg,ho,hd=>by
  unfold boxN at h
  cases k with
  | zero =>
   simp at hg;subst hg;simp only[ho,hd] at h;split at h
   ·rename_i cs hcs;exact⟨cs,hcs⟩
   ·exact h.elim
  | succ k =>
   simp at hg;split at h
   ·split at h
    ·exact boxN_some l h k g ty z d hg ho hd
    ·exact h.elim
   ·exact boxN_some l h k g ty z d hg ho hd
theorem store_run {w:World}{t sz b:Nat}{ty:TypeId}{cur:Array Value}{y:Value}(hs:sizeB P t=some sz)(hb:w.heap[b]?=some (.cells cur ty (0,0)))(hl:y.cells.size=sz)(hsz:cur.size=sz)(h1:∀ v∈y.cells.toList,v.oneCell'=true) :
  (Instr.storeAt t (.pointer (some ⟨b,0,none⟩)) y).run P w=.ok () (w.setRow b y.cells):=by
 have:=run_storeCells_at P b 0 ty y.cells.toList 0 cur w hb (by simp;omega) h1;simp only[Nat.add_zero] at this;simp only[Instr.storeAt,Instr.sureAddr,qG,Sem.run_pure,qF,storeVar,run_sizeOf hs];rw[if_neg (by simp[hl]),this];congr 2;apply Array.toList_inj.1;simp;omega
end
end Go.SX
namespace Go.SX
open Go Go.RowKit
variable [Tabs]
section
variable {P:Program}
theorem compOp_alloc {op:Op}{ty:TypeId}{z:Value}(h:compOp P op=some (.alloc ty z)):op=.alloc ty∧zeroB P ty=some z:=by
 cases op with
 | alloc t =>
  simp only[compOp,Option.bind_eq_bind,qH] at h;obtain⟨z',hz,h⟩:=h;cases h;exact⟨rfl,hz⟩
 | _=>exfalso;revert h;simp only[compOp];intro h;(try unfold aggEq at h);(try unfold shOp at h);(try unfold pnOp at h);(repeat' split at h)<;>first | cases h | (simp[qH] at h<;>(first | (obtain⟨_,_,_,_,h⟩:=h;split at h<;>first | cases h | (unfold appzOp at h;(repeat' split at h)<;>cases h)) | simp_all))
theorem compOp_store {op:Op}{sz:Nat}{x v:Operand}(h:compOp P op=some (.store sz x v)):∃ t,op=.store t x v∧sizeB P t=some sz:=by
 cases op with
 | store t x' v' =>
  simp only[compOp,Option.bind_eq_bind,qH] at h;obtain⟨s,hs,h⟩:=h;cases h;exact⟨t,rfl,hs⟩
 | _=>exfalso;revert h;simp only[compOp];intro h;(try unfold aggEq at h);(try unfold shOp at h);(try unfold pnOp at h);(repeat' split at h)<;>first | cases h | (simp[qH] at h<;>(first | (obtain⟨_,_,_,_,h⟩:=h;split at h<;>first | cases h | (unfold appzOp at h;(repeat' split at h)<;>cases h)) | simp_all))
theorem blank_self {g:GOp}(h:g.isBox=false):g.blank=g:=by
 obtain⟨d,op,gd⟩:=g;cases op<;>first | rfl | (simp[GOp.isBox] at h)
theorem region_box {n0 id:Nat}{ops:Array Oper}{gs:List GOp}{own:List Res}{c0:Cx}{env:List SV}{a0:Act}{w0:World}{K:List SV→List Res→Prop}{Q:Exit→Act→World→Prop}(hm:P.follows .mixedOrders=true)
  (hcomp:compOps P ops ops.toList=some gs) (hchk:regChk ops gs=true) (hbox:boxChk env.length gs=true) (hE0:EnvOk c0 env a0) (hS0:Sat c0 own w0) (hn:n0≤c0.N) (hd0:a0.defers=[]) (h:runF P (gs.map GOp.blank) env own (fun env'=>boxN gs env' own gs env' own K))
  (hQ:∀ a' w',Nx n0 c0 own w0 K a' w'→Q .normal a' w'):(Code.region id ops true).wp P Q a0 w0:=by
 obtain⟨svs,fin,htr,hK⟩:=runF_trace (gs.map GOp.blank) h;obtain⟨hlen,hfinl,hfin,hat⟩:=Trace.at (gs.map GOp.blank) htr;have hbl:∀ (i:Nat) g',(gs.map GOp.blank)[i]?=some g'→∃ g,gs[i]?=some g∧g'=g.blank∧g'.dst=g.dst:=fun i g' hi=>by
  rw[qI,Option.map_eq_some_iff] at hi;obtain⟨g,h1,rfl⟩:=hi;exact⟨g,h1,rfl,blank_dst hbox h1⟩
 have hbl2:∀ (i:Nat) g,gs[i]?=some g→(gs.map GOp.blank)[i]?=some g.blank:=fun i g hi=>by rw[qI,hi];rfl
 obtain⟨hgl,hget⟩:=compOps_get ops ops.toList hcomp;have hgl:gs.length=ops.size:=by rw[hgl];simp
 have hc:∀ (k:Nat) o g,ops[k]?=some o→gs[k]?=some g→(∀ e∈o.after,Region.binds .any e=true→e.on<k) ∧
   ∀ (i:Nat) oi gi t,i≠k→ops[i]?=some oi→gs[i]?=some gi→gi.dst=some t→(t∈g.looks∨g.dst=some t)→(i<k→edge o i=true)∧(k<i→edge oi k=true):=by
  intro k o g ho hg;have hk:k<ops.size:=(qB.1 ho).1;have h1:=qL.1 hchk k (by simpa using hk);simp only[ho,hg,qJ] at h1;obtain⟨h1,h2⟩:=h1;refine⟨fun e he hb=>?_,fun i oi gi t hne hoi hgi hdi ht=>?_⟩
  ·have:=(Array.all_eq_true'.1 h1) e he;simp[hb] at this;exact this
  ·have hi:i<ops.size:=(qB.1 hoi).1;have h3:=qL.1 h2 i (by simpa using hi);have hne':(i == k)=false:=by simpa using hne
   have hcond:(g.looks.contains t||g.dst == some t)=true:=by
    rcases ht with ht | ht
    ·simp[ht]
    ·simp[ht]
   simp only[hne',Bool.false_or,hoi,hgi,hdi,hcond,if_true] at h3;refine⟨fun hik=>by simpa [hik] using h3,fun hki=>?_⟩;rw[if_neg (by omega)] at h3;exact h3
 have hsto:∀ (j:Nat) g sz d v,gs[j]?=some g→g.op=.store sz (.tmp d) v→∃ sv,svs[j]?=some sv∧sv.flat=true∧sv.cells.length=sz∧sv.cells.all SV.one=true ∧
   (∀ (k:Nat) gk ty z,gs[k]?=some gk→gk.op=.alloc ty z→gk.dst=some d→sz=(cval z).cells.length)∧sv=evn own fin v:=by
  intro j g sz d v hgj hoj;obtain⟨_,_,d',k,gk,ty,z,hx,hkj,hgk,hdk,hok,hone,hv⟩:=boxChk_store hbox hgj hoj;cases hx;obtain⟨envj,sv,hsv,hjl,hstep,hej⟩:=hat j g.blank (hbl2 j g hgj);have hbk:g.blank=⟨none,.mv v,none⟩:=by simp only[GOp.blank,hoj]
  rw[hbk] at hstep;have hs1:evn own envj v=sv:=hstep;have hs2:evn own fin v=evn own envj v:=by
   rcases hv with ⟨t,rfl,hw⟩ | ⟨u,rfl⟩
   ·have:geti fin t=geti envj t:=by
     by_cases ht:t<env.length
     ·rw[hfin t ht,hej t ht];refine curF_congr (gs.map GOp.blank) svs 0 _ fun i g' hi hd'=>?_
      obtain⟨g2,hg2,_,hd2⟩:=hbl i g' hi;rw[hd2] at hd';have:¬ j≤i:=fun hji=>hw i g2 hji hg2 hd'
      rw[Nat.zero_add];simp;omega
     ·have hge:env.length≤t:=Nat.le_of_not_lt ht;have e1:fin[t]?=none:=qX (by rw[hfinl];exact hge);have e2:envj[t]?=none:=qX (by rw[hjl];exact hge);rw[geti_eq,geti_eq,e1,e2]
    simp only[evn,ev,this]
   ·rfl
  obtain⟨cs,hcs⟩:=boxN_some gs hK k gk ty z d hgk hok hdk;have hst:=storeTo_at hgj hoj hone;simp only[boxS,hst] at hcs;split at hcs
  ·rename_i hcond;simp only[qJ] at hcond;obtain⟨q1,q2,q3,q4⟩:=hcond;rw[hs2,hs1] at q1 q2 q4;refine⟨sv,hsv,q1,Nat.eq_of_beq_eq_true q2,q4,fun k' gk' ty' z' hgk' hok' hdk'=>?_,by rw[hs2,hs1]⟩;have hkk:k'=k:=by
    rcases Nat.decEq k' k with hne | he
    ·obtain⟨_,_,_,d2,hd2,_,hun⟩:=boxChk_alloc hbox hgk hok;rw[hdk] at hd2;cases hd2;exact absurd hdk' (hun k' gk' hne hgk')
    ·exact he
   subst hkk;rw[hgk] at hgk';cases hgk';rw[hok] at hok';cases hok';exact Nat.eq_of_beq_eq_true q3
  ·cases hcs
 refine wp_region_any hm ?_;have main:∀ (fuel:Nat)(listed:Array Bool)(a:Act)(w:World)(c:Cx),listed.size=ops.size→listed.toList.countP (! ·)≤fuel →
   (∀ (i:Nat) o,listed.getD i false=true→ops[i]?=some o→∀ e∈o.after,Region.binds .any e=true→listed.getD e.on false=true) →
   Sat c own w→c0.le c→Goes c0 own w0 c own w→a.defers=[]→a.tmps.size=env.length→(∀ (t:Nat) u,a.tmps[t]?=some u→Rel c (curF (gs.map GOp.blank) svs 0 (fun i=>listed.getD i false) t (geti env t)) u)→(∃ β,BoxOk w0.heap.size gs svs (fun i=>listed.getD i false) c own a w β) →
   wpAny P .any ops Q fuel listed a w:=by
  have done:∀ (listed:Array Bool)(a:Act)(w:World)(c:Cx),listed.size=ops.size→(∀ i,i<ops.size→listed.getD i false=true)→Sat c own w→c0.le c→Goes c0 own w0 c own w→a.defers=[]→a.tmps.size=env.length →
    (∀ (t:Nat) u,a.tmps[t]?=some u→Rel c (curF (gs.map GOp.blank) svs 0 (fun i=>listed.getD i false) t (geti env t)) u)→(∃ β,BoxOk w0.heap.size gs svs (fun i=>listed.getD i false) c own a w β)→Q .normal a w:=by
   intro listed a w c hsz hall hS hle hg hd hts hrel hβ;obtain⟨β,hβ,hinj⟩:=hβ;have hallg:∀ (k:Nat) g,gs[k]?=some g→listed.getD k false=true:=fun k g hg=>hall k (by
    have:=(qC.1 hg).1;omega)
   have hE:EnvOk c fin a:=⟨by rw[hts,hfinl],fun t s u hs hu=>by
    have ht:t<env.length:=by rw[← hts];exact(qB.1 hu).1
    have e1:geti fin t=s:=by rw[geti_eq,hs];rfl
    rw[← e1,hfin t ht];have:=hrel t u hu
    rwa [curF_congr (L':=fun _=>true) (gs.map GOp.blank) svs 0 _ (fun i g hi _=>by
     obtain⟨g',hg',_⟩:=hbl i g hi;exact hallg _ g' (by rw[Nat.zero_add];exact hg'))] at this⟩
   obtain⟨c',env',own',k1,k2,k3,k4,k5,k6⟩:=box_end (base:=w0.heap.size) hbox (a:=a) (w:=w) (β:=β) (K:=K)
    (fun k k' g g' ty ty' z z' h1 h2 h3 h4 h5=>hinj k k' g g' ty ty' z z' h1 h2 h3 h4 (hallg k g h1) (hallg k' g' h2) h5) gs 0 (fun i=>by rw[Nat.zero_add]) hS hE
    (fun k g ty z d _ hg ho hd'=>by
     obtain⟨h1,h2,_,h4,h5,us,h6,h7,h8,h9⟩:=hβ k g ty z d hg ho hd' (hallg k g hg);refine⟨h1,h2,h4,h5,us,h6,fun cs hcs=>?_⟩;unfold boxS at hcs;split at hcs
     ·rename_i hno;cases hcs;exact h8 fun j gj sz v hgj hoj=>absurd hoj (storeTo_none hno j gj sz v hgj)
     ·rename_i sz v hst;split at hcs
      ·cases hcs;obtain⟨j,gj,hgj,hoj⟩:=storeTo_mem hst;obtain⟨sv,hsv,_,_,_,_,hfs⟩:=hsto j gj sz d v hgj hoj;rw[← hfs];exact h9 j gj sz v sv hgj hoj (hallg j gj hgj) hsv
      ·cases hcs) hK
   refine hQ a w ⟨hd,c',env',own',k2,k1,fun r hr=>(k3.t r (by have:=hle.n;omega)).trans (hle.t r (by omega)),Nat.le_trans hn (Nat.le_trans hle.n k3.n),⟨hg.os,hg.tape,hg.output,hg.size,hg.keep,fun b hb=>by rw[k4] at hb;exact hg.newF b hb,fun b hb=>?_,fun b o hb=>k3.f b o (hg.f b o hb)⟩,k6⟩;rcases k5 b hb with hb | hb
   ·exact hg.newO b hb
   ·exact .inr hb
  have lst:∀ (listed:Array Bool),listed.size=ops.size→Region.ready .any ops listed=[]→∀ i,i<ops.size→listed.getD i false=true:=by
   intro listed hsz hr i
   induction i using Nat.strongRecOn with
   | _ i ih =>
    intro hi;have ho:ops[i]?=some ops[i]:=by simp[hi]
    obtain⟨g,hg,_⟩:=hget i ops[i] (by simp[hi]);by_cases hl:listed.getD i false=true
    ·exact hl
    ·exfalso
     have hm2:i∈Region.ready .any ops listed:=by
      refine mem_ready.2 ⟨?_,ops[i],ho,fun e he hb=>?_⟩
      ·have hil:i<listed.size:=by omega
       simp[hil] at hl ⊢;exact hl
      ·have h1:=(hc i _ g ho hg).1 e he hb;exact ih e.on h1 (by omega)
     rw[hr] at hm2;cases hm2
  intro fuel
  induction fuel with
  | zero =>
   intro listed a w c hsz hcnt hdown hS hle hg hd hts hrel hβ;have hall:∀ i,i<ops.size→listed.getD i false=true:=fun i hi=>by
    have hil:i<listed.size:=by omega
    by_cases hl:listed[i]=true
    ·simp[hil,hl]
    ·exfalso
     have hf:listed[i]=false:=by simpa using hl
     have:=count_set listed.toList i (by simp[hil,hf]);omega
   refine⟨?_,done listed a w c hsz hall hS hle hg hd hts hrel hβ⟩
   cases hr:Region.ready .any ops listed with
   | nil=>rfl
   | cons i r =>
    have:i∈Region.ready .any ops listed:=by rw[hr];simp
    obtain⟨h1,o,ho,_⟩:=mem_ready.1 this;have hi:i<ops.size:=(qB.1 ho).1;have h2:=hall i hi;have hil:i<listed.size:=by omega
    simp[hil] at h1 h2;rw[h1] at h2;cases h2
  | succ fuel ih =>
   intro listed a w c hsz hcnt hdown hS hle hg hd hts hrel hβ;refine⟨fun hr=>done listed a w c hsz (lst listed hsz hr) hS hle hg hd hts hrel hβ,fun i hi=>?_⟩;obtain⟨hun,o,ho,hpre⟩:=mem_ready.1 hi;have hi':i<ops.size:=(qB.1 ho).1;have hil:i<listed.size:=by omega
   have hunl:listed[i]?=some false:=by simp[hil] at hun;simp[hil,hun]
   have hunf:listed.getD i false=false:=by simp[hil] at hun;simp[hil,hun]
   obtain⟨g,hgi,hcg⟩:=hget i o (by simpa using ho);obtain⟨envk,sv,hsv,hkl,hstep,hek⟩:=hat i g.blank (hbl2 i g hgi);obtain⟨β,hβ⟩:=hβ;have hbd:=blank_dst hbox hgi;obtain⟨_,hord⟩:=hc i o g ho hgi;have hlook:∀ t,t∈g.looks∨g.dst=some t→∀ j gj',(gs.map GOp.blank)[j]?=some gj'→gj'.dst=some t→listed.getD j false=decide (j<i):=by
    intro t ht j gj' hj hdj;obtain⟨gj,hj,_,hdj'⟩:=hbl j gj' hj;rw[hdj'] at hdj;by_cases hji:j=i
    ·subst hji;rw[hunf];simp
    ·have hjs:j<ops.size:=by have:=(qC.1 hj).1;omega
     have hoj:ops[j]?=some ops[j]:=by simp[hjs]
     obtain⟨h1,h2⟩:=hord j ops[j] gj t hji hoj hj hdj ht;rcases Nat.lt_or_gt_of_ne hji with hlt | hgt
     ·obtain⟨e,he,hb,heq⟩:=edge_mem (h1 hlt);have:=hpre e he hb;rw[heq] at this;rw[this];simp[hlt]
     ·by_cases hl:listed.getD j false=true
      ·exfalso
       obtain⟨e,he,hb,heq⟩:=edge_mem (h2 hgt);have:=hdown j ops[j] hl hoj e he hb;rw[heq,hunf] at this;cases this
      ·have:listed.getD j false=false:=by simpa using hl
       rw[this];simp;omega
   have hslot:∀ t u,t∈g.looks→a.tmps[t]?=some u→Rel c (geti envk t) u:=by
    intro t u ht hu;have htl:t<env.length:=by rw[← hts];exact(qB.1 hu).1
    rw[hek t htl];have:=hrel t u hu
    rwa [curF_congr (L':=fun j=>decide (j<i)) (gs.map GOp.blank) svs 0 _ (fun j gj hj hdj=>by rw[Nat.zero_add];exact hlook t (.inl ht) j gj hj hdj)] at this
   let envR:=(List.range env.length).map fun t=>if t∈g.looks then geti envk t else .top
   have hRlen:envR.length=env.length:=by simp[envR]
   have hRget:∀ t,t∈g.looks→geti envR t=geti envk t:=fun t ht=>by
    rw[geti_eq,geti_eq];by_cases htl:t<env.length
    ·have:envR[t]?=some (geti envk t):=by simp[envR,htl,ht]
     rw[this,geti_eq];rfl
    ·have h1:envR[t]?=none:=by rw[List.getElem?_eq_none_iff];omega
     have h2:envk[t]?=none:=by rw[List.getElem?_eq_none_iff];omega
     rw[h1,h2]
   have hER:EnvOk c envR a:=⟨by rw[hts,hRlen],fun t s u hs hu=>by
    have htl:t<env.length:=by rw[← hts];exact(qB.1 hu).1
    simp only[envR,qI,List.getElem?_range htl,qS,qZ] at hs;subst hs;split
    ·rename_i ht;exact hslot t u ht hu
    ·exact .top u⟩
   have hagree:∀ x∈g.op.ops,evn own envk x=evn own envR x:=fun x hx=>by
    cases x with
    | tmp t =>
     have:t∈g.looks:=by simp only[GOp.looks,qT];exact .inl (mem_tmpsOf.2 hx)
     simp only[evn,ev,hRget t this]
    | _=>rfl
   have hcount:(listed.setIfInBounds i true).toList.countP (! ·)≤fuel:=by
    have:=count_set listed.toList i (by simpa using hunl);rw[Array.toList_setIfInBounds];omega
   have hLset:∀ j,(listed.setIfInBounds i true).getD j false=if j=i then true else listed.getD j false:=fun j=>by
    by_cases hji:j=i
    ·subst hji;simp[hil]
    ·by_cases hjl:j<listed.size
     ·simp[hjl,hji,Ne.symm hji]
     ·simp[hjl,hji]
   have hdown':∀ (j:Nat) o',(listed.setIfInBounds i true).getD j false=true→ops[j]?=some o'→∀ e∈o'.after,Region.binds .any e=true→(listed.setIfInBounds i true).getD e.on false=true:=by
    intro j o' hj hoj e he hb;rw[hLset] at hj ⊢;split
    ·rfl
    ·split at hj
     ·rename_i hji;subst hji;rw[ho] at hoj;cases hoj;exact hpre e he hb
     ·exact hdown j o' hj hoj e he hb
   have hfun:(fun j=>(listed.setIfInBounds i true).getD j false)=fun j=>if j=i then true else listed.getD j false:=funext hLset
   have hnext:∀ (a':Act)(w':World)(c':Cx)(u:Value),a'=a.put g.dst u→Rel c' sv u∨g.dst=none→Sat c' own w'→c.le c'→Goes c0 own w0 c' own w'→(∃ β,BoxOk w0.heap.size gs svs (fun j=>if j=i then true else listed.getD j false) c' own a' w' β)→wpAny P .any ops Q fuel (listed.setIfInBounds i true) a' w':=by
    intro a' w' c' u ha hr hS' hle' hg' hβ';subst ha;refine ih _ _ w' c' (by simp[hsz]) hcount hdown' hS' (hle.trans hle') hg' (by rw[put_defers];exact hd) (by cases g.dst<;>simp[Act.put,hts]) ?_ (by rw[hfun];exact hβ');intro t v hv;rw[hfun];by_cases hdt:g.dst=some t
    ·
     have hvu:v=u:=by
      rw[hdt] at hv;simp only[Act.put,Array.getElem?_setIfInBounds,if_true] at hv;split at hv
      ·cases hv;rfl
      ·cases hv
     subst hvu;rw[curF_last (gs.map GOp.blank) svs 0 _ i g.blank sv (hbl2 i g hgi) hsv (hbd.trans hdt) (by simp) (fun j gj hij hj hdj=>by
      rw[Nat.zero_add,if_neg (by omega),hlook t (.inr hdt) j gj hj hdj];simp;omega)]
     rcases hr with hr | hr
     ·exact hr
     ·rw[hdt] at hr;cases hr
    ·have hv':a.tmps[t]?=some v:=by rwa [put_tmps hdt] at hv
     rw[curF_congr (L':=fun j=>listed.getD j false) (gs.map GOp.blank) svs 0 _ (fun j gj hj hdj=>by
      rw[Nat.zero_add,if_neg (fun e=>by subst e;rw[hbl2 j g hgi] at hj;cases hj;exact hdt (hbd.symm.trans hdj))])]
     exact(hrel t v hv').mono hle'
   unfold wpOp;rw[ho];show if Region.wanted o (yielded ops a.tmps)=true then _ else _
   by_cases hib:g.isBox=true
   ·
    have hgn:g.guard=none:=by
     unfold GOp.isBox at hib;split at hib
     ·rename_i ty z hop;exact(boxChk_alloc hbox hgi hop).1
     ·rename_i sz x v hop;exact(boxChk_store hbox hgi hop).1
     ·cases hib
    obtain⟨hco,hdst,hcase⟩:=guard_sound hcg hER (A:=fun _=>True) (B:=fun _=>False) (by unfold GuardN;rw[hgn];trivial);have hw:Region.wanted o (yielded ops a.tmps)=true:=by
     rcases hcase with ⟨hw,_⟩ | ⟨_,_,_,hB⟩
     ·exact hw
     ·exact hB.elim
    rw[if_pos hw];refine .inl ?_;unfold GOp.isBox at hib;split at hib
    ·
     rename_i ty z hop;obtain⟨_,hfl,hone,d,hdd,hdn,hun⟩:=boxChk_alloc hbox hgi hop;rw[hop] at hco;obtain⟨hoo,hz⟩:=compOp_alloc hco
     ·refine wp_sem (s:=Instr.alloc ty true (.tuple #[])) (u:=.pointer (some ⟨w.heap.size,0,none⟩)) (w':=w.alloc (.cells z.cells ty)) (by simp only[execOp,hoo]) ?_ ?_
      ·simp only[Instr.alloc,qG,run_zeroB hz,qF,newVar,newRow,run_newObj,Sem.run_pure,World.alloc_eq]
      ·have hsvt:sv=.top:=by
        have hbk:g.blank=⟨g.dst,.mv (.global 0),none⟩:=by simp only[GOp.blank,hop]
        rw[hbk] at hstep;exact(show evn own envk (.global 0)=sv from hstep).symm
       refine hnext _ _ c (.pointer (some ⟨w.heap.size,0,none⟩)) (by rw[hdst]) (.inl (by rw[hsvt];exact .top _)) ?_ (.refl c) (hg.trans ⟨rfl,rfl,rfl,by simp,fun b hb _=>Below.heap_alloc w _ b hb,fun _ hb=>.inl hb,fun _ hb=>.inl hb,fun _ _ hb=>hb⟩) ?_
       ·exact hS.on (.refl c) rfl hS.one (fun b hb=>Below.heap_alloc w _ b hb) (fun b x hb=>by rw[Below.heap_alloc w _ b (hS.F_lt hb)];exact hS.le b x hb) (fun b hb=>.inl hb)
       ·rw[hdst,hdd];refine⟨_,hβ.alloc hbox hS hgi hop hdd (by rw[hts];exact hdn) hg.size hunf fun j gj sz v hgj hoj=>?_⟩;by_cases hl:listed.getD j false=true
        ·exfalso
         have hjs:j<ops.size:=by have:=(qC.1 hgj).1;omega
         have hoj':ops[j]?=some ops[j]:=by simp[hjs]
         obtain⟨_,hord2⟩:=hc j ops[j] gj hoj' hgj;have hij:i≠j:=fun e=>by subst e;rw[hgi] at hgj;cases hgj;rw[hop] at hoj;cases hoj
         have hlk:d∈gj.looks:=by simp only[GOp.looks,qT,hoj,DOp.ops];exact .inl (mem_tmpsOf.2 (by simp))
         obtain⟨e1,e2⟩:=hord2 i o g d hij ho hgi hdd (.inl hlk);rcases Nat.lt_or_gt_of_ne hij with hlt | hgt
         ·obtain⟨e,he,hb,heq⟩:=edge_mem (e1 hlt);have:=hdown j ops[j] hl hoj' e he hb;rw[heq,hunf] at this;cases this
         ·obtain⟨_,_,d',k,gk,ty',z',hx,hkj,hgk,hdk,_⟩:=boxChk_store hbox hgj hoj;cases hx;exact hun k gk (by omega) hgk hdk
        ·simpa using hl
    ·
     rename_i sz x v hop;obtain⟨_,hdn,d,k,gk,ty,z,rfl,hki,hgk,hdk,hok,hone,hv⟩:=boxChk_store hbox hgi hop;obtain⟨sv',hsv',hfl,hlen,hall1,hzl,hfs⟩:=hsto i g sz d v hgi hop;rw[hsv] at hsv';cases hsv';have hks:k<ops.size:=by have:=(qC.1 hgk).1;omega
     have hok':ops[k]?=some ops[k]:=by simp[hks]
     have hlk:d∈g.looks:=by simp only[GOp.looks,qT,hop,DOp.ops];exact .inl (mem_tmpsOf.2 (by simp))
     have hLk:listed.getD k false=true:=by
      obtain⟨e1,_⟩:=hord k ops[k] gk d (by omega) hok' hgk hdk (.inl hlk);obtain⟨e,he,hb,heq⟩:=edge_mem (e1 hki);have:=hpre e he hb
      rwa [heq] at this
     obtain⟨h1,h2,h3,h4,h5,us,h6,h7,_,_⟩:=hβ.1 k gk ty z d hgk hok hdk hLk;have hsvr:evn own envR v=sv:=by
      have hbk:g.blank=⟨none,.mv v,none⟩:=by simp only[GOp.blank,hop]
      rw[hbk] at hstep;have:=(show evn own envk v=sv from hstep);rw[← hagree v (by rw[hop];simp[DOp.ops])];exact this
     have hrv:Rel c sv (a.eval v):=by rw[← hsvr];exact nrm_rel hS (ev_rel hER v)
     have hcr:CRel c (a.eval v).cells sv.cells:=.of hS hrv hfl hall1;rw[hop] at hco;obtain⟨t,hoo,hs⟩:=compOp_store hco
     ·have hone':∀ y∈(a.eval v).cells.toList,y.oneCell'=true:=all_one hS (cells_rel hS.one hrv hfl) hall1;have hzl':=hzl k gk ty z hgk hok hdk;have hrun:=store_run (P:=P) (w:=w) (b:=β k) (ty:=ty) (cur:=us) (y:=a.eval v) hs h6 (by rw[hcr.1,hlen]) (by rw[h7,hzl']) hone';have hea:a.eval (.tmp d)=.pointer (some ⟨β k,0,none⟩):=by
       show a.tmps.getD d undef=_;rw[Array.getD_eq_getD_getElem?,h1];rfl
      refine wp_skp (w':=w.setRow (β k) (a.eval v).cells) ?_ ?_
      ·simp only[execOp,hoo,qG,hea,hrun,qF,Sem.run_pure]
      ·have hoth:∀ j,j≠β k→(w.setRow (β k) (a.eval v).cells).heap[j]?=w.heap[j]?:=fun j hj=>setRow_other w (β k) j _ hj
       refine hnext _ _ c undef (by rw[hdst]) (.inr hdn) (hS.touch hoth h4 h5) (.refl c) ⟨hg.os,hg.tape,hg.output,by simpa using hg.size,fun b hb hnO=>?_,hg.newF,hg.newO,hg.f⟩ ?_
       ·rw[hoth b (by omega)];exact hg.keep b hb hnO
       ·rw[hdst,hdn];exact⟨β,hβ.store hbox hgi hop hgk hok hdk hLk (by simp) hoth (setRow_heap w (β k) us _ ty _ h6) (by rw[hcr.1,hlen,hzl']) hsv hcr⟩
    ·cases hib
   ·have hib:g.isBox=false:=by simpa using hib
    have hbe:g.blank=g:=blank_self hib;rw[hbe] at hstep;have hgd:GuardN g.guard envR (fun _=>fnN P g.op envR own (·=sv)) (fun _=>sv=.tup []):=by
     unfold StepY at hstep;unfold GuardN at hstep ⊢;split
     ·rename_i hgn;simp only[hgn] at hstep;exact(fnN_agree hagree).1 hstep
     ·rename_i s want hgs;simp only[hgs] at hstep;have hs:s∈g.looks:=by simp only[GOp.looks,qT,hgs];exact .inr (by simp)
      rw[hRget s hs];split at hstep
      ·rename_i b hb;simp only[];exact⟨fun e=>(fnN_agree hagree).1 (hstep.1 e),hstep.2⟩
      ·rename_i hb;simp only[];exact hstep
      ·exact hstep.elim
    obtain⟨hco,hdst,hcase⟩:=guard_sound hcg hER hgd;rcases hcase with ⟨hw,_,_,hA⟩ | ⟨hw,_,_,hB⟩
    ·rw[if_pos hw];refine .inl (Oper.wp_mono (fun a' w' hfin=>?_) (fn_wp hco hER hS hA));obtain⟨c',sv',own',u,ha,k1,k2,k3,k4,rfl,rfl⟩:=hfin;rw[hdst] at ha;subst ha;exact hnext _ w' c' u rfl (.inl k1) k2 k3 (hg.trans k4) ⟨β,hβ.pure hbox hgi hib k3 k4⟩
    ·rw[if_neg (by rw[hw];simp)];subst hB;rw[hdst];exact hnext _ w c undef rfl (.inl (.tup rfl (fun i s u hs=>by simp at hs))) hS (.refl c) hg ⟨β,hβ.pure hbox hgi hib (.refl c) (.refl c own w)⟩
 have hrep:∀ j,(Array.replicate ops.size false).getD j false=false:=fun j=>by
  rw[Array.getD_eq_getD_getElem?,Array.getElem?_replicate];split<;>rfl
 refine main ops.size (Array.replicate ops.size false) a0 { w0 with drawn:=w0.drawn+1 } c0 (by simp) ?_ ?_ (hS0.drew rfl) (.refl c0) (.drew rfl rfl rfl rfl) hd0 hE0.size ?_ ⟨fun _=>0,fun k g ty z d _ _ _ hL=>?_,fun k k' g g' ty ty' z z' _ _ _ _ hL=>?_⟩
 ·simp[Array.toList_replicate,List.countP_replicate]
 ·intro i o hl _;rw[hrep] at hl;cases hl
 ·intro t u hu;have htl:t<env.length:=by rw[← hE0.size];exact(qB.1 hu).1
  rw[curF_none _ _ _ _ (fun i g _ _=>hrep _)];exact hE0.rel t _ u (by rw[geti_eq];simp[htl]) hu
 ·simp only[hrep] at hL;cases hL
 ·simp only[hrep] at hL;cases hL
end
end Go.SX
