/- Parts of the proof. -/
import Derived.Test.YtlpempbeenpilaaGreatDoorZSyS
import Derived.ProofKit
import Derived.Deep.Slices
import Derived.Deep.Grids
import Derived.OpenShut
set_option linter.unusedSimpArgs false
set_option linter.unusedVariables false
set_option linter.unusedSectionVars false
namespace Go.SX
open Go Go.ChangeShapes Go.WideShapes Go.RowKit
variable [Tabs]
def memF (w:World):Fz:=fun b=>w.heap[b]?
def cx0 (w:World):Cx:={ θ:=fun _=>.bool false,F:=memF w,N:=0 }
theorem sat0 {w:World}(ht:Tabs.ok (memF w)):Sat (cx0 w) [] w :=
 ⟨rfl,fun r x hx=>by simp at hx,fun r s x y b hx=>by simp at hx,fun r x b hx=>by simp at hx,fun b o h=>h,fun _=>rfl,ht⟩
def Reads (w:World)(cs:List Value)(off:Nat)(ds:List D):Prop:=∀ (j:Nat) d,ds[j]?=some d→∃ u,cs[off+j]?=some u∧Rep (memF w) u d
theorem Reads.append {w:World}{cs:List Value}{off:Nat}{a b:List D}(ha:Reads w cs off a)(hb:Reads w cs (off+a.length) b):Reads w cs off (a++b):=by
 intro j d hj;by_cases h:j<a.length
 ·rw[qM h] at hj;exact ha j d hj
 ·rw[qN (by omega)] at hj;obtain⟨u,h1,h2⟩:=hb _ d hj;exact⟨u,by rw[← h1];congr 1;omega,h2⟩
theorem Reads.part {w:World}{cs:List Value}{off n:Nat}{ds:List D}(h:Reads w ((cs.drop off).take n) 0 ds):Reads w cs off ds:=by
 intro j d hj;obtain⟨u,h1,h2⟩:=h j d hj;rw[Nat.zero_add,List.getElem?_take] at h1;split at h1
 ·rw[List.getElem?_drop] at h1;exact⟨u,h1,h2⟩
 ·cases h1
theorem Reads.nil {w:World}{cs:List Value}{off:Nat}:Reads w cs off []:=fun j d h=>by simp at h
structure Opens {α:Type}(P:Program)(t:TypeId)(n:Nat)(e:α→List D)(Ok:α→Prop):Prop where
 len:∀ y,(e y).length=n
 op:∀ {H:Type}{enc:TypeId×Value→H}{w:World}{fuel:Nat}{cs:List Value}{x:DataW H×List MemPlace},DataW.trod enc P w 0 (fun _=>true) true fuel t cs=some x→∃ y,Ok y∧Reads w cs 0 (e y)
variable {P:Program}
def InK (k:IntKind)(x:Int):Prop:=(Lit.int k x).wf=true
theorem Opens.int {t:TypeId}{k:IntKind}(h:P.underlying t=some (.int k)):Opens P t 1 (fun x:Int=>[.val (.int k x)]) (InK k) :=
 ⟨fun _=>rfl,fun hx=>by
  obtain⟨n,rfl,_,hw⟩:=DataW.trod_int h hx;exact⟨n,hw,fun j d hj=>by
   cases j with
   | zero=>simp at hj;subst hj;exact⟨_,rfl,.val _ rfl⟩
   | succ j=>simp at hj⟩⟩
theorem Opens.bool {t:TypeId}(h:P.underlying t=some .bool):Opens P t 1 (fun x:Bool=>[.val (.bool x)]) (fun _=>True) :=
 ⟨fun _=>rfl,fun hx=>by
  obtain⟨n,rfl,_⟩:=DataW.trod_bool h hx;exact⟨n,trivial,fun j d hj=>by
   cases j with
   | zero=>simp at hj;subst hj;exact⟨_,rfl,.val _ rfl⟩
   | succ j=>simp at hj⟩⟩
theorem Opens.str {t:TypeId}(h:P.underlying t=some .string):Opens P t 1 (fun x:ByteArray=>[.val (.string x)]) (fun x=>x.size≤maxLen) :=
 ⟨fun _=>rfl,fun hx=>by
  obtain⟨n,rfl,_,hs⟩:=DataW.trod_string h hx;exact⟨n,hs,fun j d hj=>by
   cases j with
   | zero=>simp at hj;subst hj;exact⟨_,rfl,.val _ rfl⟩
   | succ j=>simp at hj⟩⟩
theorem rep_of {w:World}{a:Addr}{len cap sz:Nat}{z:Nat→Nat→Value}{es:List (List D)}(hlen:es.length=len)(hcap:len≤cap)(hsz:∀ (i:Nat) ds,es[i]?=some ds→ds.length=sz)
  (hpos:0<sz) (hc:∀ i j,i<len→j<sz→w.cell? (a.add (i * sz+j))=some (z i j)) (hz:∀ (i j:Nat) ds d,es[i]?=some ds→ds[j]?=some d→Rep (memF w) (z i j) d):Rep (memF w) (.slice (some a) len cap) (.sl es):=by
 by_cases h0:len=0
 ·subst h0;have:es=[]:=List.eq_nil_of_length_eq_zero hlen;subst this;exact .nil _ _ (fun h=>by cases h)
 ·obtain⟨b,off,sp⟩:=a;have h1:=hc 0 0 (by omega) hpos;have hsp:sp=none:=by
   unfold World.cell? at h1;have e:(⟨b,off,sp⟩:Addr).add (0 * sz+0)=⟨b,off,sp⟩:=by simp[Addr.add]
   rw[e] at h1;split at h1
   ·cases sp with
    | none=>rfl
    | some x=>simp at h1
   ·cases h1
  subst hsp;obtain⟨c,e,fr,hb⟩:∃ c e fr,w.heap[b]?=some (.cells c e fr):=by
   rw[add_none] at h1;unfold World.cell? at h1;split at h1
   ·rename_i c e fr hb;exact⟨c,e,fr,hb⟩
   ·cases h1
  subst hlen;refine .sl b off cap c e fr es sz z hb hcap hsz (fun i ds j d hi hj=>?_) (fun i ds j d hi hj=>hz i j ds d hi hj);have hil:=(qC.1 hi).1;have hjl:j<sz:=by rw[← hsz i ds hi];exact(qC.1 hj).1
  have:=hc i j hil hjl;rw[add_none] at this;simp only[World.cell?,hb,Option.isSome_none,Bool.false_eq_true,if_false] at this;rw[← this];congr 1;omega
theorem Opens.sliceL {α:Type}[Inhabited α]{ts t:TypeId}{n:Nat}{e:α→List D}{Ok:α→Prop}(h:P.underlying ts=some (.slice t))(hn:P.cellsOf t=n)(hpos:0<n)(o:Opens P t n e Ok) :
  Opens P ts 1 (fun l:List α=>[.sl (W e l)]) (fun l=>l.length≤maxLen∧∀ x∈l,Ok x) :=
 ⟨fun _=>rfl,fun {H enc w fuel cs x} hx=>by
  have one:∀ (v:Value)(l:List α),cs=[v]→Rep (memF w) v (.sl (W e l))→Reads w cs 0 [.sl (W e l)]:=fun v l hcs hr j d hj=>by
   subst hcs
   cases j with
   | zero=>simp at hj;subst hj;exact⟨v,rfl,hr⟩
   | succ j=>simp at hj
  rcases Deep.open_slice h hx with ⟨hcs,_⟩ | ⟨a,len,cap,m,k,Dd,Pl,hcs,_,hl,hm,hmm,_,hcell⟩
  ·exact⟨[],⟨Nat.zero_le _,fun x hx=>by simp at hx⟩,one _ [] hcs (by rw[W_nil];exact .nil _ _ (fun _=>rfl))⟩
  ·simp only[if_true] at hmm;rw[hn] at hcell;have hb:∀ i,i<len→∃ p:α×(Nat→Value),Ok p.1∧(∀ j,j<n→w.cell? (a.add (i * n+j))=some (p.2 j))∧∀ (j:Nat) d,(e p.1)[j]?=some d→Rep (memF w) (p.2 j) d:=fun i hi=>by
    obtain⟨cs',h1,h2⟩:=hcell i (by omega);obtain⟨_,hlen,hcl⟩:=World.cells?_some h1;obtain⟨y,hy,hr⟩:=o.op h2;refine⟨(y,fun j=>cs'.getD j (.bool false)),hy,fun j hj=>?_,fun j d hj=>?_⟩
    ·have:=hcl j hj;rw[Deep.add_add] at this;show w.cell? _=some (cs'.getD j (.bool false));rw[this,qY,qK (by omega)];rfl
    ·obtain⟨u,h3,h4⟩:=hr j d hj;rw[Nat.zero_add] at h3;simp only[qY,h3,Option.getD_some];exact h4
   obtain⟨z,hz⟩:=Deep.choose_lt hb;refine⟨(List.range len).map fun i=>(z i).1,⟨by rw[qO,List.length_range];omega,fun x hx=>?_⟩,one _ _ hcs ?_⟩
   ·obtain⟨i,hi,rfl⟩:=List.mem_map.1 hx;exact(hz i (List.mem_range.1 hi)).1
   ·rw[W_eq];refine rep_of (sz:=n) (z:=fun i j=>(z i).2 j) (by simp) hl (fun i ds hi=>?_) hpos (fun i j hi hj=>(hz i hi).2.1 j hj) (fun i j ds d hi hj=>?_)
    ·rw[qI,Option.map_eq_some_iff] at hi;obtain⟨y,_,rfl⟩:=hi;exact o.len y
    ·rw[qI,Option.map_eq_some_iff] at hi;obtain⟨y,hy,rfl⟩:=hi;rw[qI,Option.map_eq_some_iff] at hy;obtain⟨k',hk,rfl⟩:=hy;have hk':=qC.1 hk;have:k'=i:=by simpa using hk'.2.symm
     subst this;exact(hz k' (by simpa using hk'.1)).2.2 j d hj⟩
theorem Opens.slice {α:Type}[Inhabited α]{ts t:TypeId}{n:Nat}{e:α→List D}{Ok:α→Prop}(h:P.underlying ts=some (.slice t))(hn:P.cellsOf t=n)(hpos:0<n)(o:Opens P t n e Ok) :
  Opens P ts 1 (fun l:List α=>[.sl (W e l)]) (fun l=>∀ x∈l,Ok x) :=
 ⟨fun _=>rfl,fun hx=>by
  obtain⟨y,hy,hr⟩:=(Opens.sliceL h hn hpos o).op hx;exact⟨y,hy.2,hr⟩⟩
theorem field_open {H:Type}{enc:TypeId×Value→H}{w:World}{fuel:Nat}{t:TypeId}{cs:List Value}{x:DataW H×List MemPlace}{fs:Array Field}(ht:P.underlying t=some (.struct fs))
  (hx:DataW.trod enc P w 0 (fun _=>true) true fuel t cs=some x) {α:Type} {n:Nat} {e:α→List D} {Ok:α→Prop} (i:Nat) (f:Field) (hf:fs[i]?=some f) (o:Opens P f.type n e Ok):∃ y,Ok y∧Reads w cs f.offset (e y):=by
 obtain⟨xs,k,_,_,_,hl,h⟩:=DataW.trod_struct ht hx;have hi:i<xs.length:=by rw[hl];exact(qB.1 hf).1
 have:=h i f hf;rw[qK hi] at this;obtain⟨y,hy,hr⟩:=o.op this;exact⟨y,hy,hr.part⟩
theorem rel_cell {w:World}{v:Value}{d:D}(h:Reads w [v] 0 [d]):Rel (cx0 w) (.d d) v:=by
 obtain⟨u,h1,h2⟩:=h 0 d rfl;simp at h1;subst h1;exact .d h2
end Go.SX
