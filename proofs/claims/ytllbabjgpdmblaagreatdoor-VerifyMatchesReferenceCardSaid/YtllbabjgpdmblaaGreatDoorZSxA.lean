/- Parts of the proof. -/
import Derived.WalkKit
import Derived.DeepKeys
set_option linter.unusedSimpArgs false
set_option linter.unusedVariables false
set_option linter.unusedSectionVars false
namespace Go.SX
open Go
abbrev qA:=@List.getElem?_eq_some_iff
abbrev qB:=@Array.getElem?_eq_some_iff
abbrev qC:=@Option.bind_some
abbrev qD:=@List.getElem?_eq_getElem
abbrev qE:=@Result.andThen_ok
abbrev qF:=@List.getElem?_map
abbrev qG:=@Sem.run_bind
abbrev qH:=@Option.bind_eq_some_iff
abbrev qI:=@List.getD_eq_getElem?_getD
abbrev qJ:=@decide_eq_false
abbrev qK:=@Bool.and_eq_true
abbrev qL:=@List.mem_of_getElem?
abbrev qM:=@decide_eq_true
abbrev qN:=@List.length_append
abbrev qO:=@List.mem_append
abbrev qP:=@List.all_eq_true
abbrev qQ:=@List.getElem?_append_left
abbrev qR:=@Nat.le_refl
abbrev qS:=@List.getElem?_append_right
abbrev qT:=@List.getElem?_eq_none
abbrev qU:=@List.length_take
abbrev qV:=@List.foldl_cons
abbrev qW:=@List.take_add_one
abbrev qX:=@decide_eq_true_eq
abbrev qY:=@List.length_map
abbrev qZ:=@List.length_cons
abbrev zA:=@List.getElem_mem
abbrev zB:=@List.mem_cons_of_mem
abbrev zC:=@List.map_cons
abbrev zD:=@Option.toList_some
abbrev zE:=@List.mem_singleton
abbrev zF:=@List.length_singleton
abbrev zG:=@List.take_length
abbrev zH:=@Option.map_some
abbrev zI:=@Option.some.injEq
abbrev zJ:=@List.mem_map
abbrev zK:=@List.any_eq_true
abbrev zL:=@Nat.lt_of_lt_of_le
abbrev zM:=@heap_alloc_new
abbrev zN:=@List.nil_append
inductive D where
 |val (v:Value)
 |sl (es:List (List D))
deriving Inhabited
abbrev Fz := Nat->Option Obj
inductive Rep (F:Fz):Value->D->Prop where
 |val (v:Value) (h:v.oneCell'=true):Rep F v (.val v)
 |nil (a:Option Addr) (cap:Nat) (h:a=none->cap=0):Rep F (.slice a 0 cap) (.sl [])
 |sl (b off cap:Nat) (c:Array Value) (e:TypeId) (fr:Nat×Nat) (es:List (List D)) (sz:Nat) (g:Nat->Nat->Value)
   (hF:F b=some (.cells c e fr)) (hcap:es.length<=cap) (hsz:∀ (i:Nat)(ds:List D),es[i]?=some ds->ds.length=sz)
   (hc:∀ (i:Nat)(ds:List D)(j:Nat)(d:D),es[i]?=some ds->ds[j]?=some d->c[off+i * sz+j]?=some (g i j))
   (hr:∀ (i:Nat)(ds:List D)(j:Nat)(d:D),es[i]?=some ds->ds[j]?=some d->Rep F (g i j) d) :
   Rep F (.slice (some ⟨b,off,none⟩) es.length cap) (.sl es)
theorem Rep.mono {F F':Fz}(h:∀ b o,F b=some o->F' b=some o){v:Value}{d:D}(r:Rep F v d):Rep F' v d:=by
 induction r with
 |val v h=>exact .val v h
 |nil a cap h=>exact .nil a cap h
 |sl b off cap c e fr es sz g hF hcap hsz hc _ ih=>exact .sl b off cap c e fr es sz g (h _ _ hF) hcap hsz hc ih
theorem Rep.one {F:Fz}{v:Value}{d:D}(r:Rep F v d):v.oneCell'=true:=by
 cases r with
 |val v h=>exact h
 |nil=>rfl
 |sl=>rfl
theorem Rep.BD {F:Fz}{v u:Value}:Rep F v (.val u)↔v=u/\u.oneCell'=true:=by
 constructor
 ·intro h;cases h with|val v h=>exact⟨rfl,h⟩
 ·rintro ⟨rfl,h⟩;exact .val _ h
inductive SV where
 |d (d:D)
 |agg (cs:List SV)
 |dO (cs:List SV)
 |ptr (r off:Nat)
 |hd (r:Nat)
 |fp (ds:List D)
 |rp (r sz i j:Nat)
 |clo (fn:Fn) (first cap:List SV)
 |rs (r sz i:Nat)
 |top
deriving Inhabited
structure Cx where
 θ:Nat->Value
 F:Fz
 N:Nat
structure Cx.le (c c':Cx):Prop where
 n:c.N<=c'.N
 t:∀ r,r<c.N->c'.θ r=c.θ r
 f:∀ b o,c.F b=some o->c'.F b=some o
theorem Cx.le.refl (c:Cx):c.le c:=⟨qR _,fun _ _=>rfl,fun _ _ h=>h⟩
theorem Cx.le.trans {a b c:Cx}(h:a.le b)(k:b.le c):a.le c :=
 ⟨Nat.le_trans h.n k.n,fun r hr=>(k.t r (zL hr h.n)).trans (h.t r hr),fun b o hb=>k.f b o (h.f b o hb)⟩
def nk3 (row:Value)(sz i:Nat)(v:Value):Prop:=∃ ad n cap,row=.slice ad n cap/\i<=n/\v=.slice (if cap=i then ad else ad.map (·.add (i * sz))) (n - i) (cap - i)
inductive Rel (c:Cx):SV->Value->Prop where
 |d {v:Value} {d:D} (h:Rep c.F v d):Rel c (.d d) v
 |agg {cs:List SV} {us:Array Value} (hl:us.size=cs.length) (h:∀ (i:Nat) s u,cs[i]?=some s->us[i]?=some u->Rel c s u):Rel c (.agg cs) (.agg us)
 |dO {cs:List SV} {us:Array Value} (hl:us.size=cs.length) (h:∀ (i:Nat) s u,cs[i]?=some s->us[i]?=some u->Rel c s u):Rel c (.dO cs) (.tuple us)
 |ptr {r off b:Nat} (hr:r<c.N) (h:c.θ r=.pointer (some ⟨b,0,none⟩)):Rel c (.ptr r off) (.pointer (some ⟨b,off,none⟩))
 |hd {r:Nat} {v:Value} (hr:r<c.N) (h:c.θ r=v):Rel c (.hd r) v
 |fp {b off:Nat} {cs:Array Value} {e:TypeId} {fr:Nat×Nat} {ds:List D} (hF:c.F b=some (.cells cs e fr))
   (h:∀ (j:Nat) d,ds[j]?=some d->∃ u,cs[off+j]?=some u/\Rep c.F u d):Rel c (.fp ds) (.pointer (some ⟨b,off,none⟩))
 |rp {r sz i j b n cap:Nat} (hr:r<c.N) (h:c.θ r=.slice (some ⟨b,0,none⟩) n cap):Rel c (.rp r sz i j) (.pointer (some ⟨b,i * sz+j,none⟩))
 |clo {fn:Fn} {fs cs:List SV} {us vs:Array Value} (hl:us.size=fs.length) (h:∀ (i:Nat) s u,fs[i]?=some s->us[i]?=some u->Rel c s u)
   (hl':vs.size=cs.length) (h':∀ (i:Nat) s u,cs[i]?=some s->vs[i]?=some u->Rel c s u):Rel c (.clo fn fs cs) (.func fn us vs)
 |rs {r sz i:Nat} {v:Value} (hr:r<c.N) (h:nk3 (c.θ r) sz i v):Rel c (.rs r sz i) v
 |top (v:Value):Rel c .top v
theorem Rel.mono {c c':Cx}(hle:c.le c'){s:SV}{v:Value}(h:Rel c s v):Rel c' s v:=by
 induction h with
 |d h=>exact .d (h.mono hle.f)
 |agg hl _ ih=>exact .agg hl ih
 |dO hl _ ih=>exact .dO hl ih
 |ptr hr h=>exact .ptr (zL hr hle.n) ((hle.t _ hr).trans h)
 |hd hr h=>exact .hd (zL hr hle.n) ((hle.t _ hr).trans h)
 |fp hF h=>exact .fp (hle.f _ _ hF) (fun j d hj=>let ⟨u,h1,h2⟩:=h j d hj;⟨u,h1,h2.mono hle.f⟩)
 |rp hr h=>exact .rp (zL hr hle.n) ((hle.t _ hr).trans h)
 |clo hl _ hl' _ ih ih'=>exact .clo hl ih hl' ih'
 |rs hr h=>exact .rs (zL hr hle.n) (by rw[hle.t _ hr];exact h)
 |top v=>exact .top v
def SV.one : SV->Bool
 | .d _ | .ptr .. | .hd _ | .fp _ | .rp .. | .clo .. | .rs ..=>true
 |_=>false
theorem Rel.one {c:Cx}(hθ:∀ r,(c.θ r).oneCell'=true){s:SV}{v:Value}(h:Rel c s v)(hs:s.one=true):v.oneCell'=true:=by
 cases h with
 |d h=>exact h.one
 |hd hr h=>subst h;exact hθ _
 |ptr|fp|rp|clo=>rfl
 |rs hr h=>obtain⟨_,_,_,_,_,rfl⟩:=h;rfl
 |agg|dO|top=>simp[SV.one] at hs
theorem Rel.BD {c:Cx}{v u:Value}:Rel c (.d (.val v)) u↔u=v/\v.oneCell'=true:=by
 constructor
 ·intro h;cases h with|d h=>exact Rep.BD.1 h
 ·rintro ⟨rfl,h⟩;exact .d (.val _ h)
theorem Rel.gB {c:Cx}{v u:Value}(h:Rel c (.d (.val v)) u):u=v:=(Rel.BD.1 h).1
def dP (c:Cx)(ss:List SV)(us:List Value):Prop:=us.length=ss.length/\∀ (i:Nat) s u,ss[i]?=some s->us[i]?=some u->Rel c s u
theorem dP.nil {c:Cx}:dP c [] []:=⟨rfl,fun i s u h=>by simp at h⟩
theorem dP.cons {c:Cx}{s:SV}{u:Value}{ss:List SV}{us:List Value}(h:Rel c s u)(hs:dP c ss us):dP c (s::ss) (u::us) :=
 ⟨by simp[hs.1],fun i s' u' h1 h2=>by
  cases i with
  |zero=>simp at h1 h2;subst h1;subst h2;exact h
  |succ i=>simp at h1 h2;exact hs.2 i s' u' h1 h2⟩
theorem dP.CG {c:Cx}{us:List Value}:dP c [] us↔us=[]:=⟨fun h=>List.eq_nil_of_length_eq_zero h.1,fun h=>h▸.nil⟩
theorem dP.xE {c:Cx}{s:SV}{ss:List SV}{us:List Value}:dP c (s::ss) us↔∃ u us',us=u::us'/\Rel c s u/\dP c ss us':=by
 constructor
 ·intro h
  cases us with
  |nil=>exact absurd h.1 (by simp)
  |cons u us=>exact⟨u,us,rfl,h.2 0 s u rfl rfl,by simpa using h.1,fun i s' u' h1 h2=>h.2 (i+1) s' u' (by simpa using h1) (by simpa using h2)⟩
 ·rintro ⟨u,us',rfl,h1,h2⟩;exact .cons h1 h2
theorem dP.mono {c c':Cx}(hle:c.le c'){ss:List SV}{us:List Value}(h:dP c ss us):dP c' ss us:=⟨h.1,fun i s u h1 h2=>(h.2 i s u h1 h2).mono hle⟩
theorem dP.append {c:Cx}{ss ss':List SV}{us us':List Value}(h:dP c ss us)(h':dP c ss' us'):dP c (ss++ss') (us++us'):=by
 induction ss generalizing us with
 |nil=>rw[dP.CG.1 h];exact h'
 |cons s ss ih=>obtain⟨u,us1,rfl,h1,h2⟩:=dP.xE.1 h;exact .cons h1 (ih h2)
theorem Rel.tH {c:Cx}{cs:List SV}{v:Value}:Rel c (.agg cs) v↔∃ us:List Value,v=.agg us.toArray/\dP c cs us:=by
 constructor
 ·intro h;cases h with | @agg _ us hl h=>exact⟨us.toList,by simp,by simpa using hl,fun i s u h1 h2=>h i s u h1 (by simpa using h2)⟩
 ·rintro ⟨us,rfl,hl,h⟩;exact .agg (by simpa using hl) (fun i s u h1 h2=>h i s u h1 (by simpa using h2))
theorem Rel.yD {c:Cx}{cs:List SV}{v:Value}:Rel c (.dO cs) v↔∃ us:List Value,v=.tuple us.toArray/\dP c cs us:=by
 constructor
 ·intro h;cases h with | @dO _ us hl h=>exact⟨us.toList,by simp,by simpa using hl,fun i s u h1 h2=>h i s u h1 (by simpa using h2)⟩
 ·rintro ⟨us,rfl,hl,h⟩;exact .dO (by simpa using hl) (fun i s u h1 h2=>h i s u h1 (by simpa using h2))
theorem Rel.Ag {c:Cx}{fn:Fn}{fs cs:List SV}{v:Value}:Rel c (.clo fn fs cs) v↔∃ us vs:List Value,v=.func fn us.toArray vs.toArray/\dP c fs us/\dP c cs vs:=by
 constructor
 ·intro h;cases h with | @clo _ _ _ us vs hl h hl' h'=>exact⟨us.toList,vs.toList,by simp,⟨by simpa using hl,fun i s u h1 h2=>h i s u h1 (by simpa using h2)⟩,⟨by simpa using hl',fun i s u h1 h2=>h' i s u h1 (by simpa using h2)⟩⟩
 ·rintro ⟨us,vs,rfl,⟨hl,h⟩,⟨hl',h'⟩⟩;exact .clo (by simpa using hl) (fun i s u h1 h2=>h i s u h1 (by simpa using h2)) (by simpa using hl') (fun i s u h1 h2=>h' i s u h1 (by simpa using h2))
inductive CK where
 |int
 |bool
 |str
deriving Inhabited, DecidableEq
def CK.ok : CK->Value->Bool
 | .int,.int .i64 _=>true
 | .bool,.bool _=>true
 | .str,.string _=>true
 |_,_=>false
def tJ : List CK->List Value->Bool
 |[],[]=>true
 |k::ks,v::vs=>k.ok v&&tJ ks vs
 |_,_=>false
inductive MK where
 |int (q:IntKind)
 |str
 |bool
 |agg (ks:List CK)
deriving Inhabited, DecidableEq
def MK.desc : MK->TypeDesc
 | .int q=>.int q
 | .str=>.string
 | .bool=>.bool
 | .agg _=>.bool
def MK.ok : MK->Value->Bool
 | .int q,.int q' _=>decide (q'=q)
 | .str,.string _=>true
 | .bool,.bool _=>true
 | .agg ks,.agg us=>tJ ks us.toList
 |_,_=>false
def G7 (F:Fz)(agg:Bool)(ds:List D)(u:Value):Prop :=
 if agg then ∃ us:Array Value,u=.agg us/\us.size=ds.length/\∀ (j:Nat) d,ds[j]?=some d->∃ x,us[j]?=some x/\Rep F x d else ∃ d,ds=[d]/\Rep F u d
theorem G7.mono {F F':Fz}(h:∀ b o,F b=some o->F' b=some o){agg:Bool}{ds:List D}{u:Value}(r:G7 F agg ds u):G7 F' agg ds u:=by
 unfold G7 at *;split
 ·rw[if_pos (by assumption)] at r;obtain⟨us,h1,h2,h3⟩:=r;exact⟨us,h1,h2,fun j d hj=>let ⟨x,k1,k2⟩:=h3 j d hj;⟨x,k1,k2.mono h⟩⟩
 ·rw[if_neg (by assumption)] at r;obtain⟨d,h1,h2⟩:=r;exact⟨d,h1,h2.mono h⟩
inductive ak where
 |gone
 |fz (es:List (List D))
 |cells (cs:List SV) (ty:TypeId)
 |row (ty:TypeId) (sz:Nat) (es:List (List D))
 |wz (ds:List D)
 |mp (mk:MK) (agg:Bool) (es:List (Value×List D))
 |kC (mk:MK) (es:List (Value×SV))
deriving Inhabited
def ak.live : ak->Bool
 | .gone | .fz _ | .wz _=>false
 |_=>true
def jA : Value->Option Nat
 | .pointer (some a)=>some a.block
 | .slice (some a) _ _=>some a.block
 | .map (some b)=>some b
 |_=>none
def FN (c:Cx)(w:World)(v:Value):ak->Prop
 | .gone=>True
 | .fz es=>Rep c.F v (.sl es)
 | .wz ds=>Rel c (.fp ds) v
 | .cells cs ty=>∃ b us,v=.pointer (some ⟨b,0,none⟩)/\w.heap[b]?=some (.cells us ty (0,0))/\us.size=cs.length /\
   ∀ (i:Nat) s,cs[i]?=some s->∃ u,us[i]?=some u/\u.oneCell'=true/\Rel c s u
 | .row ty sz es=>(∀ ds∈es,ds.length=sz)/\∃ us,w.ownsRow 0 ty sz v es.length us/\∀ (j:Nat) d,es.flatten[j]?=some d->∃ u,us[j]?=some u/\Rep c.F u d
 | .kC mk es=>∃ b ms clock,v=.map (some b)/\w.heap[b]?=some (.map ms clock)/\ms.size=es.length /\
   ∀ (i:Nat) k s,es[i]?=some (k,s)->mk.ok k=true/\∃ m,ms[i]?=some m/\m.key=k/\Rel c s m.val
 | .mp mk agg es=>∃ b ms clock,v=.map (some b)/\w.heap[b]?=some (.map ms clock)/\ms.size=es.length /\
   ∀ (i:Nat) k ds,es[i]?=some (k,ds)->mk.ok k=true/\∃ m,ms[i]?=some m/\m.key=k/\G7 c.F agg ds m.val
class Tabs where
 ok:Fz->Prop
 mono:∀ {F F':Fz},(∀ b o,F b=some o->F' b=some o)->ok F->ok F'
variable [Tabs]
structure Sat (c:Cx)(own:List ak)(w:World):Prop where
 n:own.length=c.N
 res:∀ (r:Nat) x,own[r]?=some x->FN c w (c.θ r) x
 apart:∀ (r s:Nat) x y b,own[r]?=some x->own[s]?=some y->x.live=true->y.live=true->jA (c.θ r)=some b->jA (c.θ s)=some b->r=s
 iw:∀ (r:Nat) x b,own[r]?=some x->x.live=true->jA (c.θ r)=some b->c.F b=none
 le:∀ b o,c.F b=some o->w.heap[b]?=some o
 one:∀ r,(c.θ r).oneCell'=true
 tab:Tabs.ok c.F
def Own (c:Cx)(own:List ak)(b:Nat):Prop:=∃ (r:Nat)(x:ak),own[r]?=some x/\x.live=true/\jA (c.θ r)=some b
structure Goes (c:Cx)(own:List ak)(w:World)(c':Cx)(own':List ak)(w':World):Prop where
 os:w'.os=w.os
 tape:w'.tape=w.tape
 output:w'.output=w.output
 size:w.heap.size<=w'.heap.size
 keep:∀ b,b<w.heap.size->¬ Own c own b->w'.heap[b]?=w.heap[b]?
 newF:∀ b,c'.F b≠none->c.F b≠none\/w.heap.size<=b\/Own c own b
 jR:∀ b,Own c' own' b->Own c own b\/w.heap.size<=b
 f:∀ b o,c.F b=some o->c'.F b=some o
theorem Goes.refl (c:Cx)(own:List ak)(w:World):Goes c own w c own w :=
 ⟨rfl,rfl,rfl,qR _,fun _ _ _=>rfl,fun _ h=>.inl h,fun _ h=>.inl h,fun _ _ h=>h⟩
theorem Goes.trans {c c1 c2:Cx}{o o1 o2:List ak}{w w1 w2:World}(h:Goes c o w c1 o1 w1)(k:Goes c1 o1 w1 c2 o2 w2):Goes c o w c2 o2 w2 where
 os:=k.os.trans h.os
 tape:=k.tape.trans h.tape
 output:=k.output.trans h.output
 size:=Nat.le_trans h.size k.size
 keep b hb hn:=by
  rw[k.keep b (zL hb h.size) (fun ho=>by rcases h.jR b ho with h1|h1;exact hn h1;omega),h.keep b hb hn]
 newF b hb:=by
  rcases k.newF b hb with h1|h1|h1
  ·exact h.newF b h1
  ·exact .inr (.inl (Nat.le_trans h.size h1))
  ·rcases h.jR b h1 with h2|h2
   ·exact .inr (.inr h2)
   ·exact .inr (.inl h2)
 jR b hb:=by
  rcases k.jR b hb with h1|h1
  ·exact h.jR b h1
  ·exact .inr (Nat.le_trans h.size h1)
 f b o hb:=k.f b o (h.f b o hb)
theorem Sat.xI {c:Cx}{own:List ak}{w:World}(h:Sat c own w){b:Nat}(hb:Own c own b):b<w.heap.size:=by
 obtain⟨r,x,hx,hl,hbk⟩:=hb;have hr:=h.res r x hx
 cases x with
 |gone=>simp[ak.live] at hl
 |fz=>simp[ak.live] at hl
 |wz=>simp[ak.live] at hl
 |cells cs ty =>
  obtain⟨b',us,hv,hw,_⟩:=hr;rw[hv] at hbk;simp[jA] at hbk;subst hbk;exact(qB.1 hw).1
 |mp mk agg es =>
  obtain⟨b',ms,clock,hv,hw,_⟩:=hr;rw[hv] at hbk;simp[jA] at hbk;subst hbk;exact(qB.1 hw).1
 |kC mk es =>
  obtain⟨b',ms,clock,hv,hw,_⟩:=hr;rw[hv] at hbk;simp[jA] at hbk;subst hbk;exact(qB.1 hw).1
 |row ty sz es =>
  obtain⟨_,us,⟨_,hv⟩,_⟩:=hr;rcases hv with ⟨hv,_⟩|⟨g,cap,cur,hv,_,hw,_⟩
  ·rw[hv] at hbk;simp[jA] at hbk
  ·rw[hv] at hbk;simp[jA] at hbk;subst hbk;exact(qB.1 hw).1
theorem Sat.wI {c:Cx}{own:List ak}{w:World}(h:Sat c own w){b:Nat}{o:Obj}(hb:c.F b=some o):b<w.heap.size :=
 (qB.1 (h.le b o hb)).1
theorem FN.keep {c c':Cx}{w w':World}{v:Value}{x:ak}(h:FN c w v x)(hle:c.le c')(hw:x.live=true->∀ b,jA v=some b->w'.heap[b]?=w.heap[b]?):FN c' w' v x:=by
 cases x with
 |gone=>trivial
 |fz es=>exact Rep.mono hle.f h
 |wz ds=>exact Rel.mono hle h
 |mp mk agg es =>
  obtain⟨b,ms,clock,hv,hb,hs,hc⟩:=h;exact⟨b,ms,clock,hv,by rw[hw rfl b (by rw[hv];rfl)];exact hb,hs,fun i k ds hi=>let ⟨h1,m,h2,h3,h4⟩:=hc i k ds hi;⟨h1,m,h2,h3,h4.mono hle.f⟩⟩
 |kC mk es =>
  obtain⟨b,ms,clock,hv,hb,hs,hc⟩:=h;exact⟨b,ms,clock,hv,by rw[hw rfl b (by rw[hv];rfl)];exact hb,hs,fun i k s hi=>let ⟨h1,m,h2,h3,h4⟩:=hc i k s hi;⟨h1,m,h2,h3,h4.mono hle⟩⟩
 |cells cs ty =>
  obtain⟨b,us,hv,hb,hs,hc⟩:=h;exact⟨b,us,hv,by rw[hw rfl b (by rw[hv];rfl)];exact hb,hs,fun i s hi=>let ⟨u,h1,h2,h3⟩:=hc i s hi;⟨u,h1,h2,h3.mono hle⟩⟩
 |row ty sz es =>
  obtain⟨hd,us,⟨hn,hv⟩,hc⟩:=h;refine⟨hd,us,⟨hn,?_⟩,fun j d hj=>let ⟨u,h1,h2⟩:=hc j d hj;⟨u,h1,h2.mono hle.f⟩⟩;rcases hv with hv|⟨g,cap,cur,hv,h0,hb,hr⟩
  ·exact .inl hv
  ·exact .inr ⟨g,cap,cur,hv,h0,by rw[hw rfl g (by rw[hv];rfl)];exact hb,hr⟩
theorem Sat.on {c c':Cx}{own:List ak}{w w':World}(h:Sat c own w)(hle:c.le c')(hN:c'.N=c.N)(hθ:∀ r,(c'.θ r).oneCell'=true)
  (hw:∀ b,b<w.heap.size->w'.heap[b]?=w.heap[b]?) (hF:∀ b o,c'.F b=some o->w'.heap[b]?=some o) (hnF:∀ b,c'.F b≠none->c.F b≠none\/w.heap.size<=b):Sat c' own w' where
 n:=h.n.trans hN.symm
 res r x hx:=by
  have hr:r<c.N:=by rw[<- h.n];exact(qA.1 hx).1
  rw[hle.t r hr];exact(h.res r x hx).keep hle fun hl b hb=>hw b (h.xI ⟨r,x,hx,hl,hb⟩)
 apart r s x y b hx hy hl hl' hb hb':=by
  have hr:r<c.N:=by rw[<- h.n];exact(qA.1 hx).1
  have hs:s<c.N:=by rw[<- h.n];exact(qA.1 hy).1
  rw[hle.t r hr] at hb;rw[hle.t s hs] at hb';exact h.apart r s x y b hx hy hl hl' hb hb'
 iw r x b hx hl hb:=by
  have hr:r<c.N:=by rw[<- h.n];exact(qA.1 hx).1
  rw[hle.t r hr] at hb;have h0:=h.iw r x b hx hl hb
  cases hc:c'.F b with
  |none=>rfl
  |some o =>
   rcases hnF b (by simp[hc]) with h1|h1
   ·exact absurd h0 h1
   ·have:=h.xI ⟨r,x,hx,hl,hb⟩;omega
 le:=hF
 one:=hθ
 tab:=Tabs.mono hle.f h.tab
end Go.SX
namespace Go.SX
open Go
variable [Tabs]
def wQ : TypeDesc->Bool
 | .struct _ | .array _ _=>true
 |_=>false
def yB : CK->Value->Value->Option Bool
 | .int,.int k a,.int k' b=>if k=k' then some (decide (a=b)) else none
 | .bool,.bool a,.bool b=>some (a == b)
 | .str,.string a,.string b=>some (a.toList == b.toList)
 |_,_,_=>none
def nZ : List CK->List Value->List Value->Option Bool
 |[],[],[]=>some true
 |k::ks,u::l,v::l'=>(match yB k u v,nZ ks l l' with|some a,some b=>some (a&&b)|_,_=>none)
 |_,_,_=>none
theorem Yk : ∀ {ks:List CK}{xs ys:List Value}{b:Bool},nZ ks xs ys=some b->xs.length=ks.length/\ys.length=ks.length
 |[],[],[],_,_=>⟨rfl,rfl⟩
 |[],[],_::_,_,h=>by simp[nZ] at h
 |[],_::_,_,_,h=>by simp[nZ] at h
 |_::_,[],_,_,h=>by simp[nZ] at h
 |_::_,_::_,[],_,h=>by simp[nZ] at h
 |k::ks,u::l,v::l',b,h=>by
  simp only[nZ] at h;split at h
  ·rename_i h1 h2;have:=Yk h2;simp[this.1,this.2]
  ·cases h
theorem mx0 : ∀ {k1 k2:List CK}{xs ys:List Value}{b:Bool},nZ (k1++k2) xs ys=some b->∃ b1 b2,nZ k1 (xs.take k1.length) (ys.take k1.length)=some b1/\nZ k2 (xs.drop k1.length) (ys.drop k1.length)=some b2/\b=(b1&&b2)
 |[],k2,xs,ys,b,h=>⟨true,b,by simp[nZ],by simpa using h,by simp⟩
 |k::k1,k2,[],_,b,h=>by simp[nZ] at h
 |k::k1,k2,_::_,[],b,h=>by simp[nZ] at h
 |k::k1,k2,u::l,v::l',b,h=>by
  simp only[List.cons_append,nZ] at h;split at h
  ·rename_i a b' h1 h2;cases h;obtain⟨b1,b2,m1,m2,rfl⟩:=mx0 h2;exact⟨a&&b1,b2,by simp[nZ,h1,m1],by simpa using m2,by rw[Bool.and_assoc]⟩
  ·cases h
section
variable (P:Program)
def Jg (g:TypeId->Option (List CK)):List Field->Nat->Option (List CK)
 |[],_=>some []
 |f::fs,off=>if f.name ≠ "_" /\ f.offset=off/\(P.info? f.type).isSome=true then (match g f.type with|some k=>if P.cellsOf f.type=k.length then (match Jg g fs (off+k.length) with|some r=>some (k++r)|none=>none) else none|none=>none) else none
def Ou (k:List CK):Nat->List CK
 |0=>[]
 |n+1=>k++Ou k n
def vV : Nat->TypeId->Option (List CK)
 |0,_=>none
 |d+1,t =>
  match P.underlying t with
  |some .bool=>some [.bool]
  |some (.int _)=>some [.int]
  |some .string=>some [.str]
  |some (.array n e)=>if (P.info? e).isSome=true then (match vV d e with|some k=>if P.cellsOf e=k.length then some (Ou k n) else none|none=>none) else none
  |some (.struct fs)=>if P.stoodInHeld t=false/\P.eqGuardType P.depth t=false then Jg P (vV d) fs.toList 0 else none
  |_=>none
def rV (t:TypeId)(xs:List Value):Value :=
 match P.underlying t with
 |some (.struct _)|some (.array _ _)=>.agg xs.toArray
 |_=>xs.headD (.bool false)
end
section
variable {P:Program}(w:World)
theorem Y4 {d:Nat}{t:TypeId}{ks:List CK}(h:vV P (d+1) t=some ks):(P.underlying t=some .bool/\ks=[.bool])\/((∃ q,P.underlying t=some (.int q))/\ks=[.int])\/(P.underlying t=some .string/\ks=[.str]) \/
  (∃ n e k,P.underlying t=some (.array n e)/\(P.info? e).isSome=true/\vV P d e=some k/\P.cellsOf e=k.length/\ks=Ou k n) \/
  (∃ fs,P.underlying t=some (.struct fs)/\P.stoodInHeld t=false/\P.eqGuardType P.depth t=false/\Jg P (vV P d) fs.toList 0=some ks):=by
 unfold vV at h;split at h
 ·rename_i hu;cases h;exact .inl ⟨hu,rfl⟩
 ·rename_i q hu;cases h;exact .inr (.inl ⟨⟨q,hu⟩,rfl⟩)
 ·rename_i hu;cases h;exact .inr (.inr (.inl ⟨hu,rfl⟩))
 ·rename_i n e hu;split at h
  ·rename_i hi;split at h
   ·rename_i k hk;split at h
    ·rename_i hc;cases h;exact .inr (.inr (.inr (.inl ⟨n,e,k,hu,hi,hk,hc,rfl⟩)))
    ·cases h
   ·cases h
  ·cases h
 ·rename_i fs hu;split at h
  ·rename_i hs;exact .inr (.inr (.inr (.inr ⟨fs,hu,hs.1,hs.2,h⟩)))
  ·cases h
 ·cases h
theorem KR {t:TypeId}{d off:Nat}{ks:List CK}{xs:List Value}(ht:vV P d t=some ks)(hi:(P.info? t).isSome=true)(hn:P.cellsOf t=ks.length)(hl:off+ks.length<=xs.length) :
  (part t xs.toArray off).run P w=.ok (rV P t ((xs.drop off).take ks.length)) w:=by
 obtain⟨i,hi⟩:=Option.isSome_iff_exists.1 hi
 cases d with
 |zero=>simp[vV] at ht
 |succ d =>
  have agg:(∃ m e,P.underlying t=some (.array m e))\/(∃ fs,P.underlying t=some (.struct fs))->(part t xs.toArray off).run P w=.ok (rV P t ((xs.drop off).take ks.length)) w:=by
   intro hk;have hl:(xs.toArray.extract off (off+P.cellsOf t))=((xs.drop off).take ks.length).toArray:=by
    apply Array.ext';rw[Array.toList_extract];simp[List.extract,hn]
   rcases hk with ⟨m,e,hu⟩|⟨fs,hu⟩<;>simp only[part,isAgg,run_underlying hu,run_sizeOf w hi,rV,hu,qG,qE,Sem.run_pure,hl]<;>simp[hu,run_underlying hu,run_sizeOf w hi,hl]<;>rw[hn]
  have one:ks.length=1->(P.underlying t=some .bool\/(∃ k,P.underlying t=some (.int k))\/P.underlying t=some .string)->(part t xs.toArray off).run P w=.ok (rV P t ((xs.drop off).take ks.length)) w:=by
   intro h1 hk;rw[h1] at hl ⊢;have hlt:off<xs.length:=by omega
   have e2:(xs.drop off).take 1=[xs[off]]:=by rw[List.drop_eq_getElem_cons hlt];rfl
   rcases hk with hu|⟨k,hu⟩|hu<;>simp[part,isAgg,run_underlying hu,rV,hu,e2,hlt]
  rcases Y4 ht with ⟨hu,rfl⟩|⟨⟨q,hu⟩,rfl⟩|⟨hu,rfl⟩|⟨n,e,k,hu,_⟩|⟨fs,hu,_⟩
  ·exact one rfl (.inl hu)
  ·exact one rfl (.inr (.inl ⟨q,hu⟩))
  ·exact one rfl (.inr (.inr hu))
  ·exact agg (.inl ⟨n,e,hu⟩)
  ·exact agg (.inr ⟨fs,hu⟩)
def EqV (P:Program)(d:Nat):Prop:=∀ (t:TypeId)(ks:List CK),vV P d t=some ks->∀ (w:World)(e:Nat)(xs ys:List Value)(b:Bool),nZ ks xs ys=some b->(Op.equalIn (e+d) t (rV P t xs) (rV P t ys)).run P w=.ok b w
theorem gh1 {d:Nat}(IH:EqV P d)(e:Nat)(xs ys:List Value):∀ (fs:List Field)(off:Nat)(ks:List CK)(b:Bool),Jg P (vV P d) fs off=some ks->nZ ks (xs.drop off) (ys.drop off)=some b->off<=xs.length->off<=ys.length ->
  (Op.eqFields (e+d) xs.toArray ys.toArray fs).run P w=.ok b w
 |[],off,ks,b,h,hv,_,_=>by
  simp only[Jg] at h;cases h;have hb:b=true:=by
   cases hx:xs.drop off<;>cases hy:ys.drop off<;>rw[hx,hy] at hv<;>simp[nZ] at hv
   first|exact hv.symm|exact hv|(rw[<- hv])
  subst hb;simp[Op.eqFields]
 |f::fs,off,ks,b,h,hv,ho,ho'=>by
  simp only[Jg] at h;split at h
  ·rename_i hf;obtain⟨hn,rfl,hi⟩:=hf;split at h
   ·rename_i k hk;split at h
    ·rename_i hc;split at h
     ·rename_i r hr;cases h;have hl:=Yk hv;simp only[List.length_drop,qN] at hl;obtain⟨b1,b2,k1,k2,rfl⟩:=mx0 hv;rw[List.drop_drop,List.drop_drop] at k2;have p1:=KR w (xs:=xs) (off:=f.offset) hk hi hc (by omega);have p2:=KR w (xs:=ys) (off:=f.offset) hk hi hc (by omega);have p3:=IH f.type k hk w e _ _ b1 k1;have p4:=gh1 IH e xs ys fs (f.offset+k.length) r b2 hr k2 (by omega) (by omega);simp only[Op.eqFields,hn,ne_eq,not_false_eq_true,if_true,qG,p1,p2,p3,qE];cases b1
      ·simp
      ·simpa using p4
     ·cases h
    ·cases h
   ·cases h
  ·cases h
theorem gp1 {d:Nat}(IH:EqV P d)(e:Nat){t:TypeId}{k:List CK}(ht:vV P d t=some k)(hi:(P.info? t).isSome=true)(hc:P.cellsOf t=k.length)(xs ys:List Value):∀ (m j:Nat)(b:Bool),nZ (Ou k m) (xs.drop (j * k.length)) (ys.drop (j * k.length))=some b->j * k.length<=xs.length->j * k.length<=ys.length ->
  (Op.eqItems (e+d) t (P.cellsOf t) xs.toArray ys.toArray (List.range' j m)).run P w=.ok b w
 |0,j,b,hv,_,_=>by
  have hb:b=true:=by
   cases hx:xs.drop (j * k.length)<;>cases hy:ys.drop (j * k.length)<;>rw[hx,hy] at hv<;>simp[Ou,nZ] at hv
   first|exact hv.symm|exact hv|(rw[<- hv])
  subst hb;simp[Op.eqItems]
 |m+1,j,b,hv,ho,ho'=>by
  simp only[Ou] at hv;have hl:=Yk hv;simp only[List.length_drop,qN] at hl;obtain⟨b1,b2,k1,k2,rfl⟩:=mx0 hv;rw[List.drop_drop,List.drop_drop] at k2;have ej:j * k.length+k.length=(j+1) * k.length:=by rw[Nat.add_mul];omega
  rw[ej] at k2;have p1:=KR w (xs:=xs) (off:=j * k.length) ht hi hc (by omega);have p2:=KR w (xs:=ys) (off:=j * k.length) ht hi hc (by omega);have p3:=IH t k ht w e _ _ b1 k1;have p4:=gp1 IH e ht hi hc xs ys m (j+1) b2 k2 (by omega) (by omega);rw[hc] at p4 ⊢;simp only[List.range'_succ,Op.eqItems,qG,p1,p2,p3,qE];cases b1
  ·simp
  ·simpa using p4
theorem ki2 (d:Nat):EqV P d:=by
 induction d with
 |zero=>intro t n h;simp[vV] at h
 |succ d ih =>
  intro t ks ht w e xs ys b hv;rw[show e+(d+1)=(e+d)+1 by omega];have one:∀ {c:CK},nZ [c] xs ys=some b->∃ u v,xs=[u]/\ys=[v]/\yB c u v=some b:=by
   intro c hv;have hl:=Yk hv;obtain⟨u,rfl⟩:=List.length_eq_one_iff.1 hl.1;obtain⟨v,rfl⟩:=List.length_eq_one_iff.1 hl.2;refine⟨u,v,rfl,rfl,?_⟩;simp only[nZ] at hv
   cases h:yB c u v with
   |none=>simp[h] at hv
   |some a=>simp[h] at hv;rw[hv]
  rcases Y4 ht with ⟨hu,rfl⟩|⟨⟨q,hu⟩,rfl⟩|⟨hu,rfl⟩|⟨n,e',k,hu,hi,hk,hc,rfl⟩|⟨fs,hu,hs,_,hf⟩
  ·obtain⟨u,v,rfl,rfl,h⟩:=one hv;simp only[rV,hu,List.headD_cons];cases u<;>cases v<;>simp[yB] at h;subst h;exact run_equalIn_bool w (e+d) t _ _ hu
  ·obtain⟨u,v,rfl,rfl,h⟩:=one hv;simp only[rV,hu,List.headD_cons];cases u<;>cases v<;>simp[yB] at h;obtain⟨rfl,rfl⟩:=h;rw[run_equalIn_int w (e+d) t _ _ _ _ hu];rfl
  ·obtain⟨u,v,rfl,rfl,h⟩:=one hv;simp only[rV,hu,List.headD_cons];cases u<;>cases v<;>simp[yB] at h;subst h;exact run_equalIn_string w (e+d) t _ _ hu
  ·obtain⟨i,hi'⟩:=Option.isSome_iff_exists.1 hi;simp only[rV,hu];rw[run_equalIn_array w (e+d) xs.toArray ys.toArray hu hi',List.range_eq_range'];exact gp1 w ih e hk hi hc xs ys n 0 b (by simpa using hv) (by simp) (by simp)
  ·have hu':P.underlying t=some (.struct (P.fieldsOf t)):=by simp[Program.fieldsOf,hu]
   have IE:P.fieldsOf t=fs:=by simp[Program.fieldsOf,hu]
   simp only[rV,hu];rw[run_equalIn_struct w (e+d) t _ _ hu' hs,IE];exact gh1 w ih e xs ys fs.toList 0 ks b hf (by simpa using hv) (by simp) (by simp)
end
theorem mh0 {P:Program}{w:World}{t:TypeId}{d:Nat}{ks:List CK}{xs ys:List Value}{b:Bool}(hd:d<=10000)(ht:vV P d t=some ks)(hu:wQ ((P.underlying t).getD .bool)=true)(hv:nZ ks xs ys=some b) :
  (Op.equal t (.agg xs.toArray) (.agg ys.toArray)).run P w=.ok b w:=by
 have h:=ki2 d t ks ht w (10000 - d) xs ys b hv;rw[show 10000 - d+d=10000 by omega] at h;have:∀ zs,rV P t zs=.agg zs.toArray:=fun zs=>by
  unfold rV
  cases hq:P.underlying t with
  |none=>rw[hq] at hu;simp[wQ] at hu
  |some q=>rw[hq] at hu;cases q<;>simp[wQ] at hu<;>rfl
 rw[this,this] at h;exact h
end Go.SX
namespace Go.SX
open Go
variable [Tabs]
def eu : List SV->Nat->SV
 |[],_=>.top
 |v::_,0=>v
 |_::l,n+1=>eu l n
def wX : List SV->Nat->SV->List SV
 |[],_,_=>[]
 |_::l,0,v=>v::l
 |a::l,n+1,v=>a::wX l n v
def bG : List ak->Nat->ak
 |[],_=>.gone
 |v::_,0=>v
 |_::l,n+1=>bG l n
def nC : List ak->Nat->ak->List ak
 |[],_,_=>[]
 |_::l,0,v=>v::l
 |a::l,n+1,v=>a::nC l n v
theorem jZ (l:List SV)(n:Nat):eu l n=(l[n]?).getD .top:=by
 induction l generalizing n with
 |nil=>simp[eu]
 |cons a l ih=>cases n with
  |zero=>simp[eu]
  |succ n=>simp[eu,ih]
theorem Ee (l:List SV)(n:Nat)(v:SV):wX l n v=l.set n v:=by
 induction l generalizing n with
 |nil=>simp[wX]
 |cons a l ih=>cases n with
  |zero=>simp[wX]
  |succ n=>simp[wX,ih]
theorem nV (l:List ak)(n:Nat):bG l n=(l[n]?).getD .gone:=by
 induction l generalizing n with
 |nil=>simp[bG]
 |cons a l ih=>cases n with
  |zero=>simp[bG]
  |succ n=>simp[bG,ih]
theorem yF (l:List ak)(n:Nat)(v:ak):nC l n v=l.set n v:=by
 induction l generalizing n with
 |nil=>simp[nC]
 |cons a l ih=>cases n with
  |zero=>simp[nC]
  |succ n=>simp[nC,ih]
def cval : Value->SV
 | .agg cs=>.agg (cs.toList.map fun c=>if c.oneCell' then .d (.val c) else .top)
 | .tuple cs=>if cs.size=0 then .dO [] else .top
 |v=>.d (.val v)
def ev (env:List SV):Operand->SV
 | .tmp t=>eu env t
 | .const v=>cval v
 | .func f=>.clo (.func f) [] []
 | .global _=>.top
structure bI (c:Cx)(env:List SV)(a:Act):Prop where
 size:a.tmps.size=env.length
 rel:∀ (i:Nat) s u,env[i]?=some s->a.tmps[i]?=some u->Rel c s u
theorem H7 (c:Cx)(v:Value):Rel c (cval v) v:=by
 cases v with
 |agg cs =>
  refine .agg (by simp) fun i s u hs hu=>?_
  simp at hs;obtain⟨x,hx,hs⟩:=hs;rw[hx] at hu;cases hu;split at hs
  ·subst hs;exact .d (.val _ (by assumption))
  ·subst hs;exact .top _
 |tuple cs =>
  simp only[cval];split
  ·rename_i h;refine .dO (by simpa using h) fun i s u hs hu=>by simp at hs
  ·exact .top _
 |_=>exact .d (.val _ rfl)
theorem BU {c:Cx}{env:List SV}{a:Act}(h:bI c env a)(x:Operand):Rel c (ev env x) (a.eval x):=by
 cases x with
 |tmp t =>
  show Rel c (eu env t) (a.tmps.getD t undef);rw[jZ]
  cases ht:env[t]? with
  |none=>exact .top _
  |some s =>
   have hlt:t<env.length:=(qA.1 ht).1;have hl2:t<a.tmps.size:=by rw[h.size];exact hlt
   have:a.tmps[t]?=some (a.tmps.getD t undef):=by simp[Array.getD,hl2]
   exact h.rel t s _ ht this
 |const v=>exact H7 c v
 |func f=>exact .clo (by simp) (fun i s u hs=>by simp at hs) (by simp) (fun i s u hs=>by simp at hs)
 |global g=>exact .top _
theorem Sj {c:Cx}{e:Operand->SV}{a:Act}(h:∀ x,Rel c (e x) (a.eval x))(xs:List Operand):dP c (xs.map e) (xs.map a.eval) :=
 ⟨by simp,fun i s u hs hu=>by
  simp at hs hu;obtain⟨x,hx,rfl⟩:=hs;obtain⟨y,hy,rfl⟩:=hu;rw[hx] at hy;cases hy;exact h x⟩
def nrm (own:List ak):SV->SV
 | .hd r=>(match bG own r with | .fz es=>.d (.sl es)|_=>.hd r)
 | .ptr r k=>(match bG own r with | .wz ds=>.fp (ds.drop k)|_=>.ptr r k)
 |s=>s
def aA (own:List ak)(env:List SV)(x:Operand):SV:=nrm own (ev env x)
theorem yC {c:Cx}{own:List ak}{w:World}(hS:Sat c own w){s:SV}{u:Value}(h:Rel c s u):Rel c (nrm own s) u:=by
 unfold nrm;split
 ·rename_i r;split
  ·rename_i es hg;rw[nV] at hg
   cases hx:own[r]? with
   |none=>simp[hx] at hg
   |some y =>
    simp[hx] at hg;subst hg;have:=hS.res r _ hx;cases h with|hd hr hv=>rw[<- hv];exact .d this
  ·exact h
 ·rename_i r k;split
  ·rename_i ds hg;rw[nV] at hg
   cases hx:own[r]? with
   |none=>simp[hx] at hg
   |some y =>
    simp[hx] at hg;subst hg;have:=hS.res r _ hx
    cases h with
    |ptr hr hv =>
     rw[hv] at this
     cases this with
     |fp hF hh =>
      refine .fp hF fun j d hj=>?_
      rw[List.getElem?_drop] at hj;obtain⟨u,h1,h2⟩:=hh (k+j) d hj;exact⟨u,by rw[<- h1];simp,h2⟩
  ·exact h
 ·exact h
theorem bI.put {c:Cx}{env:List SV}{a:Act}(h:bI c env a){d:Nat}{s:SV}{u:Value}(hr:Rel c s u):bI c (wX env d s) (a.put (some d) u):=by
 rw[Ee];refine⟨by simp[Act.put,h.size],fun i t v hi hv=>?_⟩;simp only[Act.put] at hv;rw[Array.getElem?_setIfInBounds] at hv;rw[List.getElem?_set] at hi;by_cases hd:d=i
 ·subst hd;simp only[if_true] at hi hv;split at hi<;>simp at hi;split at hv<;>simp at hv;subst hi;subst hv;exact hr
 ·rw[if_neg hd] at hi hv;exact h.rel i t v hi hv
def jk (env:List SV):Option Nat->SV->List SV
 |some d,s=>wX env d s
 |none,_=>env
theorem bI.jk {c:Cx}{env:List SV}{a:Act}(h:bI c env a){d:Option Nat}{s:SV}{u:Value}(hr:Rel c s u):bI c (jk env d s) (a.put d u):=by
 cases d with
 |none=>exact h
 |some d=>exact h.put hr
theorem bI.mono {c c':Cx}(hle:c.le c'){env:List SV}{a:Act}(h:bI c env a):bI c' env a:=⟨h.size,fun i s u h1 h2=>(h.rel i s u h1 h2).mono hle⟩
inductive jO where
 |mv (x:Operand)
 |pick (c a b:Operand)
 |bin (op:BinOp) (x y:Operand)
 |div (op:BinOp) (x y:Operand)
 |beq (neg:Bool) (ks:List CK) (x y:Operand)
 |wB (neg:Bool) (x y:Operand)
 |OV (neg:Bool) (x:Operand)
 |yU (x:Operand)
 |Es
 |un (op:UnOp) (x:Operand)
 |KC (k:IntKind) (x:Operand)
 |aj (off:Nat) (x:Operand)
 |GN (off sz:Nat) (agg:Bool) (x:Operand)
 |load (sz:Nat) (agg:Bool) (x:Operand)
 |store (sz:Nat) (x v:Operand)
 |alloc (ty:TypeId) (z:Value)
 |box (ty:TypeId) (x:Operand)
 |build (z:Value) (parts:List ((Nat×Nat)×Operand))
 |aU (ty sz n:Nat) (z:Value) (parts:List (Nat×Operand))
 |aQ (sz:Nat) (x i:Operand)
 |eH (len sz:Nat) (x i:Operand)
 |lD (len sz:Nat) (agg:Bool) (x i:Operand)
 |uH (x i:Operand)
 |FY (x:Operand)
 |slc (sz:Nat) (x:Operand) (lo hi:Option Operand)
 |uf (x:Operand) (lo hi:Option Operand)
 |len (str:Bool) (x:Operand)
 |app (ty sz bytes:Nat) (z:Value) (x y:Operand)
 |FZ (ty sz bytes:Nat) (z:Value) (x y:Operand)
 |call (f:FuncId) (args:List Operand)
 |fZ (x:Operand) (args:List Operand)
 |jE (fn:Fn) (first cap:List Operand)
 |Pq (ty sz bytes:Nat) (z:Value) (l c:Operand)
 |ext (x:Operand) (i:Nat)
 |mm (mx:Bool) (x:Operand) (xs:List Operand)
 |aO (x:Operand)
 |IU (sz:Nat) (z:Value) (x:Operand)
 |DI (mk:MK) (agg:Bool)
 |Si (mk:MK)
 |lq (mk:MK) (agg:Bool) (x k v:Operand)
 |lI (mk:MK) (agg ok:Bool) (z:Value) (x k:Operand)
deriving Inhabited
def Ll (P:Program)(op:BinOp)(t:TypeId)(x y:Operand):Option jO :=
 match vV P 100 t with
 |some (k::ks)=>if wQ ((P.underlying t).getD .bool)=true/\P.eqGuardType P.depth t=false then (match op with | .eql=>some (.beq false (k::ks) x y) | .neq=>some (.beq true (k::ks) x y)|_=>none) else none
 |_=>none
def lu (P:Program)(t:TypeId):Option Nat:=(P.info? t).map (·.size)
def BI (P:Program)(t:TypeId):Option Value:=(P.info? t).bind (·.zero)
def QB (P:Program)(fs:Array Field):List (Nat×Operand)->Option (List ((Nat×Nat)×Operand))
 |[]=>some []
 |(i,x)::l=>do
  let f <- fs[i]?
  let s <- lu P f.type
  let r <- QB P fs l
  some (((f.offset,s),x)::r)
def JX (P:Program):Nat->TypeId->Bool
 |0,_=>false
 |d+1,t=>match P.underlying t with
  |some (.int _)|some .string|some .bool=>true
  |some (.struct fs)=>fs.toList.all fun f=>JX P d f.type
  |_=>false
def U3 (P:Program)(t:TypeId):Option MK :=
 match P.underlying t with
 |some (.int q)=>some (.int q)
 |some .string=>some .str
 |some .bool=>some .bool
 |some (.struct _)=>if JX P 100 t=true then (match vV P 100 t with|some (k::ks)=>some (.agg (k::ks))|_=>none) else none
 |_=>none
def NG (P:Program)(u e:TypeId)(i:TypeInfo)(z:Value)(x y:Operand):Option jO :=
 match P.underlying u with
 |some (.int .i64)=>if z.cells.size=i.size/\0<i.size then some (.FZ e i.size i.bytes z x y) else none
 |_=>none
def iE (P:Program)(o:Op):Option jO :=
 match o with
 | .move x | .assign x=>some (.mv x)
 | .pick c a b=>some (.pick c a b)
 | .binOp op t x y _ =>
  match P.underlying t with
  |some .bool=>(match op with | .eql=>some (.beq false [] x y) | .neq=>some (.beq true [] x y)|_=>none)
  |some (.func ..)=>(match op with | .eql=>some (.wB false x y) | .neq=>some (.wB true x y)|_=>none)
  |some (.slice _)=>(match y with | .const (.slice none 0 0)=>(match op with | .eql=>some (.OV false x) | .neq=>some (.OV true x)|_=>none)|_=>none)
  |some (.int _)=>(match op with | .quo | .rem=>some (.div op x y)|_=>some (.bin op x y))
  |some .string=>some (.bin op x y)
  |_=>Ll P op t x y
 | .unOp op _ x=>some (.un op x)
 | .convert src dst x =>
  match P.underlying src,P.underlying dst with
  |some (.int _),some (.int k)=>some (.KC k x)
  |some (.slice e),some .string=>(match P.underlying e with|some (.int .u8)=>some (.FY x)|_=>none)
  |_,_=>none
 | .fieldAddr t x f =>
  match P.underlying t with
  |some (.struct fs)=>do
   let fd <- fs[f]?
   let s <- lu P fd.type
   if s=0 then none else some (.aj fd.offset x)
  |_=>none
 | .field t x f =>
  match P.underlying t with
  |some (.struct fs)=>do
   let fd <- fs[f]?
   let s <- lu P fd.type
   let d <- P.underlying fd.type
   some (.GN fd.offset s (wQ d) x)
  |_=>none
 | .load t x=>do
  let s <- lu P t
  let d <- P.underlying t
  some (.load s (wQ d) x)
 | .store t x v=>do
  let s <- lu P t
  some (.store s x v)
 | .alloc t=>do
  let z <- BI P t
  some (.alloc t z)
 | .box t x=>some (.box t x)
 | .build t ps =>
  match P.underlying t with
  |some (.struct fs)=>do
   let z <- BI P t
   let l <- QB P fs ps.toList
   if fs.toList.all (fun f=>(lu P f.type).isSome) then some (.build z l) else none
  |some (.array _ e)=>do
   let z <- BI P t
   let s <- lu P e
   some (.build z (ps.toList.map fun p=>((p.1 * s,s),p.2)))
  |_=>none
 | .buildSlice t n ps =>
  match P.underlying t with
  |some (.slice e)=>do
   let s <- lu P e
   let z <- BI P e
   if s=0 then none else some (.aU e s n z ps.toList)
  |_=>none
 | .indexAddr t x i =>
  match P.underlying t with
  |some (.slice e)=>do
   let s <- lu P e
   some (.aQ s x i)
  |some (.array n e)=>do
   let s <- lu P e
   some (.eH n s x i)
  |_=>none
 | .index t x i =>
  match P.underlying t with
  |some (.array n e)=>do
   let s <- lu P e
   let d <- P.underlying e
   some (.lD n s (wQ d) x i)
  |some .string=>some (.uH x i)
  |_=>none
 | .slice t x lo hi none =>
  match P.underlying t with
  |some (.slice e)=>do
   let s <- lu P e
   some (.slc s x lo hi)
  |some .string=>some (.uf x lo hi)
  |_=>none
 | .makeFunc fn fs cs=>some (.jE fn fs.toList cs.toList)
 | .makeSlice t l c =>
  match P.underlying t with
  |some (.slice e)=>do
   let i <- P.info? e
   let z <- i.zero
   some (.Pq e i.size i.bytes z l c)
  |_=>none
 | .extract x i=>some (.ext x i)
 | .makeMap t none =>
  match P.underlying t with
  |some (.map k e)=>do
   let mk <- U3 P k
   let d <- P.underlying e
   some (match d with | .func ..=>.Si mk|d=>.DI mk (wQ d))
  |_=>none
 | .mapUpdate t m k v | .insert t m k v =>
  match P.underlying t with
  |some (.map kt e)=>do
   let mk <- U3 P kt
   let d <- P.underlying e
   some (.lq mk (wQ d) m k v)
  |_=>none
 | .lookup t m k ok =>
  match P.underlying t with
  |some (.map kt e)=>do
   let mk <- U3 P kt
   let d <- P.underlying e
   let z <- BI P e
   some (.lI mk (wQ d) ok z m k)
  |_=>none
 | .nilCheck x=>some (.aO x)
 | .call { callee:=.value (.func f),args,.. }=>some (.call f args.toList)
 | .call { callee:=.value x,args,.. }=>some (.fZ x args.toList)
 | .call { callee:=.builtin .len,args,argTypes } =>
  match argTypes.toList,args.toList with
  |[t],[x]=>(match P.underlying t with|some (.slice _)=>some (.len false x)|some .string=>some (.len true x)|_=>none)
  |_,_=>none
 | .call { callee:=.builtin .cap,args,argTypes } =>
  match argTypes.toList,args.toList with
  |[t],[x]=>(match P.underlying t with|some (.slice _)=>some (.yU x)|_=>none)
  |_,_=>none
 | .makeInterface ..=>some .Es
 | .panic ..=>some .Es
 | .call { callee:=.builtin .max,args,.. }=>(match args.toList with|x::xs=>some (.mm true x xs)|[]=>none)
 | .call { callee:=.builtin .min,args,.. }=>(match args.toList with|x::xs=>some (.mm false x xs)|[]=>none)
 | .call { callee:=.builtin .append,args,argTypes } =>
  match argTypes.toList,args.toList with
  |[t,u],[x,y] =>
   match P.underlying t with
   |some (.slice e)=>do
    let i <- P.info? e
    let z <- i.zero
    if t=u/\z.cells.size=i.size/\0<i.size then some (.app e i.size i.bytes z x y) else NG P u e i z x y
   |_=>none
  |_,_=>none
 | .call { callee:=.builtin .clear,args,argTypes } =>
  match argTypes.toList,args.toList with
  |[t],[x] =>
   match P.underlying t with
   |some (.slice e)=>do
    let z <- BI P e
    some (.IU z.cells.size z x)
   |_=>none
  |_,_=>none
 |_=>none
def Il (op:BinOp):SV->SV->Option SV
 | .d (.val (.int k a)),.d (.val (.int k' b)) =>
  match op with
  | .shl=>if b<0 then none else some (.d (.val (.int k (k.wrap (a * 2 ^ min b.toNat k.bits)))))
  | .shr=>if b<0 then none else some (.d (.val (.int k (a.fdiv (2 ^ min b.toNat k.bits)))))
  |op =>
   if k≠k' then none else
   match op with
   | .add=>some (.d (.val (.int k (k.wrap (a+b)))))
   | .sub=>some (.d (.val (.int k (k.wrap (a - b)))))
   | .mul=>some (.d (.val (.int k (k.wrap (a * b)))))
   | .and=>some (.d (.val (.int k (k.wrap (BitVec.ofInt k.bits a &&& BitVec.ofInt k.bits b).toNat))))
   | .or=>some (.d (.val (.int k (k.wrap (BitVec.ofInt k.bits a ||| BitVec.ofInt k.bits b).toNat))))
   | .xor=>some (.d (.val (.int k (k.wrap (BitVec.ofInt k.bits a ^^^ BitVec.ofInt k.bits b).toNat))))
   | .andNot=>some (.d (.val (.int k (k.wrap (BitVec.ofInt k.bits a &&& ~~~BitVec.ofInt k.bits b).toNat))))
   | .eql=>some (.d (.val (.bool (decide (a=b)))))
   | .neq=>some (.d (.val (.bool (!decide (a=b)))))
   | .lss=>some (.d (.val (.bool (decide (a<b)))))
   | .leq=>some (.d (.val (.bool (decide (a<=b)))))
   | .gtr=>some (.d (.val (.bool (decide (b<a)))))
   | .geq=>some (.d (.val (.bool (decide (b<=a)))))
   |_=>none
 | .d (.val (.string a)),.d (.val (.string b)) =>
  match op with
  | .eql=>some (.d (.val (.bool (a.toList == b.toList))))
  | .neq=>some (.d (.val (.bool (!(a.toList == b.toList)))))
  | .lss=>some (.d (.val (.bool (Op.bytesLess a.toList b.toList))))
  | .leq=>some (.d (.val (.bool (Op.bytesLess a.toList b.toList||a.toList == b.toList))))
  | .gtr=>some (.d (.val (.bool (!(Op.bytesLess a.toList b.toList||a.toList == b.toList)))))
  | .geq=>some (.d (.val (.bool (!Op.bytesLess a.toList b.toList))))
  |_=>none
 |_,_=>none
def GX (ck:CK->Value->Value->Option Bool)(an:Bool->Bool->Bool):List CK->List SV->List SV->Option Bool
 |[k],[.d (.val u)],[.d (.val v)]=>ck k u v
 |k::ks,.d (.val u)::l,.d (.val v)::l'=>(match ck k u v,GX ck an ks l l' with|some a,some b=>some (an a b)|_,_=>none)
 |_,_,_=>none
def Ep : List CK->List SV->List SV->Option Bool:=GX yB and
def Jj (neg:Bool)(ks:List CK):SV->SV->Option SV
 | .d (.val (.bool a)),.d (.val (.bool b))=>(match ks with|[]=>some (.d (.val (.bool (neg ^^ (a == b)))))|_=>none)
 | .agg cs,.agg cs'=>(match Ep ks cs cs' with|some b=>some (.d (.val (.bool (neg ^^ b))))|none=>none)
 |_,_=>none
def Lj (neg:Bool):SV->SV->Option SV
 | .clo (.func _) _ _,.d (.val .nilFunc)=>some (.d (.val (.bool neg)))
 | .d (.val .nilFunc),.d (.val .nilFunc)=>some (.d (.val (.bool (!neg))))
 |_,_=>none
def scap : SV->Option SV
 | .d (.val (.slice none 0 0))=>some (.d (.val (.int .i64 0)))
 |_=>none
def LD (op:UnOp):SV->Option SV
 | .d (.val (.bool b))=>(match op with | .not=>some (.d (.val (.bool (!b))))|_=>none)
 | .d (.val (.int k a))=>(match op with | .neg=>some (.d (.val (.int k (k.wrap (0 - a)))))|_=>none)
 |_=>none
def Ld : SV->SV->SV->Option SV
 | .d (.val (.bool c)),.d (.val (.bool x)),.d (.val (.bool y))=>some (.d (.val (.bool (cond c x y))))
 | .d (.val (.bool c)),a,b=>some (cond c a b)
 |_,_,_=>none
def GU (off:Nat):SV->Option SV
 | .ptr r k=>some (.ptr r (k+off))
 | .fp ds=>some (.fp (ds.drop off))
 | .rp r sz i j=>some (.rp r sz i (j+off))
 |_=>none
def GR (off sz:Nat)(agg:Bool):SV->Option SV
 | .agg cs=>if agg then some (.agg ((cs.drop off).take sz)) else cs[off]?
 |_=>none
def takeN {α:Type}:Nat->List α->Option (List α)
 |0,_=>some []
 |_+1,[]=>none
 |n+1,a::l=>match takeN n l with|some r=>some (a::r)|none=>none
theorem iw1 {α:Type}(n:Nat)(l r:List α):takeN n l=some r->r=l.take n/\r.length=n:=by
 induction n generalizing l r with
 |zero=>intro h;simp[takeN] at h;subst h;simp
 |succ n ih =>
  intro h
  cases l with
  |nil=>simp[takeN] at h
  |cons a l =>
   simp only[takeN] at h
   cases hh:takeN n l with
   |none=>simp[hh] at h
   |some r' =>
    simp[hh] at h;subst h;obtain⟨h1,h2⟩:=ih l r' hh;subst h1;simp at h2 ⊢;exact h2
def BH (own:List ak)(sz:Nat)(agg:Bool):SV->Option SV
 | .ptr r k =>
  match bG own r with
  | .cells cs _=>if agg then (match takeN sz (cs.drop k) with|some l=>some (.agg l)|none=>none) else cs[k]?
  |_=>none
 | .fp ds=>if agg then (match takeN sz ds with|some l=>some (.agg (l.map .d))|none=>none) else (match ds with|d::_=>some (.d d)|[]=>none)
 |_=>none
def slen (own:List ak)(str:Bool):SV->Option SV
 | .d (.sl es)=>if str then none else some (.d (.val (.int .i64 es.length)))
 | .d (.val (.slice _ n _))=>if str then none else some (.d (.val (.int .i64 n)))
 | .d (.val (.string s))=>if str then some (.d (.val (.int .i64 s.size))) else none
 | .hd r=>if str then none else match bG own r with
  | .row _ _ es=>some (.d (.val (.int .i64 es.length)))
  |_=>none
 | .rs r _ i=>if str then none else match bG own r with
  | .row _ _ es=>some (.d (.val (.int .i64 ((es.length - i:Nat):Int))))
  |_=>none
 |_=>none
def Jl (i:Nat):SV->Option SV
 | .dO cs=>cs[i]?
 |_=>none
def Ew : SV->Option SV
 | .ptr r k=>some (.ptr r k)
 | .fp ds=>some (.fp ds)
 | .rp r sz i j=>some (.rp r sz i j)
 | .clo (.func f) a b=>some (.clo (.func f) a b)
 |_=>none
def Gt (mx:Bool):SV->List SV->Option SV
 |v,[]=>(match v with | .d (.val (.int k a))=>some (.d (.val (.int k a)))|_=>none)
 | .d (.val (.int k a)),.d (.val (.int _ b))::l=>Gt mx (.d (.val (.int k (if mx then max a b else min a b)))) l
 |_,_=>none
def MB (k:IntKind):SV->Option SV
 | .d (.val (.int _ n))=>some (.d (.val (.int k (k.wrap n))))
 |_=>none
def SV.cells : SV->List SV
 | .agg cs=>cs
 |s=>[s]
def splice {α:Type}(off:Nat)(vs l:List α):List α:=l.take off++vs++l.drop (off+vs.length)
def SV.flat : SV->Bool
 | .dO _ | .top=>false
 |_=>true
def sfill (cells:List SV):List ((Nat×Nat)×SV)->Option (List SV)
 |[]=>some cells
 |((off,sz),s)::rest=>if s.flat=true/\s.cells.length=sz/\off+sz<=cells.length then sfill (splice off s.cells cells) rest else none
def LK (z:SV)(ps:List ((Nat×Nat)×SV)):Option SV :=
 match sfill z.cells ps with
 |some cs=>some (.agg cs)
 |none=>none
def nG (own:List ak)(e:Operand->SV):jO->Option SV
 | .mv x=>some (e x)
 | .pick c a b=>Ld (e c) (e a) (e b)
 | .bin op x y=>Il op (e x) (e y)
 | .beq n ks x y=>Jj n ks (e x) (e y)
 | .wB n x y=>Lj n (e x) (e y)
 | .un op x=>LD op (e x)
 | .KC k x=>MB k (e x)
 | .aj off x=>GU off (e x)
 | .GN off sz agg x=>GR off sz agg (e x)
 | .load sz agg x=>BH own sz agg (e x)
 | .len s x=>slen own s (e x)
 | .yU x=>scap (e x)
 | .ext x i=>Jl i (e x)
 | .jE fn fs cs=>some (.clo fn (fs.map e) (cs.map e))
 | .mm mx x xs=>Gt mx (e x) (xs.map e)
 | .aO x=>Ew (e x)
 | .build z ps=>LK (cval z) (ps.map fun p=>(p.1,e p.2))
 |_=>none
end Go.SX
