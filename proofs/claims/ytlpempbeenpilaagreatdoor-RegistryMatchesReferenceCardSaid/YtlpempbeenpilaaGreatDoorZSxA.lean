/- Parts of the proof. -/
import Derived.WalkKit
import Derived.DeepKeys
set_option linter.unusedSimpArgs false
set_option linter.unusedVariables false
set_option linter.unusedSectionVars false
namespace Go.SX
open Go
abbrev qA:=@Option.bind_some
abbrev qB:=@Array.getElem?_eq_some_iff
abbrev qC:=@List.getElem?_eq_some_iff
abbrev qD:=@decide_eq_true
abbrev qE:=@decide_eq_false
abbrev qF:=@Result.andThen_ok
abbrev qG:=@Sem.run_bind
abbrev qH:=@Option.bind_eq_some_iff
abbrev qI:=@List.getElem?_map
abbrev qJ:=@Bool.and_eq_true
abbrev qK:=@List.getElem?_eq_getElem
abbrev qL:=@List.all_eq_true
abbrev qM:=@List.getElem?_append_left
abbrev qN:=@List.getElem?_append_right
abbrev qO:=@List.length_map
abbrev qP:=@List.length_append
abbrev qQ:=@Nat.le_refl
abbrev qR:=@List.map_cons
abbrev qS:=@Option.map_some
abbrev qT:=@List.mem_append
abbrev qU:=@List.mem_of_getElem?
abbrev qV:=@List.length_cons
abbrev qW:=@List.length_take
abbrev qX:=@List.getElem?_eq_none
abbrev qY:=@List.getD_eq_getElem?_getD
abbrev qZ:=@Option.some.injEq
abbrev zA:=@List.length_singleton
abbrev zB:=@decide_eq_true_eq
abbrev zC:=@Nat.lt_of_lt_of_le
inductive D where
 | val (v:Value)
 | sl (es:List (List D))
deriving Inhabited
abbrev Fz := Nat→Option Obj
inductive Rep (F:Fz):Value→D→Prop where
 | val (v:Value) (h:v.oneCell'=true):Rep F v (.val v)
 | nil (a:Option Addr) (cap:Nat) (h:a=none→cap=0):Rep F (.slice a 0 cap) (.sl [])
 | sl (b off cap:Nat) (c:Array Value) (e:TypeId) (fr:Nat×Nat) (es:List (List D)) (sz:Nat) (g:Nat→Nat→Value)
   (hF:F b=some (.cells c e fr)) (hcap:es.length≤cap) (hsz:∀ (i:Nat)(ds:List D),es[i]?=some ds→ds.length=sz)
   (hc:∀ (i:Nat)(ds:List D)(j:Nat)(d:D),es[i]?=some ds→ds[j]?=some d→c[off+i * sz+j]?=some (g i j))
   (hr:∀ (i:Nat)(ds:List D)(j:Nat)(d:D),es[i]?=some ds→ds[j]?=some d→Rep F (g i j) d) :
   Rep F (.slice (some ⟨b,off,none⟩) es.length cap) (.sl es)
theorem Rep.mono {F F':Fz}(h:∀ b o,F b=some o→F' b=some o){v:Value}{d:D}(r:Rep F v d):Rep F' v d:=by
 induction r with
 | val v h=>exact .val v h
 | nil a cap h=>exact .nil a cap h
 | sl b off cap c e fr es sz g hF hcap hsz hc _ ih=>exact .sl b off cap c e fr es sz g (h _ _ hF) hcap hsz hc ih
theorem Rep.one {F:Fz}{v:Value}{d:D}(r:Rep F v d):v.oneCell'=true:=by
 cases r with
 | val v h=>exact h
 | nil=>rfl
 | sl=>rfl
theorem Rep.val_iff {F:Fz}{v u:Value}:Rep F v (.val u)↔v=u∧u.oneCell'=true:=by
 constructor
 ·intro h;cases h with | val v h=>exact⟨rfl,h⟩
 ·rintro ⟨rfl,h⟩;exact .val _ h
inductive SV where
 | d (d:D)
 | agg (cs:List SV)
 | tup (cs:List SV)
 | ptr (r off:Nat)
 | hd (r:Nat)
 | fp (ds:List D)
 | rp (r sz i j:Nat)
 | clo (fn:Fn) (first cap:List SV)
 | rs (r sz i:Nat)
 | top
deriving Inhabited
structure Cx where
 θ:Nat→Value
 F:Fz
 N:Nat
structure Cx.le (c c':Cx):Prop where
 n:c.N≤c'.N
 t:∀ r,r<c.N→c'.θ r=c.θ r
 f:∀ b o,c.F b=some o→c'.F b=some o
theorem Cx.le.refl (c:Cx):c.le c:=⟨qQ _,fun _ _=>rfl,fun _ _ h=>h⟩
theorem Cx.le.trans {a b c:Cx}(h:a.le b)(k:b.le c):a.le c :=
 ⟨Nat.le_trans h.n k.n,fun r hr=>(k.t r (zC hr h.n)).trans (h.t r hr),fun b o hb=>k.f b o (h.f b o hb)⟩
def RsVal (row:Value)(sz i:Nat)(v:Value):Prop:=∃ ad n cap,row=.slice ad n cap∧i≤n∧v=.slice (if cap=i then ad else ad.map (·.add (i * sz))) (n - i) (cap - i)
inductive Rel (c:Cx):SV→Value→Prop where
 | d {v:Value} {d:D} (h:Rep c.F v d):Rel c (.d d) v
 | agg {cs:List SV} {us:Array Value} (hl:us.size=cs.length) (h:∀ (i:Nat) s u,cs[i]?=some s→us[i]?=some u→Rel c s u):Rel c (.agg cs) (.agg us)
 | tup {cs:List SV} {us:Array Value} (hl:us.size=cs.length) (h:∀ (i:Nat) s u,cs[i]?=some s→us[i]?=some u→Rel c s u):Rel c (.tup cs) (.tuple us)
 | ptr {r off b:Nat} (hr:r<c.N) (h:c.θ r=.pointer (some ⟨b,0,none⟩)):Rel c (.ptr r off) (.pointer (some ⟨b,off,none⟩))
 | hd {r:Nat} {v:Value} (hr:r<c.N) (h:c.θ r=v):Rel c (.hd r) v
 | fp {b off:Nat} {cs:Array Value} {e:TypeId} {fr:Nat×Nat} {ds:List D} (hF:c.F b=some (.cells cs e fr))
   (h:∀ (j:Nat) d,ds[j]?=some d→∃ u,cs[off+j]?=some u∧Rep c.F u d):Rel c (.fp ds) (.pointer (some ⟨b,off,none⟩))
 | rp {r sz i j b n cap:Nat} (hr:r<c.N) (h:c.θ r=.slice (some ⟨b,0,none⟩) n cap):Rel c (.rp r sz i j) (.pointer (some ⟨b,i * sz+j,none⟩))
 | clo {fn:Fn} {fs cs:List SV} {us vs:Array Value} (hl:us.size=fs.length) (h:∀ (i:Nat) s u,fs[i]?=some s→us[i]?=some u→Rel c s u)
   (hl':vs.size=cs.length) (h':∀ (i:Nat) s u,cs[i]?=some s→vs[i]?=some u→Rel c s u):Rel c (.clo fn fs cs) (.func fn us vs)
 | rs {r sz i:Nat} {v:Value} (hr:r<c.N) (h:RsVal (c.θ r) sz i v):Rel c (.rs r sz i) v
 | top (v:Value):Rel c .top v
theorem Rel.mono {c c':Cx}(hle:c.le c'){s:SV}{v:Value}(h:Rel c s v):Rel c' s v:=by
 induction h with
 | d h=>exact .d (h.mono hle.f)
 | agg hl _ ih=>exact .agg hl ih
 | tup hl _ ih=>exact .tup hl ih
 | ptr hr h=>exact .ptr (zC hr hle.n) ((hle.t _ hr).trans h)
 | hd hr h=>exact .hd (zC hr hle.n) ((hle.t _ hr).trans h)
 | fp hF h=>exact .fp (hle.f _ _ hF) (fun j d hj=>let ⟨u,h1,h2⟩:=h j d hj;⟨u,h1,h2.mono hle.f⟩)
 | rp hr h=>exact .rp (zC hr hle.n) ((hle.t _ hr).trans h)
 | clo hl _ hl' _ ih ih'=>exact .clo hl ih hl' ih'
 | rs hr h=>exact .rs (zC hr hle.n) (by rw[hle.t _ hr];exact h)
 | top v=>exact .top v
def SV.one : SV→Bool
 | .d _ | .ptr .. | .hd _ | .fp _ | .rp .. | .clo .. | .rs ..=>true
 | _=>false
theorem Rel.one {c:Cx}(hθ:∀ r,(c.θ r).oneCell'=true){s:SV}{v:Value}(h:Rel c s v)(hs:s.one=true):v.oneCell'=true:=by
 cases h with
 | d h=>exact h.one
 | hd hr h=>subst h;exact hθ _
 | ptr | fp | rp | clo=>rfl
 | rs hr h=>obtain⟨_,_,_,_,_,rfl⟩:=h;rfl
 | agg | tup | top=>simp[SV.one] at hs
theorem Rel.val_iff {c:Cx}{v u:Value}:Rel c (.d (.val v)) u↔u=v∧v.oneCell'=true:=by
 constructor
 ·intro h;cases h with | d h=>exact Rep.val_iff.1 h
 ·rintro ⟨rfl,h⟩;exact .d (.val _ h)
theorem Rel.of_val {c:Cx}{v u:Value}(h:Rel c (.d (.val v)) u):u=v:=(Rel.val_iff.1 h).1
def RelL (c:Cx)(ss:List SV)(us:List Value):Prop:=us.length=ss.length∧∀ (i:Nat) s u,ss[i]?=some s→us[i]?=some u→Rel c s u
theorem RelL.nil {c:Cx}:RelL c [] []:=⟨rfl,fun i s u h=>by simp at h⟩
theorem RelL.cons {c:Cx}{s:SV}{u:Value}{ss:List SV}{us:List Value}(h:Rel c s u)(hs:RelL c ss us):RelL c (s::ss) (u::us) :=
 ⟨by simp[hs.1],fun i s' u' h1 h2=>by
  cases i with
  | zero=>simp at h1 h2;subst h1;subst h2;exact h
  | succ i=>simp at h1 h2;exact hs.2 i s' u' h1 h2⟩
theorem RelL.nil_iff {c:Cx}{us:List Value}:RelL c [] us↔us=[]:=⟨fun h=>List.eq_nil_of_length_eq_zero h.1,fun h=>h▸.nil⟩
theorem RelL.cons_iff {c:Cx}{s:SV}{ss:List SV}{us:List Value}:RelL c (s::ss) us↔∃ u us',us=u::us'∧Rel c s u∧RelL c ss us':=by
 constructor
 ·intro h
  cases us with
  | nil=>exact absurd h.1 (by simp)
  | cons u us=>exact⟨u,us,rfl,h.2 0 s u rfl rfl,by simpa using h.1,fun i s' u' h1 h2=>h.2 (i+1) s' u' (by simpa using h1) (by simpa using h2)⟩
 ·rintro ⟨u,us',rfl,h1,h2⟩;exact .cons h1 h2
theorem RelL.mono {c c':Cx}(hle:c.le c'){ss:List SV}{us:List Value}(h:RelL c ss us):RelL c' ss us:=⟨h.1,fun i s u h1 h2=>(h.2 i s u h1 h2).mono hle⟩
theorem RelL.append {c:Cx}{ss ss':List SV}{us us':List Value}(h:RelL c ss us)(h':RelL c ss' us'):RelL c (ss++ss') (us++us'):=by
 induction ss generalizing us with
 | nil=>rw[RelL.nil_iff.1 h];exact h'
 | cons s ss ih=>obtain⟨u,us1,rfl,h1,h2⟩:=RelL.cons_iff.1 h;exact .cons h1 (ih h2)
theorem Rel.agg_iff {c:Cx}{cs:List SV}{v:Value}:Rel c (.agg cs) v↔∃ us:List Value,v=.agg us.toArray∧RelL c cs us:=by
 constructor
 ·intro h;cases h with | @agg _ us hl h=>exact⟨us.toList,by simp,by simpa using hl,fun i s u h1 h2=>h i s u h1 (by simpa using h2)⟩
 ·rintro ⟨us,rfl,hl,h⟩;exact .agg (by simpa using hl) (fun i s u h1 h2=>h i s u h1 (by simpa using h2))
theorem Rel.tup_iff {c:Cx}{cs:List SV}{v:Value}:Rel c (.tup cs) v↔∃ us:List Value,v=.tuple us.toArray∧RelL c cs us:=by
 constructor
 ·intro h;cases h with | @tup _ us hl h=>exact⟨us.toList,by simp,by simpa using hl,fun i s u h1 h2=>h i s u h1 (by simpa using h2)⟩
 ·rintro ⟨us,rfl,hl,h⟩;exact .tup (by simpa using hl) (fun i s u h1 h2=>h i s u h1 (by simpa using h2))
theorem Rel.clo_iff {c:Cx}{fn:Fn}{fs cs:List SV}{v:Value}:Rel c (.clo fn fs cs) v↔∃ us vs:List Value,v=.func fn us.toArray vs.toArray∧RelL c fs us∧RelL c cs vs:=by
 constructor
 ·intro h;cases h with | @clo _ _ _ us vs hl h hl' h'=>exact⟨us.toList,vs.toList,by simp,⟨by simpa using hl,fun i s u h1 h2=>h i s u h1 (by simpa using h2)⟩,⟨by simpa using hl',fun i s u h1 h2=>h' i s u h1 (by simpa using h2)⟩⟩
 ·rintro ⟨us,vs,rfl,⟨hl,h⟩,⟨hl',h'⟩⟩;exact .clo (by simpa using hl) (fun i s u h1 h2=>h i s u h1 (by simpa using h2)) (by simpa using hl') (fun i s u h1 h2=>h' i s u h1 (by simpa using h2))
inductive CK where
 | int
 | bool
 | str
deriving Inhabited, DecidableEq
def CK.ok : CK→Value→Bool
 | .int,.int .i64 _=>true
 | .bool,.bool _=>true
 | .str,.string _=>true
 | _,_=>false
def okL : List CK→List Value→Bool
 | [],[]=>true
 | k::ks,v::vs=>k.ok v&&okL ks vs
 | _,_=>false
inductive MK where
 | int (q:IntKind)
 | str
 | bool
 | agg (ks:List CK)
deriving Inhabited, DecidableEq
def MK.desc : MK→TypeDesc
 | .int q=>.int q
 | .str=>.string
 | .bool=>.bool
 | .agg _=>.bool
def MK.ok : MK→Value→Bool
 | .int q,.int q' _=>decide (q'=q)
 | .str,.string _=>true
 | .bool,.bool _=>true
 | .agg ks,.agg us=>okL ks us.toList
 | _,_=>false
def MVal (F:Fz)(agg:Bool)(ds:List D)(u:Value):Prop :=
 if agg then ∃ us:Array Value,u=.agg us∧us.size=ds.length∧∀ (j:Nat) d,ds[j]?=some d→∃ x,us[j]?=some x∧Rep F x d else ∃ d,ds=[d]∧Rep F u d
theorem MVal.mono {F F':Fz}(h:∀ b o,F b=some o→F' b=some o){agg:Bool}{ds:List D}{u:Value}(r:MVal F agg ds u):MVal F' agg ds u:=by
 unfold MVal at *;split
 ·rw[if_pos (by assumption)] at r;obtain⟨us,h1,h2,h3⟩:=r;exact⟨us,h1,h2,fun j d hj=>let ⟨x,k1,k2⟩:=h3 j d hj;⟨x,k1,k2.mono h⟩⟩
 ·rw[if_neg (by assumption)] at r;obtain⟨d,h1,h2⟩:=r;exact⟨d,h1,h2.mono h⟩
inductive Res where
 | gone
 | fz (es:List (List D))
 | cells (cs:List SV) (ty:TypeId)
 | row (ty:TypeId) (sz:Nat) (es:List (List D))
 | fzc (ds:List D)
 | mp (mk:MK) (agg:Bool) (es:List (Value×List D))
 | mpf (mk:MK) (es:List (Value×SV))
deriving Inhabited
def Res.live : Res→Bool
 | .gone | .fz _ | .fzc _=>false
 | _=>true
def blkOf : Value→Option Nat
 | .pointer (some a)=>some a.block
 | .slice (some a) _ _=>some a.block
 | .map (some b)=>some b
 | _=>none
def ResOk (c:Cx)(w:World)(v:Value):Res→Prop
 | .gone=>True
 | .fz es=>Rep c.F v (.sl es)
 | .fzc ds=>Rel c (.fp ds) v
 | .cells cs ty=>∃ b us,v=.pointer (some ⟨b,0,none⟩)∧w.heap[b]?=some (.cells us ty (0,0))∧us.size=cs.length ∧
   ∀ (i:Nat) s,cs[i]?=some s→∃ u,us[i]?=some u∧u.oneCell'=true∧Rel c s u
 | .row ty sz es=>(∀ ds∈es,ds.length=sz)∧∃ us,w.ownsRow 0 ty sz v es.length us∧∀ (j:Nat) d,es.flatten[j]?=some d→∃ u,us[j]?=some u∧Rep c.F u d
 | .mpf mk es=>∃ b ms clock,v=.map (some b)∧w.heap[b]?=some (.map ms clock)∧ms.size=es.length ∧
   ∀ (i:Nat) k s,es[i]?=some (k,s)→mk.ok k=true∧∃ m,ms[i]?=some m∧m.key=k∧Rel c s m.val
 | .mp mk agg es=>∃ b ms clock,v=.map (some b)∧(w.heap[b]?=some (.map ms clock)∧MapKept.Stamped ms clock)∧ms.size=es.length ∧
   ∀ (i:Nat) k ds,es[i]?=some (k,ds)→mk.ok k=true∧∃ m,ms[i]?=some m∧m.key=k∧MVal c.F agg ds m.val
class Tabs where
 ok:Fz→Prop
 mono:∀ {F F':Fz},(∀ b o,F b=some o→F' b=some o)→ok F→ok F'
variable [Tabs]
structure Sat (c:Cx)(own:List Res)(w:World):Prop where
 n:own.length=c.N
 res:∀ (r:Nat) x,own[r]?=some x→ResOk c w (c.θ r) x
 apart:∀ (r s:Nat) x y b,own[r]?=some x→own[s]?=some y→x.live=true→y.live=true→blkOf (c.θ r)=some b→blkOf (c.θ s)=some b→r=s
 notF:∀ (r:Nat) x b,own[r]?=some x→x.live=true→blkOf (c.θ r)=some b→c.F b=none
 le:∀ b o,c.F b=some o→w.heap[b]?=some o
 one:∀ r,(c.θ r).oneCell'=true
 tab:Tabs.ok c.F
def Own (c:Cx)(own:List Res)(b:Nat):Prop:=∃ (r:Nat)(x:Res),own[r]?=some x∧x.live=true∧blkOf (c.θ r)=some b
structure Goes (c:Cx)(own:List Res)(w:World)(c':Cx)(own':List Res)(w':World):Prop where
 os:w'.os=w.os
 tape:w'.tape=w.tape
 output:w'.output=w.output
 size:w.heap.size≤w'.heap.size
 keep:∀ b,b<w.heap.size→¬ Own c own b→w'.heap[b]?=w.heap[b]?
 newF:∀ b,c'.F b≠none→c.F b≠none∨w.heap.size≤b∨Own c own b
 newO:∀ b,Own c' own' b→Own c own b∨w.heap.size≤b
 f:∀ b o,c.F b=some o→c'.F b=some o
theorem Goes.refl (c:Cx)(own:List Res)(w:World):Goes c own w c own w :=
 ⟨rfl,rfl,rfl,qQ _,fun _ _ _=>rfl,fun _ h=>.inl h,fun _ h=>.inl h,fun _ _ h=>h⟩
theorem Goes.trans {c c1 c2:Cx}{o o1 o2:List Res}{w w1 w2:World}(h:Goes c o w c1 o1 w1)(k:Goes c1 o1 w1 c2 o2 w2):Goes c o w c2 o2 w2 where
 os:=k.os.trans h.os
 tape:=k.tape.trans h.tape
 output:=k.output.trans h.output
 size:=Nat.le_trans h.size k.size
 keep b hb hn:=by
  rw[k.keep b (zC hb h.size) (fun ho=>by rcases h.newO b ho with h1 | h1;exact hn h1;omega),h.keep b hb hn]
 newF b hb:=by
  rcases k.newF b hb with h1 | h1 | h1
  ·exact h.newF b h1
  ·exact .inr (.inl (Nat.le_trans h.size h1))
  ·rcases h.newO b h1 with h2 | h2
   ·exact .inr (.inr h2)
   ·exact .inr (.inl h2)
 newO b hb:=by
  rcases k.newO b hb with h1 | h1
  ·exact h.newO b h1
  ·exact .inr (Nat.le_trans h.size h1)
 f b o hb:=k.f b o (h.f b o hb)
theorem Sat.blk_lt {c:Cx}{own:List Res}{w:World}(h:Sat c own w){b:Nat}(hb:Own c own b):b<w.heap.size:=by
 obtain⟨r,x,hx,hl,hbk⟩:=hb;have hr:=h.res r x hx
 cases x with
 | gone=>simp[Res.live] at hl
 | fz=>simp[Res.live] at hl
 | fzc=>simp[Res.live] at hl
 | cells cs ty =>
  obtain⟨b',us,hv,hw,_⟩:=hr;rw[hv] at hbk;simp[blkOf] at hbk;subst hbk;exact(qB.1 hw).1
 | mp mk agg es =>
  obtain⟨b',ms,clock,hv,⟨hw,_⟩,_⟩:=hr;rw[hv] at hbk;simp[blkOf] at hbk;subst hbk;exact(qB.1 hw).1
 | mpf mk es =>
  obtain⟨b',ms,clock,hv,hw,_⟩:=hr;rw[hv] at hbk;simp[blkOf] at hbk;subst hbk;exact(qB.1 hw).1
 | row ty sz es =>
  obtain⟨_,us,⟨_,hv⟩,_⟩:=hr;rcases hv with ⟨hv,_⟩ | ⟨g,cap,cur,hv,_,hw,_⟩
  ·rw[hv] at hbk;simp[blkOf] at hbk
  ·rw[hv] at hbk;simp[blkOf] at hbk;subst hbk;exact(qB.1 hw).1
theorem Sat.F_lt {c:Cx}{own:List Res}{w:World}(h:Sat c own w){b:Nat}{o:Obj}(hb:c.F b=some o):b<w.heap.size :=
 (qB.1 (h.le b o hb)).1
theorem ResOk.keep {c c':Cx}{w w':World}{v:Value}{x:Res}(h:ResOk c w v x)(hle:c.le c')(hw:x.live=true→∀ b,blkOf v=some b→w'.heap[b]?=w.heap[b]?):ResOk c' w' v x:=by
 cases x with
 | gone=>trivial
 | fz es=>exact Rep.mono hle.f h
 | fzc ds=>exact Rel.mono hle h
 | mp mk agg es =>
  obtain⟨b,ms,clock,hv,hb,hs,hc⟩:=h;exact⟨b,ms,clock,hv,⟨by rw[hw rfl b (by rw[hv];rfl)];exact hb.1,hb.2⟩,hs,fun i k ds hi=>let ⟨h1,m,h2,h3,h4⟩:=hc i k ds hi;⟨h1,m,h2,h3,h4.mono hle.f⟩⟩
 | mpf mk es =>
  obtain⟨b,ms,clock,hv,hb,hs,hc⟩:=h;exact⟨b,ms,clock,hv,by rw[hw rfl b (by rw[hv];rfl)];exact hb,hs,fun i k s hi=>let ⟨h1,m,h2,h3,h4⟩:=hc i k s hi;⟨h1,m,h2,h3,h4.mono hle⟩⟩
 | cells cs ty =>
  obtain⟨b,us,hv,hb,hs,hc⟩:=h;exact⟨b,us,hv,by rw[hw rfl b (by rw[hv];rfl)];exact hb,hs,fun i s hi=>let ⟨u,h1,h2,h3⟩:=hc i s hi;⟨u,h1,h2,h3.mono hle⟩⟩
 | row ty sz es =>
  obtain⟨hd,us,⟨hn,hv⟩,hc⟩:=h;refine⟨hd,us,⟨hn,?_⟩,fun j d hj=>let ⟨u,h1,h2⟩:=hc j d hj;⟨u,h1,h2.mono hle.f⟩⟩;rcases hv with hv | ⟨g,cap,cur,hv,h0,hb,hr⟩
  ·exact .inl hv
  ·exact .inr ⟨g,cap,cur,hv,h0,by rw[hw rfl g (by rw[hv];rfl)];exact hb,hr⟩
theorem Sat.on {c c':Cx}{own:List Res}{w w':World}(h:Sat c own w)(hle:c.le c')(hN:c'.N=c.N)(hθ:∀ r,(c'.θ r).oneCell'=true)
  (hw:∀ b,b<w.heap.size→w'.heap[b]?=w.heap[b]?) (hF:∀ b o,c'.F b=some o→w'.heap[b]?=some o) (hnF:∀ b,c'.F b≠none→c.F b≠none∨w.heap.size≤b):Sat c' own w' where
 n:=h.n.trans hN.symm
 res r x hx:=by
  have hr:r<c.N:=by rw[← h.n];exact(qC.1 hx).1
  rw[hle.t r hr];exact(h.res r x hx).keep hle fun hl b hb=>hw b (h.blk_lt ⟨r,x,hx,hl,hb⟩)
 apart r s x y b hx hy hl hl' hb hb':=by
  have hr:r<c.N:=by rw[← h.n];exact(qC.1 hx).1
  have hs:s<c.N:=by rw[← h.n];exact(qC.1 hy).1
  rw[hle.t r hr] at hb;rw[hle.t s hs] at hb';exact h.apart r s x y b hx hy hl hl' hb hb'
 notF r x b hx hl hb:=by
  have hr:r<c.N:=by rw[← h.n];exact(qC.1 hx).1
  rw[hle.t r hr] at hb;have h0:=h.notF r x b hx hl hb
  cases hc:c'.F b with
  | none=>rfl
  | some o =>
   rcases hnF b (by simp[hc]) with h1 | h1
   ·exact absurd h0 h1
   ·have:=h.blk_lt ⟨r,x,hx,hl,hb⟩;omega
 le:=hF
 one:=hθ
 tab:=Tabs.mono hle.f h.tab
end Go.SX
namespace Go.SX
open Go
variable [Tabs]
def isAggB : TypeDesc→Bool
 | .struct _ | .array _ _=>true
 | _=>false
def ckeq : CK→Value→Value→Option Bool
 | .int,.int k a,.int k' b=>if k=k' then some (decide (a=b)) else none
 | .bool,.bool a,.bool b=>some (a == b)
 | .str,.string a,.string b=>some (a.toList == b.toList)
 | _,_,_=>none
def veqs : List CK→List Value→List Value→Option Bool
 | [],[],[]=>some true
 | k::ks,u::l,v::l'=>(match ckeq k u v,veqs ks l l' with | some a,some b=>some (a&&b) | _,_=>none)
 | _,_,_=>none
theorem veqs_len : ∀ {ks:List CK}{xs ys:List Value}{b:Bool},veqs ks xs ys=some b→xs.length=ks.length∧ys.length=ks.length
 | [],[],[],_,_=>⟨rfl,rfl⟩
 | [],[],_::_,_,h=>by simp[veqs] at h
 | [],_::_,_,_,h=>by simp[veqs] at h
 | _::_,[],_,_,h=>by simp[veqs] at h
 | _::_,_::_,[],_,h=>by simp[veqs] at h
 | k::ks,u::l,v::l',b,h=>by
  simp only[veqs] at h;split at h
  ·rename_i h1 h2;have:=veqs_len h2;simp[this.1,this.2]
  ·cases h
theorem veqs_split : ∀ {k1 k2:List CK}{xs ys:List Value}{b:Bool},veqs (k1++k2) xs ys=some b→∃ b1 b2,veqs k1 (xs.take k1.length) (ys.take k1.length)=some b1∧veqs k2 (xs.drop k1.length) (ys.drop k1.length)=some b2∧b=(b1&&b2)
 | [],k2,xs,ys,b,h=>⟨true,b,by simp[veqs],by simpa using h,by simp⟩
 | k::k1,k2,[],_,b,h=>by simp[veqs] at h
 | k::k1,k2,_::_,[],b,h=>by simp[veqs] at h
 | k::k1,k2,u::l,v::l',b,h=>by
  simp only[List.cons_append,veqs] at h;split at h
  ·rename_i a b' h1 h2;cases h;obtain⟨b1,b2,m1,m2,rfl⟩:=veqs_split h2;exact⟨a&&b1,b2,by simp[veqs,h1,m1],by simpa using m2,by rw[Bool.and_assoc]⟩
  ·cases h
section
variable (P:Program)
def eqFs (g:TypeId→Option (List CK)):List Field→Nat→Option (List CK)
 | [],_=>some []
 | f::fs,off=>if f.name ≠ "_" ∧ f.offset=off∧(P.info? f.type).isSome=true then (match g f.type with | some k=>if P.cellsOf f.type=k.length then (match eqFs g fs (off+k.length) with | some r=>some (k++r) | none=>none) else none | none=>none) else none
def repK (k:List CK):Nat→List CK
 | 0=>[]
 | n+1=>k++repK k n
def eqT : Nat→TypeId→Option (List CK)
 | 0,_=>none
 | d+1,t =>
  match P.underlying t with
  | some .bool=>some [.bool]
  | some (.int _)=>some [.int]
  | some .string=>some [.str]
  | some (.array n e)=>if (P.info? e).isSome=true then (match eqT d e with | some k=>if P.cellsOf e=k.length then some (repK k n) else none | none=>none) else none
  | some (.struct fs)=>if P.stoodInHeld t=false∧P.eqGuardType P.depth t=false then eqFs P (eqT d) fs.toList 0 else none
  | _=>none
def vOf (t:TypeId)(xs:List Value):Value :=
 match P.underlying t with
 | some (.struct _) | some (.array _ _)=>.agg xs.toArray
 | _=>xs.headD (.bool false)
end
section
variable {P:Program}(w:World)
theorem eqT_one {d:Nat}{t:TypeId}{ks:List CK}(h:eqT P (d+1) t=some ks):(P.underlying t=some .bool∧ks=[.bool])∨((∃ q,P.underlying t=some (.int q))∧ks=[.int])∨(P.underlying t=some .string∧ks=[.str]) ∨
  (∃ n e k,P.underlying t=some (.array n e)∧(P.info? e).isSome=true∧eqT P d e=some k∧P.cellsOf e=k.length∧ks=repK k n) ∨
  (∃ fs,P.underlying t=some (.struct fs)∧P.stoodInHeld t=false∧P.eqGuardType P.depth t=false∧eqFs P (eqT P d) fs.toList 0=some ks):=by
 unfold eqT at h;split at h
 ·rename_i hu;cases h;exact .inl ⟨hu,rfl⟩
 ·rename_i q hu;cases h;exact .inr (.inl ⟨⟨q,hu⟩,rfl⟩)
 ·rename_i hu;cases h;exact .inr (.inr (.inl ⟨hu,rfl⟩))
 ·rename_i n e hu;split at h
  ·rename_i hi;split at h
   ·rename_i k hk;split at h
    ·rename_i hc;cases h;exact .inr (.inr (.inr (.inl ⟨n,e,k,hu,hi,hk,hc,rfl⟩)))
    ·cases h
   ·cases h
  ·cases h
 ·rename_i fs hu;split at h
  ·rename_i hs;exact .inr (.inr (.inr (.inr ⟨fs,hu,hs.1,hs.2,h⟩)))
  ·cases h
 ·cases h
theorem run_part_v {t:TypeId}{d off:Nat}{ks:List CK}{xs:List Value}(ht:eqT P d t=some ks)(hi:(P.info? t).isSome=true)(hn:P.cellsOf t=ks.length)(hl:off+ks.length≤xs.length) :
  (part t xs.toArray off).run P w=.ok (vOf P t ((xs.drop off).take ks.length)) w:=by
 obtain⟨i,hi⟩:=Option.isSome_iff_exists.1 hi
 cases d with
 | zero=>simp[eqT] at ht
 | succ d =>
  have agg:(∃ m e,P.underlying t=some (.array m e))∨(∃ fs,P.underlying t=some (.struct fs))→(part t xs.toArray off).run P w=.ok (vOf P t ((xs.drop off).take ks.length)) w:=by
   intro hk;have hl:(xs.toArray.extract off (off+P.cellsOf t))=((xs.drop off).take ks.length).toArray:=by
    apply Array.ext';rw[Array.toList_extract];simp[List.extract,hn]
   rcases hk with ⟨m,e,hu⟩ | ⟨fs,hu⟩<;>simp only[part,isAgg,run_underlying hu,run_sizeOf w hi,vOf,hu,qG,qF,Sem.run_pure,hl]<;>simp[hu,run_underlying hu,run_sizeOf w hi,hl]<;>rw[hn]
  have one:ks.length=1→(P.underlying t=some .bool∨(∃ k,P.underlying t=some (.int k))∨P.underlying t=some .string)→(part t xs.toArray off).run P w=.ok (vOf P t ((xs.drop off).take ks.length)) w:=by
   intro h1 hk;rw[h1] at hl ⊢;have hlt:off<xs.length:=by omega
   have e2:(xs.drop off).take 1=[xs[off]]:=by rw[List.drop_eq_getElem_cons hlt];rfl
   rcases hk with hu | ⟨k,hu⟩ | hu<;>simp[part,isAgg,run_underlying hu,vOf,hu,e2,hlt]
  rcases eqT_one ht with ⟨hu,rfl⟩ | ⟨⟨q,hu⟩,rfl⟩ | ⟨hu,rfl⟩ | ⟨n,e,k,hu,_⟩ | ⟨fs,hu,_⟩
  ·exact one rfl (.inl hu)
  ·exact one rfl (.inr (.inl ⟨q,hu⟩))
  ·exact one rfl (.inr (.inr hu))
  ·exact agg (.inl ⟨n,e,hu⟩)
  ·exact agg (.inr ⟨fs,hu⟩)
def EqV (P:Program)(d:Nat):Prop:=∀ (t:TypeId)(ks:List CK),eqT P d t=some ks→∀ (w:World)(e:Nat)(xs ys:List Value)(b:Bool),veqs ks xs ys=some b→(Op.equalIn (e+d) t (vOf P t xs) (vOf P t ys)).run P w=.ok b w
theorem run_eqFs {d:Nat}(IH:EqV P d)(e:Nat)(xs ys:List Value):∀ (fs:List Field)(off:Nat)(ks:List CK)(b:Bool),eqFs P (eqT P d) fs off=some ks→veqs ks (xs.drop off) (ys.drop off)=some b→off≤xs.length→off≤ys.length →
  (Op.eqFields (e+d) xs.toArray ys.toArray fs).run P w=.ok b w
 | [],off,ks,b,h,hv,_,_=>by
  simp only[eqFs] at h;cases h;have hb:b=true:=by
   cases hx:xs.drop off<;>cases hy:ys.drop off<;>rw[hx,hy] at hv<;>simp[veqs] at hv
   first | exact hv.symm | exact hv | (rw[← hv])
  subst hb;simp[Op.eqFields]
 | f::fs,off,ks,b,h,hv,ho,ho'=>by
  simp only[eqFs] at h;split at h
  ·rename_i hf;obtain⟨hn,rfl,hi⟩:=hf;split at h
   ·rename_i k hk;split at h
    ·rename_i hc;split at h
     ·rename_i r hr;cases h;have hl:=veqs_len hv;simp only[List.length_drop,qP] at hl;obtain⟨b1,b2,k1,k2,rfl⟩:=veqs_split hv;rw[List.drop_drop,List.drop_drop] at k2;have p1:=run_part_v w (xs:=xs) (off:=f.offset) hk hi hc (by omega);have p2:=run_part_v w (xs:=ys) (off:=f.offset) hk hi hc (by omega);have p3:=IH f.type k hk w e _ _ b1 k1;have p4:=run_eqFs IH e xs ys fs (f.offset+k.length) r b2 hr k2 (by omega) (by omega);simp only[Op.eqFields,hn,ne_eq,not_false_eq_true,if_true,qG,p1,p2,p3,qF];cases b1
      ·simp
      ·simpa using p4
     ·cases h
    ·cases h
   ·cases h
  ·cases h
theorem run_eqIs {d:Nat}(IH:EqV P d)(e:Nat){t:TypeId}{k:List CK}(ht:eqT P d t=some k)(hi:(P.info? t).isSome=true)(hc:P.cellsOf t=k.length)(xs ys:List Value):∀ (m j:Nat)(b:Bool),veqs (repK k m) (xs.drop (j * k.length)) (ys.drop (j * k.length))=some b→j * k.length≤xs.length→j * k.length≤ys.length →
  (Op.eqItems (e+d) t (P.cellsOf t) xs.toArray ys.toArray (List.range' j m)).run P w=.ok b w
 | 0,j,b,hv,_,_=>by
  have hb:b=true:=by
   cases hx:xs.drop (j * k.length)<;>cases hy:ys.drop (j * k.length)<;>rw[hx,hy] at hv<;>simp[repK,veqs] at hv
   first | exact hv.symm | exact hv | (rw[← hv])
  subst hb;simp[Op.eqItems]
 | m+1,j,b,hv,ho,ho'=>by
  simp only[repK] at hv;have hl:=veqs_len hv;simp only[List.length_drop,qP] at hl;obtain⟨b1,b2,k1,k2,rfl⟩:=veqs_split hv;rw[List.drop_drop,List.drop_drop] at k2;have ej:j * k.length+k.length=(j+1) * k.length:=by rw[Nat.add_mul];omega
  rw[ej] at k2;have p1:=run_part_v w (xs:=xs) (off:=j * k.length) ht hi hc (by omega);have p2:=run_part_v w (xs:=ys) (off:=j * k.length) ht hi hc (by omega);have p3:=IH t k ht w e _ _ b1 k1;have p4:=run_eqIs IH e ht hi hc xs ys m (j+1) b2 k2 (by omega) (by omega);rw[hc] at p4 ⊢;simp only[List.range'_succ,Op.eqItems,qG,p1,p2,p3,qF];cases b1
  ·simp
  ·simpa using p4
theorem eqV_all (d:Nat):EqV P d:=by
 induction d with
 | zero=>intro t n h;simp[eqT] at h
 | succ d ih =>
  intro t ks ht w e xs ys b hv;rw[show e+(d+1)=(e+d)+1 by omega];have one:∀ {c:CK},veqs [c] xs ys=some b→∃ u v,xs=[u]∧ys=[v]∧ckeq c u v=some b:=by
   intro c hv;have hl:=veqs_len hv;obtain⟨u,rfl⟩:=List.length_eq_one_iff.1 hl.1;obtain⟨v,rfl⟩:=List.length_eq_one_iff.1 hl.2;refine⟨u,v,rfl,rfl,?_⟩;simp only[veqs] at hv
   cases h:ckeq c u v with
   | none=>simp[h] at hv
   | some a=>simp[h] at hv;rw[hv]
  rcases eqT_one ht with ⟨hu,rfl⟩ | ⟨⟨q,hu⟩,rfl⟩ | ⟨hu,rfl⟩ | ⟨n,e',k,hu,hi,hk,hc,rfl⟩ | ⟨fs,hu,hs,_,hf⟩
  ·obtain⟨u,v,rfl,rfl,h⟩:=one hv;simp only[vOf,hu,List.headD_cons];cases u<;>cases v<;>simp[ckeq] at h;subst h;exact run_equalIn_bool w (e+d) t _ _ hu
  ·obtain⟨u,v,rfl,rfl,h⟩:=one hv;simp only[vOf,hu,List.headD_cons];cases u<;>cases v<;>simp[ckeq] at h;obtain⟨rfl,rfl⟩:=h;rw[run_equalIn_int w (e+d) t _ _ _ _ hu];rfl
  ·obtain⟨u,v,rfl,rfl,h⟩:=one hv;simp only[vOf,hu,List.headD_cons];cases u<;>cases v<;>simp[ckeq] at h;subst h;exact run_equalIn_string w (e+d) t _ _ hu
  ·obtain⟨i,hi'⟩:=Option.isSome_iff_exists.1 hi;simp only[vOf,hu];rw[run_equalIn_array w (e+d) xs.toArray ys.toArray hu hi',List.range_eq_range'];exact run_eqIs w ih e hk hi hc xs ys n 0 b (by simpa using hv) (by simp) (by simp)
  ·have hu':P.underlying t=some (.struct (P.fieldsOf t)):=by simp[Program.fieldsOf,hu]
   have hff:P.fieldsOf t=fs:=by simp[Program.fieldsOf,hu]
   simp only[vOf,hu];rw[run_equalIn_struct w (e+d) t _ _ hu' hs,hff];exact run_eqFs w ih e xs ys fs.toList 0 ks b hf (by simpa using hv) (by simp) (by simp)
end
theorem run_eq_agg {P:Program}{w:World}{t:TypeId}{d:Nat}{ks:List CK}{xs ys:List Value}{b:Bool}(hd:d≤10000)(ht:eqT P d t=some ks)(hu:isAggB ((P.underlying t).getD .bool)=true)(hv:veqs ks xs ys=some b) :
  (Op.equal t (.agg xs.toArray) (.agg ys.toArray)).run P w=.ok b w:=by
 have h:=eqV_all d t ks ht w (10000 - d) xs ys b hv;rw[show 10000 - d+d=10000 by omega] at h;have:∀ zs,vOf P t zs=.agg zs.toArray:=fun zs=>by
  unfold vOf
  cases hq:P.underlying t with
  | none=>rw[hq] at hu;simp[isAggB] at hu
  | some q=>rw[hq] at hu;cases q<;>simp[isAggB] at hu<;>rfl
 rw[this,this] at h;exact h
end Go.SX
namespace Go.SX
open Go
variable [Tabs]
def geti : List SV→Nat→SV
 | [],_=>.top
 | v::_,0=>v
 | _::l,n+1=>geti l n
def seti : List SV→Nat→SV→List SV
 | [],_,_=>[]
 | _::l,0,v=>v::l
 | a::l,n+1,v=>a::seti l n v
def getr : List Res→Nat→Res
 | [],_=>.gone
 | v::_,0=>v
 | _::l,n+1=>getr l n
def setr : List Res→Nat→Res→List Res
 | [],_,_=>[]
 | _::l,0,v=>v::l
 | a::l,n+1,v=>a::setr l n v
theorem geti_eq (l:List SV)(n:Nat):geti l n=(l[n]?).getD .top:=by
 induction l generalizing n with
 | nil=>simp[geti]
 | cons a l ih=>cases n with
  | zero=>simp[geti]
  | succ n=>simp[geti,ih]
theorem seti_eq (l:List SV)(n:Nat)(v:SV):seti l n v=l.set n v:=by
 induction l generalizing n with
 | nil=>simp[seti]
 | cons a l ih=>cases n with
  | zero=>simp[seti]
  | succ n=>simp[seti,ih]
theorem getr_eq (l:List Res)(n:Nat):getr l n=(l[n]?).getD .gone:=by
 induction l generalizing n with
 | nil=>simp[getr]
 | cons a l ih=>cases n with
  | zero=>simp[getr]
  | succ n=>simp[getr,ih]
theorem setr_eq (l:List Res)(n:Nat)(v:Res):setr l n v=l.set n v:=by
 induction l generalizing n with
 | nil=>simp[setr]
 | cons a l ih=>cases n with
  | zero=>simp[setr]
  | succ n=>simp[setr,ih]
def cval : Value→SV
 | .agg cs=>.agg (cs.toList.map fun c=>if c.oneCell' then .d (.val c) else .top)
 | .tuple cs=>if cs.size=0 then .tup [] else .top
 | v=>.d (.val v)
def ev (env:List SV):Operand→SV
 | .tmp t=>geti env t
 | .const v=>cval v
 | .func f=>.clo (.func f) [] []
 | .global _=>.top
structure EnvOk (c:Cx)(env:List SV)(a:Act):Prop where
 size:a.tmps.size=env.length
 rel:∀ (i:Nat) s u,env[i]?=some s→a.tmps[i]?=some u→Rel c s u
theorem cval_rel (c:Cx)(v:Value):Rel c (cval v) v:=by
 cases v with
 | agg cs =>
  refine .agg (by simp) fun i s u hs hu=>?_
  simp at hs;obtain⟨x,hx,hs⟩:=hs;rw[hx] at hu;cases hu;split at hs
  ·subst hs;exact .d (.val _ (by assumption))
  ·subst hs;exact .top _
 | tuple cs =>
  simp only[cval];split
  ·rename_i h;refine .tup (by simpa using h) fun i s u hs hu=>by simp at hs
  ·exact .top _
 | _=>exact .d (.val _ rfl)
theorem ev_rel {c:Cx}{env:List SV}{a:Act}(h:EnvOk c env a)(x:Operand):Rel c (ev env x) (a.eval x):=by
 cases x with
 | tmp t =>
  show Rel c (geti env t) (a.tmps.getD t undef);rw[geti_eq]
  cases ht:env[t]? with
  | none=>exact .top _
  | some s =>
   have hlt:t<env.length:=(qC.1 ht).1;have hl2:t<a.tmps.size:=by rw[h.size];exact hlt
   have:a.tmps[t]?=some (a.tmps.getD t undef):=by simp[Array.getD,hl2]
   exact h.rel t s _ ht this
 | const v=>exact cval_rel c v
 | func f=>exact .clo (by simp) (fun i s u hs=>by simp at hs) (by simp) (fun i s u hs=>by simp at hs)
 | global g=>exact .top _
theorem rels_map {c:Cx}{e:Operand→SV}{a:Act}(h:∀ x,Rel c (e x) (a.eval x))(xs:List Operand):RelL c (xs.map e) (xs.map a.eval) :=
 ⟨by simp,fun i s u hs hu=>by
  simp at hs hu;obtain⟨x,hx,rfl⟩:=hs;obtain⟨y,hy,rfl⟩:=hu;rw[hx] at hy;cases hy;exact h x⟩
def nrm (own:List Res):SV→SV
 | .hd r=>(match getr own r with | .fz es=>.d (.sl es) | _=>.hd r)
 | .ptr r k=>(match getr own r with | .fzc ds=>.fp (ds.drop k) | _=>.ptr r k)
 | s=>s
def evn (own:List Res)(env:List SV)(x:Operand):SV:=nrm own (ev env x)
theorem nrm_rel {c:Cx}{own:List Res}{w:World}(hS:Sat c own w){s:SV}{u:Value}(h:Rel c s u):Rel c (nrm own s) u:=by
 unfold nrm;split
 ·rename_i r;split
  ·rename_i es hg;rw[getr_eq] at hg
   cases hx:own[r]? with
   | none=>simp[hx] at hg
   | some y =>
    simp[hx] at hg;subst hg;have:=hS.res r _ hx;cases h with | hd hr hv=>rw[← hv];exact .d this
  ·exact h
 ·rename_i r k;split
  ·rename_i ds hg;rw[getr_eq] at hg
   cases hx:own[r]? with
   | none=>simp[hx] at hg
   | some y =>
    simp[hx] at hg;subst hg;have:=hS.res r _ hx
    cases h with
    | ptr hr hv =>
     rw[hv] at this
     cases this with
     | fp hF hh =>
      refine .fp hF fun j d hj=>?_
      rw[List.getElem?_drop] at hj;obtain⟨u,h1,h2⟩:=hh (k+j) d hj;exact⟨u,by rw[← h1];simp,h2⟩
  ·exact h
 ·exact h
theorem EnvOk.put {c:Cx}{env:List SV}{a:Act}(h:EnvOk c env a){d:Nat}{s:SV}{u:Value}(hr:Rel c s u):EnvOk c (seti env d s) (a.put (some d) u):=by
 rw[seti_eq];refine⟨by simp[Act.put,h.size],fun i t v hi hv=>?_⟩;simp only[Act.put] at hv;rw[Array.getElem?_setIfInBounds] at hv;rw[List.getElem?_set] at hi;by_cases hd:d=i
 ·subst hd;simp only[if_true] at hi hv;split at hi<;>simp at hi;split at hv<;>simp at hv;subst hi;subst hv;exact hr
 ·rw[if_neg hd] at hi hv;exact h.rel i t v hi hv
def putE (env:List SV):Option Nat→SV→List SV
 | some d,s=>seti env d s
 | none,_=>env
theorem EnvOk.putE {c:Cx}{env:List SV}{a:Act}(h:EnvOk c env a){d:Option Nat}{s:SV}{u:Value}(hr:Rel c s u):EnvOk c (putE env d s) (a.put d u):=by
 cases d with
 | none=>exact h
 | some d=>exact h.put hr
theorem EnvOk.mono {c c':Cx}(hle:c.le c'){env:List SV}{a:Act}(h:EnvOk c env a):EnvOk c' env a:=⟨h.size,fun i s u h1 h2=>(h.rel i s u h1 h2).mono hle⟩
inductive DOp where
 | mv (x:Operand)
 | pick (c a b:Operand)
 | bin (op:BinOp) (x y:Operand)
 | div (op:BinOp) (x y:Operand)
 | beq (neg:Bool) (ks:List CK) (x y:Operand)
 | fnil (neg:Bool) (x y:Operand)
 | snl (neg:Bool) (x:Operand)
 | capn (x:Operand)
 | mlen (x:Operand)
 | mdel (mk:MK) (x k:Operand)
 | pnil (neg:Bool) (x:Operand)
 | nope
 | un (op:UnOp) (x:Operand)
 | cvi (k:IntKind) (x:Operand)
 | fadd (off:Nat) (x:Operand)
 | fld (off sz:Nat) (agg:Bool) (x:Operand)
 | load (sz:Nat) (agg:Bool) (x:Operand)
 | store (sz:Nat) (x v:Operand)
 | alloc (ty:TypeId) (z:Value)
 | box (ty:TypeId) (x:Operand)
 | build (z:Value) (parts:List ((Nat×Nat)×Operand))
 | bslice (ty sz n:Nat) (z:Value) (parts:List (Nat×Operand))
 | idxA (sz:Nat) (x i:Operand)
 | idxP (len sz:Nat) (x i:Operand)
 | idxV (len sz:Nat) (agg:Bool) (x i:Operand)
 | idxS (x i:Operand)
 | b2s (x:Operand)
 | slc (sz:Nat) (x:Operand) (lo hi:Option Operand)
 | slcS (x:Operand) (lo hi:Option Operand)
 | len (str:Bool) (x:Operand)
 | app (ty sz bytes:Nat) (z:Value) (x y:Operand)
 | appz (ty sz bytes:Nat) (z:Value) (x y:Operand)
 | call (f:FuncId) (args:List Operand)
 | callv (x:Operand) (args:List Operand)
 | mkfn (fn:Fn) (first cap:List Operand)
 | mks (ty sz bytes:Nat) (z:Value) (l c:Operand)
 | ext (x:Operand) (i:Nat)
 | mm (mx:Bool) (x:Operand) (xs:List Operand)
 | nilck (x:Operand)
 | clr (sz:Nat) (z:Value) (x:Operand)
 | mkm (mk:MK) (agg:Bool)
 | mkf (mk:MK)
 | mset (mk:MK) (agg:Bool) (x k v:Operand)
 | mget (mk:MK) (agg ok:Bool) (z:Value) (x k:Operand)
deriving Inhabited
def aggEq (P:Program)(op:BinOp)(t:TypeId)(x y:Operand):Option DOp :=
 match eqT P 100 t with
 | some (k::ks)=>if isAggB ((P.underlying t).getD .bool)=true∧P.eqGuardType P.depth t=false then (match op with | .eql=>some (.beq false (k::ks) x y) | .neq=>some (.beq true (k::ks) x y) | _=>none) else none
 | _=>none
def sizeB (P:Program)(t:TypeId):Option Nat:=(P.info? t).map (·.size)
def zeroB (P:Program)(t:TypeId):Option Value:=(P.info? t).bind (·.zero)
def partsB (P:Program)(fs:Array Field):List (Nat×Operand)→Option (List ((Nat×Nat)×Operand))
 | []=>some []
 | (i,x)::l=>do
  let f ← fs[i]?
  let s ← sizeB P f.type
  let r ← partsB P fs l
  some (((f.offset,s),x)::r)
def noArr (P:Program):Nat→TypeId→Bool
 | 0,_=>false
 | d+1,t=>match P.underlying t with
  | some (.int _) | some .string | some .bool=>true
  | some (.struct fs)=>fs.toList.all fun f=>noArr P d f.type
  | _=>false
def mkOf (P:Program)(t:TypeId):Option MK :=
 match P.underlying t with
 | some (.int q)=>some (.int q)
 | some .string=>some .str
 | some .bool=>some .bool
 | some (.struct _)=>if noArr P 100 t=true then (match eqT P 100 t with | some (k::ks)=>some (.agg (k::ks)) | _=>none) else none
 | _=>none
def appzOp (P:Program)(u e:TypeId)(i:TypeInfo)(z:Value)(x y:Operand):Option DOp :=
 match P.underlying u with
 | some (.int .i64)=>if z.cells.size=i.size∧0<i.size then some (.appz e i.size i.bytes z x y) else none
 | _=>none
def shOp (op:BinOp)(x y:Operand):DOp:=match y with | .const _=>.bin op x y | _=>.div op x y
theorem shOp_or (op:BinOp)(x y:Operand):shOp op x y=.bin op x y∨shOp op x y=.div op x y:=by
 unfold shOp;split
 ·exact .inl rfl
 ·exact .inr rfl
def pnOp (op:BinOp)(x:Operand):Operand→Option DOp
 | .const (.pointer none)=>(match op with | .eql=>some (.pnil false x) | .neq=>some (.pnil true x) | _=>none)
 | _=>none
theorem pnOp_some {op:BinOp}{x y:Operand}{d:DOp}(h:pnOp op x y=some d):y=.const (.pointer none)∧((op=.eql∧d=.pnil false x)∨(op=.neq∧d=.pnil true x)):=by
 unfold pnOp at h;split at h
 ·cases op<;>simp at h
  ·exact⟨rfl,.inl ⟨rfl,h.symm⟩⟩
  ·exact⟨rfl,.inr ⟨rfl,h.symm⟩⟩
 ·cases h
def compOp (P:Program)(o:Op):Option DOp :=
 match o with
 | .move x | .assign x=>some (.mv x)
 | .pick c a b=>some (.pick c a b)
 | .binOp op t x y _ =>
  match P.underlying t with
  | some .bool=>(match op with | .eql=>some (.beq false [] x y) | .neq=>some (.beq true [] x y) | _=>none)
  | some (.func ..)=>(match op with | .eql=>some (.fnil false x y) | .neq=>some (.fnil true x y) | _=>none)
  | some (.slice _)=>(match y with | .const (.slice none 0 0)=>(match op with | .eql=>some (.snl false x) | .neq=>some (.snl true x) | _=>none) | _=>none)
  | some (.int _)=>(match op with | .quo | .rem=>some (.div op x y) | .shl | .shr=>some (shOp op x y) | _=>some (.bin op x y))
  | some .string=>(match op with | .add=>some (.div op x y) | _=>some (.bin op x y))
  | some (.pointer _)=>pnOp op x y
  | _=>aggEq P op t x y
 | .unOp op _ x=>some (.un op x)
 | .convert src dst x =>
  match P.underlying src,P.underlying dst with
  | some (.int _),some (.int k)=>some (.cvi k x)
  | some (.slice e),some .string=>(match P.underlying e with | some (.int .u8)=>some (.b2s x) | _=>none)
  | _,_=>none
 | .fieldAddr t x f =>
  match P.underlying t with
  | some (.struct fs)=>do
   let fd ← fs[f]?
   let s ← sizeB P fd.type
   if s=0 then none else some (.fadd fd.offset x)
  | _=>none
 | .field t x f =>
  match P.underlying t with
  | some (.struct fs)=>do
   let fd ← fs[f]?
   let s ← sizeB P fd.type
   let d ← P.underlying fd.type
   some (.fld fd.offset s (isAggB d) x)
  | _=>none
 | .load t x=>do
  let s ← sizeB P t
  let d ← P.underlying t
  some (.load s (isAggB d) x)
 | .store t x v=>do
  let s ← sizeB P t
  some (.store s x v)
 | .alloc t=>do
  let z ← zeroB P t
  some (.alloc t z)
 | .box t x=>some (.box t x)
 | .build t ps =>
  match P.underlying t with
  | some (.struct fs)=>do
   let z ← zeroB P t
   let l ← partsB P fs ps.toList
   if fs.toList.all (fun f=>(sizeB P f.type).isSome) then some (.build z l) else none
  | some (.array _ e)=>do
   let z ← zeroB P t
   let s ← sizeB P e
   some (.build z (ps.toList.map fun p=>((p.1 * s,s),p.2)))
  | _=>none
 | .buildSlice t n ps =>
  match P.underlying t with
  | some (.slice e)=>do
   let s ← sizeB P e
   let z ← zeroB P e
   if s=0 then none else some (.bslice e s n z ps.toList)
  | _=>none
 | .indexAddr t x i =>
  match P.underlying t with
  | some (.slice e)=>do
   let s ← sizeB P e
   some (.idxA s x i)
  | some (.array n e)=>do
   let s ← sizeB P e
   some (.idxP n s x i)
  | _=>none
 | .index t x i =>
  match P.underlying t with
  | some (.array n e)=>do
   let s ← sizeB P e
   let d ← P.underlying e
   some (.idxV n s (isAggB d) x i)
  | some .string=>some (.idxS x i)
  | _=>none
 | .slice t x lo hi none =>
  match P.underlying t with
  | some (.slice e)=>do
   let s ← sizeB P e
   some (.slc s x lo hi)
  | some .string=>some (.slcS x lo hi)
  | _=>none
 | .makeFunc fn fs cs=>some (.mkfn fn fs.toList cs.toList)
 | .makeSlice t l c =>
  match P.underlying t with
  | some (.slice e)=>do
   let i ← P.info? e
   let z ← i.zero
   some (.mks e i.size i.bytes z l c)
  | _=>none
 | .extract x i=>some (.ext x i)
 | .makeMap t none =>
  match P.underlying t with
  | some (.map k e)=>do
   let mk ← mkOf P k
   let d ← P.underlying e
   some (match d with | .func ..=>.mkf mk | d=>.mkm mk (isAggB d))
  | _=>none
 | .mapUpdate t m k v | .insert t m k v =>
  match P.underlying t with
  | some (.map kt e)=>do
   let mk ← mkOf P kt
   let d ← P.underlying e
   some (.mset mk (isAggB d) m k v)
  | _=>none
 | .lookup t m k ok =>
  match P.underlying t with
  | some (.map kt e)=>do
   let mk ← mkOf P kt
   let d ← P.underlying e
   let z ← zeroB P e
   some (.mget mk (isAggB d) ok z m k)
  | _=>none
 | .nilCheck x=>some (.nilck x)
 | .call { callee:=.value (.func f),args,.. }=>some (.call f args.toList)
 | .call { callee:=.value x,args,.. }=>some (.callv x args.toList)
 | .call { callee:=.builtin .len,args,argTypes } =>
  match argTypes.toList,args.toList with
  | [t],[x]=>(match P.underlying t with | some (.slice _)=>some (.len false x) | some .string=>some (.len true x) | some (.map _ _)=>some (.mlen x) | _=>none)
  | _,_=>none
 | .call { callee:=.builtin .cap,args,argTypes } =>
  match argTypes.toList,args.toList with
  | [t],[x]=>(match P.underlying t with | some (.slice _)=>some (.capn x) | _=>none)
  | _,_=>none
 | .makeInterface ..=>some .nope
 | .panic ..=>some .nope
 | .call { callee:=.builtin .max,args,.. }=>(match args.toList with | x::xs=>some (.mm true x xs) | []=>none)
 | .call { callee:=.builtin .min,args,.. }=>(match args.toList with | x::xs=>some (.mm false x xs) | []=>none)
 | .call { callee:=.builtin .append,args,argTypes } =>
  match argTypes.toList,args.toList with
  | [t,u],[x,y] =>
   match P.underlying t with
   | some (.slice e)=>do
    let i ← P.info? e
    let z ← i.zero
    if t=u∧z.cells.size=i.size∧0<i.size then some (.app e i.size i.bytes z x y) else appzOp P u e i z x y
   | _=>none
  | _,_=>none
 | .call { callee:=.builtin .delete,args,argTypes } =>
  match argTypes.toList,args.toList with
  | [t,_],[x,y] =>
   match P.underlying t with
   | some (.map kt _)=>do
    let mk ← mkOf P kt
    some (.mdel mk x y)
   | _=>none
  | _,_=>none
 | .call { callee:=.builtin .clear,args,argTypes } =>
  match argTypes.toList,args.toList with
  | [t],[x] =>
   match P.underlying t with
   | some (.slice e)=>do
    let z ← zeroB P e
    some (.clr z.cells.size z x)
   | _=>none
  | _,_=>none
 | _=>none
def sbin (op:BinOp):SV→SV→Option SV
 | .d (.val (.int k a)),.d (.val (.int k' b)) =>
  match op with
  | .shl=>if b<0 then none else some (.d (.val (.int k (k.wrap (a * 2 ^ min b.toNat k.bits)))))
  | .shr=>if b<0 then none else some (.d (.val (.int k (a.fdiv (2 ^ min b.toNat k.bits)))))
  | op =>
   if k≠k' then none else
   match op with
   | .add=>some (.d (.val (.int k (k.wrap (a+b)))))
   | .sub=>some (.d (.val (.int k (k.wrap (a - b)))))
   | .mul=>some (.d (.val (.int k (k.wrap (a * b)))))
   | .and=>some (.d (.val (.int k (k.wrap (BitVec.ofInt k.bits a &&& BitVec.ofInt k.bits b).toNat))))
   | .or=>some (.d (.val (.int k (k.wrap (BitVec.ofInt k.bits a ||| BitVec.ofInt k.bits b).toNat))))
   | .xor=>some (.d (.val (.int k (k.wrap (BitVec.ofInt k.bits a ^^^ BitVec.ofInt k.bits b).toNat))))
   | .andNot=>some (.d (.val (.int k (k.wrap (BitVec.ofInt k.bits a &&& ~~~BitVec.ofInt k.bits b).toNat))))
   | .eql=>some (.d (.val (.bool (decide (a=b)))))
   | .neq=>some (.d (.val (.bool (!decide (a=b)))))
   | .lss=>some (.d (.val (.bool (decide (a<b)))))
   | .leq=>some (.d (.val (.bool (decide (a≤b)))))
   | .gtr=>some (.d (.val (.bool (decide (b<a)))))
   | .geq=>some (.d (.val (.bool (decide (b≤a)))))
   | _=>none
 | .d (.val (.string a)),.d (.val (.string b)) =>
  match op with
  | .eql=>some (.d (.val (.bool (a.toList == b.toList))))
  | .neq=>some (.d (.val (.bool (!(a.toList == b.toList)))))
  | .lss=>some (.d (.val (.bool (Op.bytesLess a.toList b.toList))))
  | .leq=>some (.d (.val (.bool (Op.bytesLess a.toList b.toList||a.toList == b.toList))))
  | .gtr=>some (.d (.val (.bool (!(Op.bytesLess a.toList b.toList||a.toList == b.toList)))))
  | .geq=>some (.d (.val (.bool (!Op.bytesLess a.toList b.toList))))
  | _=>none
 | _,_=>none
def seqsW (ck:CK→Value→Value→Option Bool)(an:Bool→Bool→Bool):List CK→List SV→List SV→Option Bool
 | [k],[.d (.val u)],[.d (.val v)]=>ck k u v
 | k::ks,.d (.val u)::l,.d (.val v)::l'=>(match ck k u v,seqsW ck an ks l l' with | some a,some b=>some (an a b) | _,_=>none)
 | _,_,_=>none
def seqs : List CK→List SV→List SV→Option Bool:=seqsW ckeq and
def sbeq (neg:Bool)(ks:List CK):SV→SV→Option SV
 | .d (.val (.bool a)),.d (.val (.bool b))=>(match ks with | []=>some (.d (.val (.bool (neg ^^ (a == b))))) | _=>none)
 | .agg cs,.agg cs'=>(match seqs ks cs cs' with | some b=>some (.d (.val (.bool (neg ^^ b)))) | none=>none)
 | _,_=>none
def sfnil (neg:Bool):SV→SV→Option SV
 | .clo (.func _) _ _,.d (.val .nilFunc)=>some (.d (.val (.bool neg)))
 | .d (.val .nilFunc),.d (.val .nilFunc)=>some (.d (.val (.bool (!neg))))
 | _,_=>none
def spnil (neg:Bool):SV→Option SV
 | .ptr _ _=>some (.d (.val (.bool neg)))
 | .fp _=>some (.d (.val (.bool neg)))
 | .d (.val (.pointer none))=>some (.d (.val (.bool (!neg))))
 | _=>none
def scap : SV→Option SV
 | .d (.val (.slice none 0 0))=>some (.d (.val (.int .i64 0)))
 | _=>none
def smlen (own:List Res):SV→Option SV
 | .hd r=>(match getr own r with | .mp _ _ es=>some (.d (.val (.int .i64 es.length))) | _=>none)
 | _=>none
def sun (op:UnOp):SV→Option SV
 | .d (.val (.bool b))=>(match op with | .not=>some (.d (.val (.bool (!b)))) | _=>none)
 | .d (.val (.int k a))=>(match op with | .neg=>some (.d (.val (.int k (k.wrap (0 - a))))) | _=>none)
 | _=>none
def spick : SV→SV→SV→Option SV
 | .d (.val (.bool c)),.d (.val (.bool x)),.d (.val (.bool y))=>some (.d (.val (.bool (cond c x y))))
 | .d (.val (.bool c)),a,b=>some (cond c a b)
 | _,_,_=>none
def sfadd (off:Nat):SV→Option SV
 | .ptr r k=>some (.ptr r (k+off))
 | .fp ds=>some (.fp (ds.drop off))
 | .rp r sz i j=>some (.rp r sz i (j+off))
 | _=>none
def sfld (off sz:Nat)(agg:Bool):SV→Option SV
 | .agg cs=>if agg then some (.agg ((cs.drop off).take sz)) else cs[off]?
 | _=>none
def takeN {α:Type}:Nat→List α→Option (List α)
 | 0,_=>some []
 | _+1,[]=>none
 | n+1,a::l=>match takeN n l with | some r=>some (a::r) | none=>none
theorem takeN_eq {α:Type}(n:Nat)(l r:List α):takeN n l=some r→r=l.take n∧r.length=n:=by
 induction n generalizing l r with
 | zero=>intro h;simp[takeN] at h;subst h;simp
 | succ n ih =>
  intro h
  cases l with
  | nil=>simp[takeN] at h
  | cons a l =>
   simp only[takeN] at h
   cases hh:takeN n l with
   | none=>simp[hh] at h
   | some r' =>
    simp[hh] at h;subst h;obtain⟨h1,h2⟩:=ih l r' hh;subst h1;simp at h2 ⊢;exact h2
def sload (own:List Res)(sz:Nat)(agg:Bool):SV→Option SV
 | .ptr r k =>
  match getr own r with
  | .cells cs _=>if agg then (match takeN sz (cs.drop k) with | some l=>some (.agg l) | none=>none) else cs[k]?
  | _=>none
 | .fp ds=>if agg then (match takeN sz ds with | some l=>some (.agg (l.map .d)) | none=>none) else (match ds with | d::_=>some (.d d) | []=>none)
 | _=>none
def slen (own:List Res)(str:Bool):SV→Option SV
 | .d (.sl es)=>if str then none else some (.d (.val (.int .i64 es.length)))
 | .d (.val (.slice _ n _))=>if str then none else some (.d (.val (.int .i64 n)))
 | .d (.val (.string s))=>if str then some (.d (.val (.int .i64 s.size))) else none
 | .hd r=>if str then none else match getr own r with
  | .row _ _ es=>some (.d (.val (.int .i64 es.length)))
  | _=>none
 | .rs r _ i=>if str then none else match getr own r with
  | .row _ _ es=>some (.d (.val (.int .i64 ((es.length - i:Nat):Int))))
  | _=>none
 | _=>none
def sext (i:Nat):SV→Option SV
 | .tup cs=>cs[i]?
 | _=>none
def snil : SV→Option SV
 | .ptr r k=>some (.ptr r k)
 | .fp ds=>some (.fp ds)
 | .rp r sz i j=>some (.rp r sz i j)
 | .clo (.func f) a b=>some (.clo (.func f) a b)
 | _=>none
def smm (mx:Bool):SV→List SV→Option SV
 | v,[]=>(match v with | .d (.val (.int k a))=>some (.d (.val (.int k a))) | _=>none)
 | .d (.val (.int k a)),.d (.val (.int _ b))::l=>smm mx (.d (.val (.int k (if mx then max a b else min a b)))) l
 | _,_=>none
def scvi (k:IntKind):SV→Option SV
 | .d (.val (.int _ n))=>some (.d (.val (.int k (k.wrap n))))
 | _=>none
def SV.cells : SV→List SV
 | .agg cs=>cs
 | s=>[s]
def splice {α:Type}(off:Nat)(vs l:List α):List α:=l.take off++vs++l.drop (off+vs.length)
def SV.flat : SV→Bool
 | .tup _ | .top=>false
 | _=>true
def sfill (cells:List SV):List ((Nat×Nat)×SV)→Option (List SV)
 | []=>some cells
 | ((off,sz),s)::rest=>if s.flat=true∧s.cells.length=sz∧off+sz≤cells.length then sfill (splice off s.cells cells) rest else none
def sbuild (z:SV)(ps:List ((Nat×Nat)×SV)):Option SV :=
 match sfill z.cells ps with
 | some cs=>some (.agg cs)
 | none=>none
def pureOp (own:List Res)(e:Operand→SV):DOp→Option SV
 | .mv x=>some (e x)
 | .pick c a b=>spick (e c) (e a) (e b)
 | .bin op x y=>sbin op (e x) (e y)
 | .beq n ks x y=>sbeq n ks (e x) (e y)
 | .fnil n x y=>sfnil n (e x) (e y)
 | .un op x=>sun op (e x)
 | .cvi k x=>scvi k (e x)
 | .fadd off x=>sfadd off (e x)
 | .fld off sz agg x=>sfld off sz agg (e x)
 | .load sz agg x=>sload own sz agg (e x)
 | .len s x=>slen own s (e x)
 | .capn x=>scap (e x)
 | .mlen x=>smlen own (e x)
 | .pnil n x=>spnil n (e x)
 | .ext x i=>sext i (e x)
 | .mkfn fn fs cs=>some (.clo fn (fs.map e) (cs.map e))
 | .mm mx x xs=>smm mx (e x) (xs.map e)
 | .nilck x=>snil (e x)
 | .build z ps=>sbuild (cval z) (ps.map fun p=>(p.1,e p.2))
 | _=>none
end Go.SX
