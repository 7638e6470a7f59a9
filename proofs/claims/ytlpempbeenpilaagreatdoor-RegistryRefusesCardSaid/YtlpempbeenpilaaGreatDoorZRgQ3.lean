/- Parts of the proof. -/
import Derived.Test.YtlpempbeenpilaaGreatDoorZRgP1
import Derived.Test.YtlpempbeenpilaaGreatDoorZRg46d
import Derived.Test.YtlpempbeenpilaaGreatDoorZRg92d
import Derived.Test.YtlpempbeenpilaaGreatDoorZRg44d
import Derived.Test.YtlpempbeenpilaaGreatDoorZRg33d
import Derived.Test.YtlpempbeenpilaaGreatDoorZRg30d
import Derived.Test.YtlpempbeenpilaaGreatDoorZRgH8
import Derived.Lib.ItoaLen
set_option linter.unusedSimpArgs false
set_option linter.unusedVariables false
set_option linter.unusedSectionVars false
set_option linter.unusedVariables false
namespace Go.SX.Rg
open Go Go.SX
theorem any_false {α:Type}(l:List α):(l.any fun _=>false)=false:=by
 rw[List.any_eq_false]
 intro x _
 decide
theorem ints_refl (a:List Int)(h:a.length≤1000000):ref11_Ints_g a a=some true:=by
 unfold ref11_Ints_g
 rw[io_not,io_eqi,decide_eq_true rfl,Bool.not_true,cond_false]
 rw[loop_any (step:=ref11_Ints_l2 a a) a (fun _=>false) (.inr false) (.inl ()) (fun k x hx=>by
  have hk:=(List.getElem?_eq_some_iff.1 hx).1
  have h1:(k:Int)<(a.length:Int):=by omega
  unfold ref11_Ints_l2
  simp only[io_lt,io_len,decide_eq_true h1,cond_true,idxG_some hx,Option.bind_some,io_not,io_eqi,decide_true,Bool.not_true,cond_false,io_add,wr_up (k:=k) (by omega)]
  rfl) (by
  have h1:¬ (a.length:Int)<(a.length:Int):=by omega
  unfold ref11_Ints_l2
  simp only[io_lt,io_len,decide_eq_false h1,cond_false]),any_false]
 rfl
theorem sigs_refl (a:List ByteArray)(h:a.length≤1000000):ref03_Same_g a a=some true:=by
 unfold ref03_Same_g
 rw[io_not,io_eqi,decide_eq_true rfl,Bool.not_true,cond_false]
 rw[loop_any (step:=ref03_Same_l2 a a) a (fun _=>false) (.inr false) (.inl ()) (fun k x hx=>by
  have hk:=(List.getElem?_eq_some_iff.1 hx).1
  have h1:(k:Int)<(a.length:Int):=by omega
  unfold ref03_Same_l2
  simp only[io_lt,io_len,decide_eq_true h1,cond_true,idxG_some hx,Option.bind_some,io_not,seq_dec,decide_true,Bool.not_true,cond_false,io_add,wr_up (k:=k) (by omega)]
  rfl) (by
  have h1:¬ (a.length:Int)<(a.length:Int):=by omega
  unfold ref03_Same_l2
  simp only[io_lt,io_len,decide_eq_false h1,cond_false]),any_false]
 rfl
def SmallT (t:Title):Prop:=t.Chain.length≤1000000∧∀ x∈t.Chain,x.Sig.length≤1000000
theorem ext_refl (s1 h1 p1 p2:Int)(f:ByteArray)(c:List Transfer)(h:SmallT ⟨s1,h1,p1,f,c⟩):ref30_Extends_g ⟨s1,h1,p1,f,c⟩ ⟨s1,h1,p2,f,c⟩=some true:=by
 obtain⟨hl,hs⟩:=h
 dsimp only at hl hs
 unfold ref30_Extends_g
 have hlt:¬ (c.length:Int)<(c.length:Int):=by omega
 simp only[io_not,io_eqi,seq_dec,decide_true,Bool.not_true,cond_false,Option.bind_some,io_lt,io_len,decide_eq_false hlt]
 rw[loop_any (step:=ref30_Extends_l2 ⟨s1,h1,p2,f,c⟩ ⟨s1,h1,p1,f,c⟩) c (fun _=>false) (.inr false) (.inl ()) (fun k x hx=>by
  have hk:=(List.getElem?_eq_some_iff.1 hx).1
  have h1:(k:Int)<(c.length:Int):=by omega
  unfold ref30_Extends_l2
  simp only[io_lt,io_len,decide_eq_true h1,cond_true,idxG_some hx,Option.bind_some,io_not,seq_dec,decide_true,Bool.not_true,cond_false,sigs_refl x.Sig (hs x (List.mem_of_getElem? hx)),io_add,wr_up (k:=k) (by omega)]
  rfl) (by
  unfold ref30_Extends_l2
  simp only[io_lt,io_len,decide_eq_false hlt,cond_false]),any_false]
 rfl
theorem same_refl (t:Title)(h:SmallT t):ref30_Same_g t t=some true:=by
 obtain⟨s1,h1,p1,f,c⟩:=t
 unfold ref30_Same_g
 rw[ext_refl _ _ _ _ _ _ h,Option.bind_some,cond_true,Option.bind_some,cond_true,io_eqi,decide_eq_true rfl]
theorem Formed.small {t:Title}(h:Formed t):SmallT t:=by
 refine⟨by have:=h.n;omega,fun x hx=>?_⟩
 have:=List.all_eq_true.1 h.c x hx
 unfold trS at this
 simp only[Bool.and_eq_true,decide_eq_true_eq] at this
 rw[this.1];decide
def zeroT : Title:=Title.mk 0 0 0 (⟨#[]⟩) []
theorem zero_small : SmallT zeroT:=⟨Nat.zero_le _,fun x hx=>by cases hx⟩
theorem valid_formed {t:Title}(h:validS t=true):Formed t:=by
 unfold validS at h
 rw[Bool.and_eq_true] at h
 exact(formedS_iff t).1 h.1
def baseS (sh:Int):Int:=(sh+1) * 10000+1
def ttlF : Int→List Entry→List (Int×Entry)
 | _,[]=>[]
 | b,e::l=>(b,e)::ttlF (b+1) l
theorem ttlF_len : ∀ (l:List Entry)(b:Int),(ttlF b l).length=l.length
 | [],_=>rfl
 | e::l,b=>by unfold ttlF;rw[List.length_cons,ttlF_len l,List.length_cons]
theorem ttlF_lt : ∀ (l:List Entry)(b s:Int),s<b→mlook (ttlF b l) s=none
 | [],_,_,_=>rfl
 | e::l,b,s,h=>by unfold ttlF mlook;rw[if_neg (by omega),ttlF_lt l _ _ (by omega)]
theorem ttlF_at : ∀ (l:List Entry)(b:Int)(i:Nat),mlook (ttlF b l) (b+i)=l[i]?
 | [],_,_=>rfl
 | e::l,b,0=>by unfold ttlF mlook;rw[if_pos (by omega)];rfl
 | e::l,b,i+1=>by
  unfold ttlF mlook
  rw[if_neg (by omega),show b+((i+1:Nat):Int)=(b+1)+(i:Int) by omega,ttlF_at l]
  rfl
def lookS (b:Int)(l:List Entry)(s:Int):Option Entry:=if b≤s then l[(s - b).toNat]? else none
theorem lookS_at (b:Int)(l:List Entry)(i:Nat):lookS b l (b+i)=l[i]?:=by
 unfold lookS
 rw[if_pos (by omega),show (b+(i:Int) - b).toNat=i by omega]
theorem lookS_some {b:Int}{l:List Entry}{s:Int}{e:Entry}(h:lookS b l s=some e):∃ i:Nat,s=b+i∧l[i]?=some e:=by
 unfold lookS at h
 split at h
 ·exact⟨(s - b).toNat,by omega,h⟩
 ·cases h
theorem look_eq (b:Int)(l:List Entry)(s:Int):mlook (ttlF b l) s=lookS b l s:=by
 by_cases h:b≤s
 ·obtain⟨i,rfl⟩:∃ i:Nat,s=b+i:=⟨(s - b).toNat,by omega⟩
  rw[ttlF_at,lookS_at]
 ·rw[ttlF_lt _ _ _ (by omega)]
  unfold lookS
  rw[if_neg h]
theorem ttlF_set : ∀ (l:List Entry)(b:Int)(i:Nat)(e:Entry),i<l.length→mputG (ttlF b l) (b+i) e=ttlF b (l.set i e)
 | [],_,_,_,h=>by simp at h
 | x::l,b,0,e,_=>by unfold ttlF mputG;rw[if_pos (by omega)];simp[ttlF]
 | x::l,b,i+1,e,h=>by
  have ih:=ttlF_set l (b+1) i e (by simpa using h)
  unfold ttlF mputG
  rw[if_neg (by omega),show b+((i+1:Nat):Int)=(b+1)+(i:Int) by omega,ih]
  rfl
theorem ttlF_app : ∀ (l:List Entry)(b:Int)(e:Entry),mputG (ttlF b l) (b+l.length) e=ttlF b (l++[e])
 | [],b,e=>by simp[ttlF,mputG]
 | x::l,b,e=>by
  have ih:=ttlF_app l (b+1) e
  unfold ttlF mputG
  rw[if_neg (by rw[List.length_cons];omega),show b+(((x::l).length:Nat):Int)=(b+1)+(l.length:Int) by rw[List.length_cons];omega,ih]
  rfl
section maps
variable {α:Type}
theorem mlook_none : ∀ (m:List (Int×α))(k:Int),k ∉ m.map (·.1)→mlook m k=none
 | [],_,_=>rfl
 | (k',v)::m,k,h=>by
  rw[List.map_cons,List.mem_cons,not_or] at h
  unfold mlook
  rw[if_neg h.1,mlook_none m k h.2]
theorem mlook_put : ∀ (m:List (Int×α))(k:Int)(v:α)(q:Int),mlook (mputG m k v) q=if q=k then some v else mlook m q
 | [],k,v,q=>by unfold mputG mlook mlook;rfl
 | (k',v')::m,k,v,q=>by
  unfold mputG
  by_cases h:k=k'
  ·rw[if_pos h]
   unfold mlook
   subst h
   by_cases hq:q=k
   ·rw[if_pos hq,if_pos hq]
   ·rw[if_neg hq,if_neg hq,if_neg hq]
  ·rw[if_neg h]
   unfold mlook
   by_cases hq:q=k'
   ·rw[if_pos hq,if_neg (by omega),if_pos hq]
   ·rw[if_neg hq,mlook_put m k v q,if_neg hq]
theorem mput_keys : ∀ (m:List (Int×α))(k:Int)(v:α)(q:Int),q∈(mputG m k v).map (·.1)→q=k∨q∈m.map (·.1)
 | [],k,v,q,h=>by unfold mputG at h;simpa using h
 | (k',v')::m,k,v,q,h=>by
  unfold mputG at h
  split at h
  ·rename_i hk
   rw[List.map_cons,List.mem_cons] at h ⊢
   rcases h with h | h
   ·exact .inl h
   ·exact .inr (.inr h)
  ·rw[List.map_cons,List.mem_cons] at h ⊢
   rcases h with h | h
   ·exact .inr (.inl h)
   ·rcases mput_keys m k v q h with h | h
    ·exact .inl h
    ·exact .inr (.inr h)
theorem mput_nd : ∀ (m:List (Int×α))(k:Int)(v:α),(m.map (·.1)).Nodup→((mputG m k v).map (·.1)).Nodup
 | [],k,v,_=>by unfold mputG;simp
 | (k',v')::m,k,v,h=>by
  rw[List.map_cons,List.nodup_cons] at h
  unfold mputG
  split
  ·rename_i hk
   rw[List.map_cons,List.nodup_cons]
   exact⟨by rw[hk];exact h.1,h.2⟩
  ·rename_i hk
   rw[List.map_cons,List.nodup_cons]
   refine⟨fun hc=>?_,mput_nd m k v h.2⟩
   rcases mput_keys m k v _ hc with hc | hc
   ·exact hk hc.symm
   ·exact h.1 hc
theorem mlook_del : ∀ (m:List (Int×α))(k q:Int),(m.map (·.1)).Nodup→mlook (mdelG m k) q=if q=k then none else mlook m q
 | [],k,q,_=>by unfold mdelG mlook;split<;>rfl
 | (k',v')::m,k,q,h=>by
  rw[List.map_cons,List.nodup_cons] at h
  unfold mdelG
  by_cases hk:k=k'
  ·rw[if_pos hk]
   by_cases hq:q=k
   ·rw[if_pos hq,hq,hk]
    exact mlook_none _ _ h.1
   ·rw[if_neg hq]
    conv=>rhs;unfold mlook
    rw[if_neg (by omega)]
  ·rw[if_neg hk]
   unfold mlook
   by_cases hq:q=k'
   ·rw[if_pos hq,if_neg (by omega),if_pos hq]
   ·rw[if_neg hq,mlook_del m k q h.2,if_neg hq]
theorem mdel_keys : ∀ (m:List (Int×α))(k q:Int),q∈(mdelG m k).map (·.1)→q∈m.map (·.1)
 | [],k,q,h=>by unfold mdelG at h;exact h
 | (k',v')::m,k,q,h=>by
  unfold mdelG at h
  split at h
  ·rw[List.map_cons,List.mem_cons];exact .inr h
  ·rw[List.map_cons,List.mem_cons] at h ⊢
   rcases h with h | h
   ·exact .inl h
   ·exact .inr (mdel_keys m k q h)
theorem mdel_nd : ∀ (m:List (Int×α))(k:Int),(m.map (·.1)).Nodup→((mdelG m k).map (·.1)).Nodup
 | [],k,_=>by unfold mdelG;simp
 | (k',v')::m,k,h=>by
  rw[List.map_cons,List.nodup_cons] at h
  unfold mdelG
  split
  ·exact h.2
  ·rw[List.map_cons,List.nodup_cons]
   exact⟨fun hc=>h.1 (mdel_keys m k _ hc),mdel_nd m k h.2⟩
end maps
theorem lookD_put (m:List (Int×Int))(k v q:Int):mlookD (mputG m k v) q 0=if q=k then v else mlookD m q 0:=by
 unfold mlookD
 rw[mlook_put]
 split<;>rfl
theorem lookD_del (m:List (Int×Int))(k q:Int)(h:(m.map (·.1)).Nodup):mlookD (mdelG m k) q 0=if q=k then 0 else mlookD m q 0:=by
 unfold mlookD
 rw[mlook_del m k q h]
 split<;>rfl
def onP (p:Int)(e:Entry):Bool:=decide (e.gone=0)&&decide (e.Title.Place=p)
theorem onP_iff {p:Int}{e:Entry}:onP p e=true↔e.gone=0∧e.Title.Place=p:=by
 unfold onP
 simp only[Bool.and_eq_true,decide_eq_true_eq]
def atS (b:Int)(l:List Entry)(p:Int):Int:=if p<0 then 0 else match l.findIdx? (onP p) with | some i=>b+i | none=>0
def AtIs (b:Int)(l:List Entry)(p v:Int):Prop:=(∃ (i:Nat)(e:Entry),l[i]?=some e∧onP p e=true∧v=b+i)∨(v=0∧∀ (i:Nat)(e:Entry),l[i]?=some e→onP p e=false)
theorem at_is (b:Int)(l:List Entry){p:Int}(h:0≤p):AtIs b l p (atS b l p):=by
 unfold atS
 rw[if_neg (by omega)]
 cases hf:l.findIdx? (onP p) with
 | some i =>
  rw[List.findIdx?_eq_some_iff_getElem] at hf
  obtain⟨hi,h1,_⟩:=hf
  exact .inl ⟨i,_,List.getElem?_eq_getElem hi,h1,rfl⟩
 | none =>
  rw[List.findIdx?_eq_none_iff] at hf
  exact .inr ⟨rfl,fun i e he=>hf e (List.mem_of_getElem? he)⟩
def UniqS (l:List Entry):Prop:=∀ (i j:Nat)(e f:Entry)(p:Int),l[i]?=some e→l[j]?=some f→0≤p→onP p e=true→onP p f=true→i=j
theorem at_uniq {b:Int}{l:List Entry}(hu:UniqS l)(hb:0<b){p v w:Int}(hp:0≤p)(h1:AtIs b l p v)(h2:AtIs b l p w):v=w:=by
 rcases h1 with ⟨i,e,h1,h3,rfl⟩ | ⟨rfl,h1⟩
 ·rcases h2 with ⟨j,f,h2,h4,rfl⟩ | ⟨rfl,h2⟩
  ·rw[hu i j e f p h1 h2 hp h3 h4]
  ·have:=h2 i e h1
   rw[h3] at this;cases this
 ·rcases h2 with ⟨j,f,h2,h4,rfl⟩ | ⟨rfl,h2⟩
  ·have:=h1 j f h2
   rw[h4] at this;cases this
  ·rfl
theorem atS_of {b:Int}{l:List Entry}(hu:UniqS l)(hb:0<b){p v:Int}(hp:0≤p)(h1:AtIs b l p v):v=atS b l p:=at_uniq hu hb hp h1 (at_is b l hp)
theorem atS_neg (b:Int)(l:List Entry){p:Int}(h:p<0):atS b l p=0:=by unfold atS;rw[if_pos h]
structure EntOk (sh pl:Int)(i:Nat)(e:Entry):Prop where
 ser:e.Title.Serial=baseS sh+i
 sh:e.Title.Show=sh
 p0:-1≤e.Title.Place
 p1:e.Title.Place<pl
 g:0≤e.gone
 v:validS e.Title=true
structure InvL (sh pl:Int)(l:List Entry):Prop where
 sh0:0≤sh
 sh1:sh<20
 pl0:0≤pl
 pl1:pl≤4000
 len:l.length≤1000
 ent:∀ (i:Nat)(e:Entry),l[i]?=some e→EntOk sh pl i e
 uniq:UniqS l
structure InvA (b:Int)(l:List Entry)(a:List (Int×Int)):Prop where
 nd:(a.map (·.1)).Nodup
 eq:∀ p,mlookD a p 0=atS b l p
theorem InvL.b0 {sh pl:Int}{l:List Entry}(h:InvL sh pl l):0<baseS sh:=by have:=h.sh0;unfold baseS;omega
theorem InvL.b1 {sh pl:Int}{l:List Entry}(h:InvL sh pl l):baseS sh≤200001:=by have:=h.sh1;unfold baseS;omega
theorem InvL.nil {sh pl:Int}(h0:0≤sh)(h1:sh<20)(p0:0≤pl)(p1:pl≤4000):InvL sh pl [] :=
 ⟨h0,h1,p0,p1,Nat.zero_le _,fun i e h=>by simp at h,fun i j e f p h=>by simp at h⟩
theorem InvA.nil (b:Int):InvA b [] []:=⟨List.nodup_nil,fun p=>by unfold atS;split<;>rfl⟩
theorem add_at {sh pl:Int}{l:List Entry}{a:List (Int×Int)}(h:InvL sh pl l)(ha:InvA (baseS sh) l a){e:Entry}{p:Int}(hp:0≤p)(hn:atS (baseS sh) l p=0)(he:onP p e=true) :
  UniqS (l++[e])∧InvA (baseS sh) (l++[e]) (mputG a p (baseS sh+l.length)):=by
 have hb:=h.b0
 have hno:∀ (i:Nat)(f:Entry),l[i]?=some f→onP p f=false:=by
  rcases at_is (baseS sh) l hp with ⟨i,f,_,_,h3⟩ | ⟨_,h2⟩
  ·omega
  ·exact h2
 have hget:∀ (i:Nat)(f:Entry),(l++[e])[i]?=some f→(i<l.length∧l[i]?=some f)∨(i=l.length∧f=e):=fun i f hf=>by
  by_cases hi:i<l.length
  ·rw[List.getElem?_append_left hi] at hf
   exact .inl ⟨hi,hf⟩
  ·have h1:=(List.getElem?_eq_some_iff.1 hf).1
   rw[List.length_append,List.length_singleton] at h1
   have h2:i=l.length:=by omega
   subst h2
   rw[List.getElem?_append_right (Nat.le_refl _),Nat.sub_self] at hf
   exact .inr ⟨rfl,by simpa using hf.symm⟩
 have hplace:=(onP_iff.1 he).2
 have hu:UniqS (l++[e]):=by
  intro i j f g q hf hg hq hfq hgq
  rcases hget i f hf with ⟨_,hf1⟩ | ⟨hi,hfe⟩
  ·rcases hget j g hg with ⟨_,hg1⟩ | ⟨hj,hge⟩
   ·exact h.uniq i j f g q hf1 hg1 hq hfq hgq
   ·have:q=p:=by rw[← hplace,← hge];exact((onP_iff.1 hgq).2).symm
    rw[this,hno i f hf1] at hfq;cases hfq
  ·rcases hget j g hg with ⟨_,hg1⟩ | ⟨hj,hge⟩
   ·have:q=p:=by rw[← hplace,← hfe];exact((onP_iff.1 hfq).2).symm
    rw[this,hno j g hg1] at hgq;cases hgq
   ·omega
 refine⟨hu,mput_nd _ _ _ ha.nd,fun q=>?_⟩
 rw[lookD_put]
 by_cases hqp:q=p
 ·subst hqp
  rw[if_pos rfl]
  exact atS_of hu hb hp (.inl ⟨l.length,e,by rw[List.getElem?_append_right (Nat.le_refl _),Nat.sub_self];rfl,he,rfl⟩)
 ·rw[if_neg hqp,ha.eq]
  by_cases hq:q<0
  ·rw[atS_neg _ _ hq,atS_neg _ _ hq]
  ·refine atS_of hu hb (by omega) ?_
   rcases at_is (baseS sh) l (p:=q) (by omega) with ⟨i,f,h1,h2,h3⟩ | ⟨h1,h2⟩
   ·refine .inl ⟨i,f,?_,h2,h3⟩
    rw[List.getElem?_append_left (List.getElem?_eq_some_iff.1 h1).1,h1]
   ·refine .inr ⟨h1,fun i f hf=>?_⟩
    rcases hget i f hf with ⟨_,hf⟩ | ⟨_,hfe⟩
    ·exact h2 i f hf
    ·unfold onP
     rw[hfe,hplace,decide_eq_false (show ¬ p=q from fun h=>hqp h.symm),Bool.and_false]
def chA (a:List (Int×Int))(s:Int)(e e':Entry):List (Int×Int) :=
 let a1:=if 0≤e.Title.Place then mdelG a e.Title.Place else a
 if 0≤e'.Title.Place∧e'.gone=0 then mputG a1 e'.Title.Place s else a1
theorem change_at {sh pl:Int}{l:List Entry}{a:List (Int×Int)}(h:InvL sh pl l)(ha:InvA (baseS sh) l a){i:Nat}{e e':Entry}(hi:l[i]?=some e)(hg:e.gone=0)
  (hok:0≤e'.Title.Place→e'.gone=0→atS (baseS sh) l e'.Title.Place=0∨atS (baseS sh) l e'.Title.Place=baseS sh+i) :
  UniqS (l.set i e')∧InvA (baseS sh) (l.set i e') (chA a (baseS sh+i) e e'):=by
 have hb:=h.b0
 have hil:=(List.getElem?_eq_some_iff.1 hi).1
 have hget:∀ (j:Nat)(f:Entry),(l.set i e')[j]?=some f→(j=i∧f=e')∨(j≠i∧l[j]?=some f):=fun j f hf=>by
  by_cases hj:j=i
  ·subst hj
   rw[List.getElem?_set_self hil] at hf
   exact .inl ⟨rfl,by simpa using hf.symm⟩
  ·rw[List.getElem?_set_ne (fun h=>hj h.symm)] at hf
   exact .inr ⟨hj,hf⟩
 have hput:(l.set i e')[i]?=some e':=List.getElem?_set_self hil
 have hkeep:∀ (j:Nat)(f:Entry),j≠i→l[j]?=some f→(l.set i e')[j]?=some f:=fun j f hj hf=>by
  rw[List.getElem?_set_ne (fun h=>hj h.symm)];exact hf
 have hoth:∀ (j:Nat)(f:Entry)(p:Int),j≠i→l[j]?=some f→0≤p→onP p e'=true→onP p f=false:=fun j f p hj hf hp hep=>by
  obtain⟨h1,rfl⟩:=onP_iff.1 hep
  cases hfp:onP e'.Title.Place f with
  | false=>rfl
  | true =>
   have hv:baseS sh+(j:Int)=atS (baseS sh) l e'.Title.Place:=atS_of h.uniq hb hp (.inl ⟨j,f,hf,hfp,rfl⟩)
   rcases hok hp h1 with h2 | h2<;>omega
 have hu:UniqS (l.set i e'):=by
  intro j k f g q hf hg' hq hfq hgq
  rcases hget j f hf with ⟨hj,hfe⟩ | ⟨hj,hf1⟩
  ·rcases hget k g hg' with ⟨hk,hge⟩ | ⟨hk,hg1⟩
   ·omega
   ·rw[hoth k g q hk hg1 hq (by rw[← hfe];exact hfq)] at hgq;cases hgq
  ·rcases hget k g hg' with ⟨hk,hge⟩ | ⟨hk,hg1⟩
   ·rw[hoth j f q hj hf1 hq (by rw[← hge];exact hgq)] at hfq;cases hfq
   ·exact h.uniq j k f g q hf1 hg1 hq hfq hgq
 have nd1:((if 0≤e.Title.Place then mdelG a e.Title.Place else a).map (·.1)).Nodup:=by
  split
  ·exact mdel_nd _ _ ha.nd
  ·exact ha.nd
 have eq1:∀ q,0≤q→mlookD (if 0≤e.Title.Place then mdelG a e.Title.Place else a) q 0=if q=e.Title.Place then 0 else atS (baseS sh) l q:=fun q hq=>by
  split
  ·rw[lookD_del _ _ _ ha.nd,ha.eq]
  ·rw[if_neg (by omega),ha.eq]
 have eqn:∀ q,q<0→mlookD (if 0≤e.Title.Place then mdelG a e.Title.Place else a) q 0=0:=fun q hq=>by
  split
  ·rw[lookD_del _ _ _ ha.nd,if_neg (by omega),ha.eq,atS_neg _ _ hq]
  ·rw[ha.eq,atS_neg _ _ hq]
 have key:∀ q,0≤q→onP q e'=false→AtIs (baseS sh) (l.set i e') q (if q=e.Title.Place then 0 else atS (baseS sh) l q):=fun q hq hne=>by
  by_cases hqe:q=e.Title.Place
  ·rw[if_pos hqe]
   refine .inr ⟨rfl,fun j f hf=>?_⟩
   rcases hget j f hf with ⟨_,rfl⟩ | ⟨hj,hf⟩
   ·exact hne
   ·cases hfq:onP q f with
    | false=>rfl
    | true=>exact absurd (h.uniq j i f e q hf hi hq hfq (onP_iff.2 ⟨hg,hqe.symm⟩)) hj
  ·rw[if_neg hqe]
   rcases at_is (baseS sh) l hq with ⟨j,f,h1,h2,h3⟩ | ⟨h1,h2⟩
   ·refine .inl ⟨j,f,hkeep j f (fun hj=>?_) h1,h2,h3⟩
    subst hj
    rw[hi] at h1;cases h1
    exact hqe ((onP_iff.1 h2).2).symm
   ·refine .inr ⟨h1,fun j f hf=>?_⟩
    rcases hget j f hf with ⟨_,rfl⟩ | ⟨_,hf⟩
    ·exact hne
    ·exact h2 j f hf
 refine⟨hu,?_⟩
 unfold chA
 dsimp only
 by_cases hc:0≤e'.Title.Place∧e'.gone=0
 ·rw[if_pos hc]
  refine⟨mput_nd _ _ _ nd1,fun q=>?_⟩
  rw[lookD_put]
  by_cases hqp:q=e'.Title.Place
  ·rw[if_pos hqp,hqp]
   exact atS_of hu hb hc.1 (.inl ⟨i,e',hput,onP_iff.2 ⟨hc.2,rfl⟩,rfl⟩)
  ·rw[if_neg hqp]
   by_cases hq:q<0
   ·rw[eqn q hq,atS_neg _ _ hq]
   ·rw[eq1 q (by omega)]
    refine atS_of hu hb (by omega) (key q (by omega) ?_)
    unfold onP
    rw[decide_eq_false (show ¬ e'.Title.Place=q from fun h=>hqp h.symm),Bool.and_false]
 ·rw[if_neg hc]
  refine⟨nd1,fun q=>?_⟩
  by_cases hq:q<0
  ·rw[eqn q hq,atS_neg _ _ hq]
  ·rw[eq1 q (by omega)]
   refine atS_of hu hb (by omega) (key q (by omega) ?_)
   cases hfq:onP q e' with
   | false=>rfl
   | true =>
    obtain⟨h1,h2⟩:=onP_iff.1 hfq
    exact absurd ⟨by omega,h1⟩ hc
end Go.SX.Rg
set_option linter.unusedVariables false
namespace Go.SX.Rg
open Go Go.SX
theorem io_lenM {κ α:Type}(kw:κ→Value)(e:α→List D)(l:List (κ×α)):io.lenM (WM kw e l)=l.length:=by
 rw[io_eq]
 show ((WM kw e l).length:Int)=_
 rw[WM_len]
theorem ser_base {sh:Int}(h0:0≤sh)(h1:sh<20):io.ar .mul .i64 (io.ar .add .i64 sh 1) 10000=(sh+1) * 10000:=by
 have e1:io.ar .add .i64 sh 1=sh+1:=by rw[io_add,wr64 (by omega) (by omega)]
 rw[e1,io_mul,wr64 (by omega) (by omega)]
theorem ser_new {sh:Int}(h0:0≤sh)(h1:sh<20)(n:Nat)(hn:n≤1000000):io.ar .add .i64 (io.ar .add .i64 (io.ar .mul .i64 (io.ar .add .i64 sh 1) 10000) (n:Int)) 1=baseS sh+n:=by
 have e2:io.ar .add .i64 ((sh+1) * 10000) (n:Int)=(sh+1) * 10000+n:=by rw[io_add,wr64 (by omega) (by omega)]
 rw[ser_base h0 h1,e2,io_add,wr64 (by omega) (by omega)]
 unfold baseS
 omega
def newE (sh:Int)(n:Nat)(p:Int)(k:ByteArray):Entry:=⟨⟨baseS sh+n,sh,p,k,[]⟩,0⟩
def issueS (sh pl:Int)(l:List Entry)(p:Int)(k:ByteArray):Int×Int×List Entry :=
 if p<0∨pl≤p∨isS k=false then (0,1,l)
 else if atS (baseS sh) l p≠0 then (0,16,l)
 else (baseS sh+l.length,0,l++[newE sh l.length p k])
theorem new_valid {sh pl:Int}{n:Nat}{p:Int}{k:ByteArray}(h0:0≤sh)(h1:sh<20)(hn:n<9999)(hp:0≤p)(hp1:p<4000)(hk:isS k=true):validS (newE sh n p k).Title=true:=by
 have hf:formedS (newE sh n p k).Title=true:=(formedS_iff _).2 {
  h0:=h0
  h1:=h1
  k0:=by show 1≤baseS sh+(n:Int) - (sh+1) * 10000;unfold baseS;omega
  k1:=by show baseS sh+(n:Int) - (sh+1) * 10000≤9999;unfold baseS;omega
  p0:=by show -1≤p;omega
  p1:=hp1
  f:=hk
  n:=Nat.zero_le _
  c:=rfl }
 unfold validS
 rw[hf]
 rfl
theorem issue_inv {sh pl:Int}{l:List Entry}(h:InvL sh pl l){a:List (Int×Int)}(ha:InvA (baseS sh) l a)(p:Int)(k:ByteArray)(hl:l.length<1000):InvL sh pl (issueS sh pl l p k).2.2:=by
 unfold issueS
 split
 ·exact h
 ·rename_i hc
  have hp:0≤p:=by omega
  have hp1:p<pl:=by omega
  have hk:isS k=true:=by
   cases hk:isS k with
   | true=>rfl
   | false=>exact absurd (.inr (.inr hk)) hc
  split
  ·exact h
  ·rename_i hat
   have hat:atS (baseS sh) l p=0:=by omega
   have hadd:=add_at h ha (e:=newE sh l.length p k) hp hat (onP_iff.2 ⟨rfl,rfl⟩)
   have h2:=h.pl1
   exact {
    sh0:=h.sh0
    sh1:=h.sh1
    pl0:=h.pl0
    pl1:=h.pl1
    len:=by rw[List.length_append,List.length_singleton];omega
    ent:=fun i e he=>by
     by_cases hi:i<l.length
     ·rw[List.getElem?_append_left hi] at he
      exact h.ent i e he
     ·have h1:=(List.getElem?_eq_some_iff.1 he).1
      rw[List.length_append,List.length_singleton] at h1
      obtain rfl:i=l.length:=by omega
      rw[List.getElem?_append_right (Nat.le_refl _),Nat.sub_self] at he
      obtain rfl:newE sh l.length p k=e:=by simpa using he
      exact⟨rfl,rfl,by show -1≤p;omega,hp1,Int.le_refl _,new_valid (pl:=pl) h.sh0 h.sh1 (by omega) hp (by omega) hk⟩
    uniq:=hadd.1 }
theorem issue_eq {sh pl:Int}{l:List Entry}{a:List (Int×Int)}(h:InvL sh pl l)(ha:InvA (baseS sh) l a)(p:Int)(k:ByteArray) :
  ∃ a',registry_Registry_Issue_b sh pl (ttlF (baseS sh) l) a p k=some ((issueS sh pl l p k).1,(issueS sh pl l p k).2.1,ttlF (baseS sh) (issueS sh pl l p k).2.2,a')∧InvA (baseS sh) (issueS sh pl l p k).2.2 a':=by
 have hlen:=h.len
 unfold registry_Registry_Issue_b issueS
 rw[io_lt,io_le,digest_Is_eq]
 by_cases h1:p<0
 ·rw[if_pos (.inl h1),decide_eq_true h1]
  exact⟨a,rfl,ha⟩
 ·rw[decide_eq_false h1,cond_false]
  by_cases h2:pl≤p
  ·rw[if_pos (.inr (.inl h2)),decide_eq_true h2]
   exact⟨a,rfl,ha⟩
  ·rw[decide_eq_false h2,cond_false,Option.bind_some,io_not]
   cases hk:isS k with
   | false =>
    rw[if_pos (.inr (.inr rfl))]
    exact⟨a,rfl,ha⟩
   | true =>
    have hc:¬ (p<0∨pl≤p∨true=false):=by
     rintro (h | h | h)
     ·exact h1 h
     ·exact h2 h
     ·cases h
    rw[if_neg hc]
    simp only[Bool.not_true,Option.bind_some,cond_false,io_lenM,ttlF_len,io_le]
    have h4:¬ (4000:Int)≤(l.length:Int):=by omega
    rw[decide_eq_false h4,cond_false,ha.eq p,io_not,io_eqi,ser_new h.sh0 h.sh1 _ (by omega)]
    by_cases hat:atS (baseS sh) l p=0
    ·rw[decide_eq_true hat,if_neg (by omega),Bool.not_true,cond_false]
     have hadd:=add_at h ha (e:=newE sh l.length p k) (by omega) hat (onP_iff.2 ⟨rfl,rfl⟩)
     refine⟨_,?_,hadd.2⟩
     rw[← ttlF_app]
     rfl
    ·rw[decide_eq_false hat,if_pos hat]
     exact⟨a,rfl,ha⟩
def chgS (b:Int)(l:List Entry)(s:Int)(f:Entry→Int×Entry):Int×List Entry :=
 match lookS b l s with
 | none=>(11,l)
 | some e=>if 0<e.gone then (27,l) else if (f e).1≠0 then ((f e).1,l) else (0,l.set (s - b).toNat (f e).2)
structure ChgOk (sh pl:Int)(l:List Entry)(i:Nat)(e e':Entry):Prop where
 ent:EntOk sh pl i e'
 at_:0≤e'.Title.Place→e'.gone=0→atS (baseS sh) l e'.Title.Place=0∨atS (baseS sh) l e'.Title.Place=baseS sh+i
theorem chg_inv {sh pl:Int}{l:List Entry}{a:List (Int×Int)}(h:InvL sh pl l)(ha:InvA (baseS sh) l a){i:Nat}{e e':Entry}(hi:l[i]?=some e)(hg:e.gone=0)(hok:ChgOk sh pl l i e e') :
  InvL sh pl (l.set i e')∧InvA (baseS sh) (l.set i e') (chA a (baseS sh+i) e e'):=by
 have hil:=(List.getElem?_eq_some_iff.1 hi).1
 obtain⟨hu,hA⟩:=change_at h ha hi hg hok.at_
 exact⟨{
  sh0:=h.sh0
  sh1:=h.sh1
  pl0:=h.pl0
  pl1:=h.pl1
  len:=by rw[List.length_set];exact h.len
  ent:=fun j f hf=>by
   by_cases hj:j=i
   ·subst hj
    rw[List.getElem?_set_self hil] at hf
    obtain rfl:e'=f:=by simpa using hf
    exact hok.ent
   ·rw[List.getElem?_set_ne (fun h=>hj h.symm)] at hf
    exact h.ent j f hf
  uniq:=hu },hA⟩
theorem tail_eq (b:Int)(l:List Entry)(a:List (Int×Int))(i:Nat)(e e':Entry)(hi:l[i]?=some e) :
  (Option.bind (some (mputG (ttlF b l) (b+i) e')) fun m3 =>
   Option.bind (bif (io.le 0 e.Title.Place) then (Option.bind (some (mdelG a e.Title.Place)) fun m5=>some m5) else some a) fun own4 =>
   Option.bind (bif (io.le 0 e'.Title.Place) then some (io.eq e'.gone 0) else some false) fun v6 =>
   bif v6 then (Option.bind (some (mputG own4 e'.Title.Place (b+i))) fun m7=>some ((0:Int),m3,m7)) else some (0,m3,own4))=some (0,ttlF b (l.set i e'),chA a (b+i) e e'):=by
 have hil:=(List.getElem?_eq_some_iff.1 hi).1
 rw[ttlF_set l b i e' hil,io_le,io_le,io_eqi]
 unfold chA
 by_cases h1:0≤e.Title.Place
 ·rw[decide_eq_true h1,if_pos h1]
  by_cases h2:0≤e'.Title.Place
  ·rw[decide_eq_true h2]
   by_cases h3:e'.gone=0
   ·rw[decide_eq_true h3,if_pos ⟨h2,h3⟩];rfl
   ·rw[decide_eq_false h3,if_neg (fun h=>h3 h.2)];rfl
  ·rw[decide_eq_false h2,if_neg (fun h=>h2 h.1)];rfl
 ·rw[decide_eq_false h1,if_neg h1]
  by_cases h2:0≤e'.Title.Place
  ·rw[decide_eq_true h2]
   by_cases h3:e'.gone=0
   ·rw[decide_eq_true h3,if_pos ⟨h2,h3⟩];rfl
   ·rw[decide_eq_false h3,if_neg (fun h=>h3 h.2)];rfl
  ·rw[decide_eq_false h2,if_neg (fun h=>h2 h.1)];rfl
def revE (now:Int)(e:Entry):Int×Entry:=(0,⟨e.Title,now⟩)
def revokeS (sh:Int)(l:List Entry)(s now:Int):Int×List Entry:=if now<1∨1000000000<now then (1,l) else chgS (baseS sh) l s (revE now)
def movT (p:Int)(t:Title):Title:=⟨t.Serial,t.Show,p,t.First,t.Chain⟩
def movE (sh:Int)(l:List Entry)(s p:Int)(e:Entry):Int×Entry:=if atS (baseS sh) l p≠0∧atS (baseS sh) l p≠s then (16,e) else (0,⟨movT p e.Title,e.gone⟩)
def moveS (sh pl:Int)(l:List Entry)(s p:Int):Int×List Entry:=if p < -1∨pl≤p then (1,l) else chgS (baseS sh) l s (movE sh l s p)
def pasT (x:Transfer)(t:Title):Title:=⟨t.Serial,t.Show,t.Place,t.First,t.Chain++[x]⟩
def pasE (x:Transfer)(e:Entry):Int×Entry:=if 50≤e.Title.Chain.length then (3,e) else if validS (pasT x e.Title)=true then (0,⟨pasT x e.Title,e.gone⟩) else (20,e)
def passS (sh:Int)(l:List Entry)(s:Int)(x:Transfer):Int×List Entry:=chgS (baseS sh) l s (pasE x)
theorem ent_gone {sh pl:Int}{i:Nat}{e:Entry}(h:EntOk sh pl i e)(hg:¬ 0<e.gone):e.gone=0:=by have:=h.g;omega
theorem rev_ok {sh pl:Int}{l:List Entry}{i:Nat}{e:Entry}(h:EntOk sh pl i e)(now:Int)(hn:0<now):ChgOk sh pl l i e (revE now e).2 :=
 ⟨⟨h.ser,h.sh,h.p0,h.p1,Int.le_of_lt hn,h.v⟩,fun _ h2=>by have h2:now=0:=h2;omega⟩
theorem revoke_eq {sh pl:Int}{l:List Entry}{a:List (Int×Int)}(h:InvL sh pl l)(ha:InvA (baseS sh) l a)(s now:Int) :
  ∃ a',registry_Registry_Revoke_b sh pl (ttlF (baseS sh) l) a s now=some ((revokeS sh l s now).1,ttlF (baseS sh) (revokeS sh l s now).2,a')∧InvL sh pl (revokeS sh l s now).2∧InvA (baseS sh) (revokeS sh l s now).2 a':=by
 unfold registry_Registry_Revoke_b revokeS
 rw[io_lt,io_lt]
 by_cases h1:now<1
 ·rw[if_pos (.inl h1),decide_eq_true h1]
  exact⟨a,rfl,h,ha⟩
 ·rw[decide_eq_false h1,cond_false,Option.bind_some]
  by_cases h2:1000000000<now
  ·rw[if_pos (.inr h2),decide_eq_true h2]
   exact⟨a,rfl,h,ha⟩
  ·rw[if_neg (by omega),decide_eq_false h2,cond_false,look_eq]
   unfold chgS
   cases hs:lookS (baseS sh) l s with
   | none=>exact⟨a,rfl,h,ha⟩
   | some e =>
    obtain⟨i,rfl,hi⟩:=lookS_some hs
    have he:=h.ent i e hi
    show ∃ a',(bif io.lt 0 e.gone then _ else _)=_∧_
    rw[io_lt]
    dsimp only
    by_cases hg:0<e.gone
    ·rw[decide_eq_true hg,if_pos hg]
     exact⟨a,rfl,h,ha⟩
    ·rw[decide_eq_false hg,if_neg hg,if_neg (fun h=>h rfl),show (baseS sh+(i:Int) - baseS sh).toNat=i by omega]
     have hc:=chg_inv h ha hi (ent_gone he hg) (rev_ok (l:=l) he now (by omega))
     refine⟨_,?_,hc.1,hc.2⟩
     rw[cond_false,Option.bind_some,io_not,io_eqi,decide_eq_true rfl,Bool.not_true,cond_false]
     exact tail_eq (baseS sh) l a i e (revE now e).2 hi
theorem mov_valid {t:Title}{p:Int}(h:validS t=true)(h0:-1≤p)(h1:p<4000):validS (movT p t)=true:=by
 have hf:=valid_formed h
 have hm:formedS (movT p t)=true:=(formedS_iff _).2 ⟨hf.h0,hf.h1,hf.k0,hf.k1,h0,h1,hf.f,hf.n,hf.c⟩
 unfold validS at h ⊢
 rw[Bool.and_eq_true] at h
 rw[hm,Bool.true_and]
 exact h.2
theorem mov_ok {sh pl:Int}{l:List Entry}{i:Nat}{e:Entry}(h:InvL sh pl l)(he:EntOk sh pl i e){p:Int}(h0:-1≤p)(h1:p<pl)(hat:¬ (atS (baseS sh) l p≠0∧atS (baseS sh) l p≠baseS sh+i)) :
  ChgOk sh pl l i e ⟨movT p e.Title,e.gone⟩:=by
 have:=h.pl1
 exact⟨⟨he.ser,he.sh,h0,h1,he.g,mov_valid he.v h0 (by omega)⟩,fun _ _=>by show atS (baseS sh) l p=0∨atS (baseS sh) l p=_;omega⟩
theorem mov_pre (v s q p:Int):(Option.bind (some v) fun y5=>Option.bind (bif (io.not (io.eq y5 0)) then some (io.not (io.eq y5 s)) else some false) fun v6=>bif v6 then some (q,(16:Int)) else some (p,0))=some (if v≠0∧v≠s then (q,16) else (p,0)):=by
 rw[Option.bind_some,io_eqi,io_eqi,io_not,io_not]
 by_cases h1:v=0
 ·rw[decide_eq_true h1,if_neg (fun h=>h.1 h1)];rfl
 ·rw[decide_eq_false h1]
  by_cases h2:v=s
  ·rw[decide_eq_true h2,if_neg (fun h=>h.2 h2)];rfl
  ·rw[decide_eq_false h2,if_pos ⟨h1,h2⟩];rfl
theorem move_eq {sh pl:Int}{l:List Entry}{a:List (Int×Int)}(h:InvL sh pl l)(ha:InvA (baseS sh) l a)(s p:Int) :
  ∃ a',registry_Registry_Move_b sh pl (ttlF (baseS sh) l) a s p=some ((moveS sh pl l s p).1,ttlF (baseS sh) (moveS sh pl l s p).2,a')∧InvL sh pl (moveS sh pl l s p).2∧InvA (baseS sh) (moveS sh pl l s p).2 a':=by
 unfold registry_Registry_Move_b moveS
 rw[io_lt,io_le]
 by_cases h1:p < -1
 ·rw[if_pos (.inl h1),decide_eq_true h1]
  exact⟨a,rfl,h,ha⟩
 ·rw[decide_eq_false h1,cond_false,Option.bind_some]
  by_cases h2:pl≤p
  ·rw[if_pos (.inr h2),decide_eq_true h2]
   exact⟨a,rfl,h,ha⟩
  ·rw[if_neg (by omega),decide_eq_false h2,cond_false,look_eq]
   unfold chgS
   cases hs:lookS (baseS sh) l s with
   | none=>exact⟨a,rfl,h,ha⟩
   | some e =>
    obtain⟨i,rfl,hi⟩:=lookS_some hs
    have he:=h.ent i e hi
    show ∃ a',(bif io.lt 0 e.gone then _ else _)=_∧_
    rw[io_lt]
    dsimp only
    by_cases hg:0<e.gone
    ·rw[decide_eq_true hg,if_pos hg]
     exact⟨a,rfl,h,ha⟩
    ·rw[decide_eq_false hg,if_neg hg,cond_false,ha.eq p,mov_pre]
     unfold movE
     by_cases hc:atS (baseS sh) l p≠0∧atS (baseS sh) l p≠baseS sh+i
     ·rw[if_pos hc,if_pos hc,if_pos (c:=((16,e):Int×Entry).1≠0) (show (16:Int)≠0 by decide)]
      refine⟨a,?_,h,ha⟩
      show (bif io.not (io.eq 16 0) then _ else _)=_
      rw[io_not,io_eqi]
      rfl
     ·rw[if_neg hc,if_neg hc,if_neg (fun h=>h rfl),show (baseS sh+(i:Int) - baseS sh).toNat=i by omega]
      have hk:=chg_inv h ha hi (ent_gone he hg) (mov_ok h he (by omega) (by omega) hc)
      refine⟨_,?_,hk.1,hk.2⟩
      show (bif io.not (io.eq 0 0) then _ else _)=_
      rw[io_not,io_eqi,decide_eq_true rfl,Bool.not_true,cond_false]
      exact tail_eq (baseS sh) l a i e ⟨movT p e.Title,e.gone⟩ hi
theorem clone_sig (l:List ByteArray)(h:l.length≤1000000):slices_Clone_2_g l=some l:=by
 unfold slices_Clone_2_g nilQ
 cases l with
 | nil=>simp[appG]
 | cons x l =>
  show (Option.bind (some ([]:List ByteArray)) fun l2=>Option.bind (appG l2 (x::l)) fun l3=>some l3)=_
  rw[Option.bind_some,appG_some (by simp only[List.length_nil];omega)]
  rfl
theorem clone_tr (l:List Transfer)(h:l.length≤1000000):slices_CloneW_g l=some l:=by
 unfold slices_CloneW_g nilQ
 cases l with
 | nil=>simp[appG]
 | cons x l =>
  show (Option.bind (some ([]:List Transfer)) fun l2=>Option.bind (appG l2 (x::l)) fun l3=>some l3)=_
  rw[Option.bind_some,appG_some (by simp only[List.length_nil];omega)]
  rfl
theorem pas_ok {sh pl:Int}{l:List Entry}{i:Nat}{e:Entry}(h:InvL sh pl l)(hi:l[i]?=some e)(he:EntOk sh pl i e){x:Transfer}(hv:validS (pasT x e.Title)=true):ChgOk sh pl l i e ⟨pasT x e.Title,e.gone⟩ :=
 ⟨⟨he.ser,he.sh,he.p0,he.p1,he.g,hv⟩,fun h1 h2=>.inr (atS_of h.uniq h.b0 h1 (.inl ⟨i,e,hi,onP_iff.2 ⟨h2,rfl⟩,rfl⟩)).symm⟩
theorem pass_eq {sh pl:Int}{l:List Entry}{a:List (Int×Int)}(h:InvL sh pl l)(ha:InvA (baseS sh) l a)(s:Int)(x:Transfer)(hx:x.Sig.length≤1000000) :
  ∃ a',registry_Registry_Pass_b sh pl (ttlF (baseS sh) l) a s x=some ((passS sh l s x).1,ttlF (baseS sh) (passS sh l s x).2,a')∧InvL sh pl (passS sh l s x).2∧InvA (baseS sh) (passS sh l s x).2 a':=by
 unfold registry_Registry_Pass_b passS chgS
 rw[look_eq]
 cases hs:lookS (baseS sh) l s with
 | none=>exact⟨a,rfl,h,ha⟩
 | some e =>
  obtain⟨i,rfl,hi⟩:=lookS_some hs
  have he:=h.ent i e hi
  have hF:=valid_formed he.v
  have hn:=hF.n
  show ∃ a',(bif io.lt 0 e.gone then _ else _)=_∧_
  rw[io_lt]
  dsimp only
  by_cases hg:0<e.gone
  ·rw[decide_eq_true hg,if_pos hg]
   exact⟨a,rfl,h,ha⟩
  ·rw[decide_eq_false hg,if_neg hg,cond_false,io_le,io_len]
   unfold pasE
   by_cases h50:50≤e.Title.Chain.length
   ·have h50':(50:Int)≤(e.Title.Chain.length:Int):=by omega
    rw[decide_eq_true h50',if_pos h50,if_pos (c:=((3,e):Int×Entry).1≠0) (show (3:Int)≠0 by decide)]
    exact⟨a,by rw[cond_true,Option.bind_some,io_not,io_eqi];rfl,h,ha⟩
   ·have h50':¬ (50:Int)≤(e.Title.Chain.length:Int):=by omega
    have hcl:=clone_tr e.Title.Chain (by omega)
    have hser:=he.ser
    have hb0:=h.b0
    have hb1:=h.b1
    have hil:=(List.getElem?_eq_some_iff.1 hi).1
    have hlen:=h.len
    have hval:title_Valid_g (pasT x e.Title)=some (validS (pasT x e.Title)):=valid_eq _ (by show 0≤e.Title.Serial;omega) (by show e.Title.Serial≤_;omega)
    unfold pasT at hval
    rw[decide_eq_false h50',if_neg h50,cond_false,clone_sig _ hx,hcl]
    simp only[Option.bind_some]
    rw[appG_some (by simp only[List.length_singleton];omega),Option.bind_some]
    rw[show (Transfer.mk x.To x.Sig)=x from rfl,hval,Option.bind_some,io_not]
    have hpT:(⟨e.Title.Serial,e.Title.Show,e.Title.Place,e.Title.First,e.Title.Chain++[x]⟩:Title)=pasT x e.Title:=rfl
    rw[hpT]
    cases hv:validS (pasT x e.Title) with
    | false =>
     rw[if_neg (show ¬ (false=true) by decide),if_pos (c:=((20,e):Int×Entry).1≠0) (show (20:Int)≠0 by decide)]
     exact⟨a,by simp only[Bool.not_false,cond_true,Option.bind_some,io_not,io_eqi];rfl,h,ha⟩
    | true =>
     rw[if_pos (show true=true from rfl),if_neg (fun h=>h rfl),Bool.not_true,cond_false,Option.bind_some,show (baseS sh+(i:Int) - baseS sh).toNat=i by omega]
     simp only[io_not,io_eqi,decide_true,Bool.not_true,cond_false]
     have hc:=chg_inv h ha hi (ent_gone he hg) (pas_ok h hi he hv)
     refine⟨_,?_,hc.1,hc.2⟩
     have:=tail_eq (baseS sh) l a i e ⟨pasT x e.Title,e.gone⟩ hi
     simp only[io_eqi] at this
     exact this
def titleS (b:Int)(l:List Entry)(s:Int):Title×Int×Int:=match lookS b l s with | some e=>(e.Title,e.gone,0) | none=>(zeroT,0,11)
theorem title_eq (sh pl:Int)(l:List Entry)(a:List (Int×Int))(s:Int):registry_Registry_Title_b sh pl (ttlF (baseS sh) l) a s=some (titleS (baseS sh) l s):=by
 unfold registry_Registry_Title_b titleS
 rw[look_eq]
 cases lookS (baseS sh) l s<;>rfl
theorem at_eq {sh pl:Int}{l:List Entry}{a:List (Int×Int)}(ha:InvA (baseS sh) l a)(m:List (Int×Entry))(p:Int):registry_Registry_At_b sh pl m a p=some (atS (baseS sh) l p):=by
 unfold registry_Registry_At_b
 rw[ha.eq]
 rfl
end Go.SX.Rg
set_option linter.unusedVariables false
namespace Go.SX.Rg
open Go Go.SX
theorem updG_set {α:Type}{xs:List α}{i:Nat}{z:α}(h:i<xs.length):(updG xs i fun _=>z)=some (xs.set i z):=by
 unfold updG
 rw[List.getElem?_eq_getElem h]
theorem rixG_some {α:Type}{xs:List α}{i:Nat}(h:i<xs.length):rixG xs (i:Int)=some i:=by
 unfold rixG
 rw[if_pos ⟨by omega,by omega⟩]
 simp
def revS (l:List Entry):List Int:=(l.filter fun e=>decide (0<e.gone)).map (·.Title.Serial)
theorem fold_rev (f:Entry→Int):∀ (l:List Entry)(s:List Int),l.foldl (fun s e=>if 0<e.gone then s++[f e] else s) s=s++(l.filter fun e=>decide (0<e.gone)).map f
 | [],s=>by simp
 | e::l,s=>by
  rw[List.foldl_cons,fold_rev f l,List.filter_cons]
  by_cases h:0<e.gone
  ·rw[if_pos h,decide_eq_true h,if_pos rfl,List.map_cons,List.append_assoc];rfl
  ·rw[if_neg h,decide_eq_false h,if_neg (by decide)]
theorem rev_len (f:Entry→Int)(l:List Entry)(k:Nat):(((l.take k).filter fun e=>decide (0<e.gone)).map f).length≤l.length:=by
 rw[List.length_map]
 have h1:=List.length_filter_le (fun e:Entry=>decide (0<e.gone)) (l.take k)
 have h2:=List.length_take_le k l
 have h3:(l.take k).length≤l.length:=by rw[List.length_take];omega
 omega
theorem ttlF_keys : ∀ (l:List Entry)(b:Int),(ttlF b l).map (·.1)=(List.range l.length).map fun i=>b+((i:Nat):Int)
 | [],_=>rfl
 | e::l,b=>by
  unfold ttlF
  rw[List.map_cons,ttlF_keys l,List.length_cons,List.range_succ_eq_map,List.map_cons,List.map_map]
  congr 1
  ·simp
  ·refine List.map_congr_left fun i _=>?_
   show b+1+(i:Int)=b+((i+1:Nat):Int)
   omega
theorem keys_sorted (b:Int)(n:Nat):sortI ((List.range n).map fun i=>b+((i:Nat):Int))=(List.range n).map fun i=>b+((i:Nat):Int):=by
 unfold sortI
 refine List.mergeSort_of_pairwise ?_
 rw[List.pairwise_map]
 refine List.Pairwise.imp ?_ List.pairwise_lt_range
 intro i j hij
 exact decide_eq_true (by omega)
theorem revoked_eq {sh pl:Int}{l:List Entry}(h:InvL sh pl l)(a:List (Int×Int)):registry_Registry_Revoked_b sh pl (ttlF (baseS sh) l) a=some (revS l):=by
 have hlen:=h.len
 have hb0:=h.b0
 have hb1:=h.b1
 have hk:sortedKeys_g (ttlF (baseS sh) l)=some ((List.range l.length).map fun i=>baseS sh+((i:Nat):Int)):=by
  have hok:keysOk (ttlF (baseS sh) l)=true:=by
   unfold keysOk
   rw[Bool.and_eq_true,ttlF_len]
   refine⟨decide_eq_true (by omega),?_⟩
   rw[List.all_eq_true]
   intro x hx
   have:x.1∈(ttlF (baseS sh) l).map (·.1):=List.mem_map_of_mem hx
   rw[ttlF_keys] at this
   obtain⟨i,hi,he⟩:=List.mem_map.1 this
   have hi:=List.mem_range.1 hi
   rw[← he,Bool.and_eq_true]
   exact⟨decide_eq_true (by omega),decide_eq_true (by omega)⟩
  unfold sortedKeys_g
  rw[hok,cond_true,sortZ_eq,ttlF_keys,keys_sorted]
 unfold registry_Registry_Revoked_b
 rw[hk,Option.bind_some]
 have hkey:∀ k:Nat,k<l.length→((List.range l.length).map fun i=>baseS sh+((i:Nat):Int))[k]?=some (baseS sh+(k:Int)):=fun k hk=>by
  rw[List.getElem?_map,List.getElem?_range hk];rfl
 have hkl:((List.range l.length).map fun i=>baseS sh+((i:Nat):Int)).length=l.length:=by rw[List.length_map,List.length_range]
 generalize ((List.range l.length).map fun i=>baseS sh+((i:Nat):Int))=keys at hkey hkl
 rw[loop_fold (step:=registry_Registry_Revoked_l2 keys (ttlF (baseS sh) l)) (fun s i=>(s,i)) l (fun s e=>if 0<e.gone then s++[e.Title.Serial] else s) [] (revS l) (fun k e he=>by
  have hk:=(List.getElem?_eq_some_iff.1 he).1
  have h1:(k:Int)<(l.length:Int):=by omega
  have hser:=(h.ent k e he).ser
  rw[fold_rev fun e=>e.Title.Serial]
  have hle:=rev_len (fun e=>e.Title.Serial) l k
  generalize ((l.take k).filter fun e=>decide (0<e.gone)).map (fun e:Entry=>e.Title.Serial)=z at hle
  rw[List.nil_append]
  unfold registry_Registry_Revoked_l2
  dsimp only
  rw[io_lt,io_len,hkl,decide_eq_true h1,cond_true,rixG_some (by rw[hkl];exact hk),Option.bind_some,hkey k hk,Option.bind_some,look_eq,lookS_at,he,io_add,wr_up (k:=k) (by omega)]
  show Option.bind (bif io.lt 0 e.gone then _ else _) _=_
  rw[io_lt]
  by_cases hg:0<e.gone
  ·rw[decide_eq_true hg,if_pos hg,cond_true,Option.bind_some,appG_some (by rw[List.length_singleton];omega),hser]
   rfl
  ·rw[decide_eq_false hg,if_neg hg];rfl) (by
  have h1:¬ (l.length:Int)<(l.length:Int):=by omega
  rw[fold_rev fun e=>e.Title.Serial,List.nil_append]
  unfold registry_Registry_Revoked_l2
  dsimp only
  rw[io_lt,io_len,hkl,decide_eq_false h1,cond_false]
  rfl)]
 rfl
end Go.SX.Rg
set_option linter.unusedVariables false
namespace Go.SX.Rg
open Go Go.SX
def secS (s:ByteArray):ByteArray:=(⟨#[115,101,99,114,101,116,32]⟩:ByteArray)++s
def firT (p:Int):ByteArray:=(⟨#[102,105,114,115,116,32]⟩:ByteArray)++numI p
def firS (p:Int):ByteArray:=publicS (secS (firT p))
theorem app_size (a b:ByteArray):(a++b).size=a.size+b.size:=ByteArray.size_append
theorem secS_size (s:ByteArray):(secS s).size=7+s.size:=app_size _ _
theorem firT_size (p:Int)(h0:-9223372036854775808≤p)(h1:p≤9223372036854775807):(firT p).size≤27:=by
 have h2:=Lib.itoa_length_le p h0 h1
 have h3:(numI p).size≤21:=by show (Lib.itoa p).toArray.size≤21;rw[List.size_toArray];exact h2
 have h4:(firT p).size=6+(numI p).size:=app_size _ _
 omega
theorem secret_eq (s:ByteArray)(h:s.size≤1000):law32_secret_g s=some (secS s):=by
 unfold law32_secret_g catG
 rw[if_pos (by show 7+s.size≤_;omega),Option.bind_some,io_cat]
 rfl
theorem num_eq (p:Int)(h0:-9223372036854775808≤p)(h1:p≤9223372036854775807):ref02_Decimal_g p=some (numI p):=Decimal_eq p h0 h1
theorem fir_eq {α:Type}(p:Int)(h0:-9223372036854775808≤p)(h1:p≤9223372036854775807)(K:ByteArray→Option α) :
  (Option.bind (ref02_Decimal_g p) fun v2=>Option.bind (catG (⟨#[102,105,114,115,116,32]⟩) v2) fun _=>Option.bind (law32_secret_g (io.cat (⟨#[102,105,114,115,116,32]⟩) v2)) K)=K (secS (firT p)):=by
 have h2:=firT_size p h0 h1
 have h3:(firT p).size=6+(numI p).size:=app_size _ _
 have hcat:catG (⟨#[102,105,114,115,116,32]⟩:ByteArray) (numI p)=some ():=by
  unfold catG
  rw[if_pos (by show 6+(numI p).size≤_;omega)]
 rw[num_eq p h0 h1,Option.bind_some,hcat,Option.bind_some,io_cat]
 show Option.bind (law32_secret_g (firT p)) K=_
 rw[secret_eq _ (by omega),Option.bind_some]
structure OpOk (x:Op):Prop where
 a0:-9223372036854775808≤x.At
 a1:x.At≤9223372036854775807
 s1:x.Serial≤9223372036854775807
 k:x.Key.size≤60
 g:x.Sig.length≤20
def keyS (x:Op):ByteArray:=if x.Key=⟨#[]⟩ then firS x.At else x.Key
theorem key_eq (x:Op)(h:OpOk x) :
  (bif (io.seq x.Key (⟨#[]⟩)) then (Option.bind (ref02_Decimal_g x.At) fun v2=>Option.bind (catG (⟨#[102,105,114,115,116,32]⟩) v2) fun _=>Option.bind (law32_secret_g (io.cat (⟨#[102,105,114,115,116,32]⟩) v2)) fun v3=>Option.bind (sign_Public_g v3) fun known4=>some known4) else some x.Key)=some (keyS x):=by
 rw[seq_dec]
 unfold keyS
 by_cases hk:x.Key=⟨#[]⟩
 ·have h2:=firT_size x.At h.a0 h.a1
  rw[decide_eq_true hk,if_pos hk,cond_true,fir_eq x.At h.a0 h.a1,public_eq _ (by rw[secS_size];omega)]
  rfl
 ·rw[decide_eq_false hk,if_neg hk,cond_false]
def knownS (l:List Op):List ByteArray:=l.flatMap fun x=>[secS (firT x.At),secS x.Key]
def KnownOk (known:List ByteArray):Prop:=known.length≤1000∧∀ k∈known,k.size≤100
theorem foldl_known : ∀ (l:List Op)(s:List ByteArray),l.foldl (fun s x=>s++[secS (firT x.At),secS x.Key]) s=s++knownS l
 | [],s=>by unfold knownS;simp
 | x::l,s=>by
  rw[List.foldl_cons,foldl_known l]
  unfold knownS
  rw[List.flatMap_cons,List.append_assoc]
theorem knownS_len : ∀ l:List Op,(knownS l).length=2 * l.length
 | []=>rfl
 | x::l=>by
  have:=knownS_len l
  unfold knownS at this ⊢
  rw[List.flatMap_cons,List.length_append,this,List.length_cons,List.length_cons,List.length_cons,List.length_nil]
  omega
theorem known_ok {l:List Op}(hl:l.length≤16)(h:∀ x∈l,OpOk x):KnownOk (knownS l):=by
 refine⟨by rw[knownS_len];omega,fun k hk=>?_⟩
 unfold knownS at hk
 obtain⟨x,hx,hk⟩:=List.mem_flatMap.1 hk
 have ho:=h x hx
 have hk1:=ho.k
 have h2:=firT_size x.At ho.a0 ho.a1
 simp only[List.mem_cons,List.not_mem_nil,or_false] at hk
 rcases hk with rfl | rfl
 ·rw[secS_size];omega
 ·rw[secS_size];omega
theorem secrets_eq (l:List Op)(hl:l.length≤16)(h:∀ x∈l,OpOk x):law32_secrets_g l=some (knownS l):=by
 unfold law32_secrets_g
 rw[loop_fold (step:=law32_secrets_l2 l) (fun s i=>(s,i)) l (fun s x=>s++[secS (firT x.At),secS x.Key]) [] (knownS l) (fun k x hx=>by
  have hk:=(List.getElem?_eq_some_iff.1 hx).1
  have h1:(k:Int)<(l.length:Int):=by omega
  have ho:=h x (List.mem_of_getElem? hx)
  have hk1:=ho.k
  have hle:(knownS (l.take k)).length≤32:=by rw[knownS_len,List.length_take];omega
  rw[foldl_known,List.nil_append]
  generalize knownS (l.take k)=z at hle
  unfold law32_secrets_l2
  dsimp only
  rw[io_lt,io_len,decide_eq_true h1,cond_true,idxG_some hx,Option.bind_some,fir_eq x.At ho.a0 ho.a1,Option.bind_some,secret_eq _ (by omega),Option.bind_some,Option.bind_some,
   appG_some (by simp only[List.length_cons,List.length_nil];omega),Option.bind_some,io_add,wr_up (k:=k) (by omega)]) (by
  have h1:¬ (l.length:Int)<(l.length:Int):=by omega
  rw[foldl_known,List.nil_append]
  unfold law32_secrets_l2
  dsimp only
  rw[io_lt,io_len,decide_eq_false h1,cond_false])]
 rfl
def transferS (x:Op)(t:Title)(known:List ByteArray):Transfer :=
 if x.Kind≠4 then ⟨x.Key,x.Sig⟩
 else match known.find? (fun k=>decide (publicS k=ownerS t)) with
  | some k=>⟨publicS (secS x.Key),signS k (msgS t (publicS (secS x.Key)))⟩
  | none=>⟨publicS (secS x.Key),[]⟩
theorem publicS_size (s:ByteArray):(publicS s).size=16:=sumS_size _
theorem publicS_is (s:ByteArray):isS (publicS s)=true:=sumS_is _
structure TitOk (t:Title):Prop where
 m:∀ to:ByteArray,to.size≤1000→MsgOk t to
 c:t.Chain.length≤1000
theorem Formed.tit {t:Title}(h:Formed t):TitOk t:=by
 refine⟨fun to ht=>?_,by have:=h.n;omega⟩
 have:=h.msg t.Chain.length to ht
 rw[cut_all] at this
 exact this
theorem zero_tit : TitOk zeroT:=⟨fun to ht=>⟨Int.le_refl _,by decide,Int.le_refl _,by decide,by decide,fun x hx=>(by cases hx),by decide,ht⟩,by decide⟩
theorem transfer_eq (x:Op)(t:Title)(known:List ByteArray)(ho:OpOk x)(ht:TitOk t)(hk:KnownOk known):law32_transfer_g x t known=some (transferS x t known):=by
 have hk1:=ho.k
 unfold law32_transfer_g transferS
 rw[io_not,io_eqi]
 by_cases h4:x.Kind=4
 ·rw[decide_eq_true h4,if_neg (fun h=>h h4),Bool.not_true,cond_false,secret_eq _ (by omega),Option.bind_some,public_eq _ (by rw[secS_size];omega),Option.bind_some]
  generalize hto:publicS (secS x.Key)=to
  have hts:to.size≤1000:=by rw[← hto,publicS_size];decide
  obtain⟨hl,hs⟩:=hk
  have hc:=ht.c
  rcases loop_find (step:=law32_transfer_l2 known t to) known (fun k=>decide (publicS k=ownerS t)) (fun _ k=>.inr ⟨to,signS k (msgS t to)⟩) (.inl ()) (fun i k hik=>by
   have hi:=(List.getElem?_eq_some_iff.1 hik).1
   have h1:(i:Int)<(known.length:Int):=by omega
   have hsz:=hs k (List.mem_of_getElem? hik)
   unfold law32_transfer_l2
   dsimp only
   rw[io_lt,io_len,decide_eq_true h1,cond_true,idxG_some hik,Option.bind_some,public_eq k (by omega),Option.bind_some,owner_eq t (by omega),Option.bind_some,seq_dec]
   by_cases hp:publicS k=ownerS t
   ·rw[decide_eq_true hp,cond_true,Option.bind_some,msg_eq t to (ht.m to hts),Option.bind_some,sign_eq k _ (by omega) (by rw[msgS_size];decide)]
    rfl
   ·rw[decide_eq_false hp,cond_false,io_add,wr_up (k:=i) (by omega)]
    rfl) (by
   have h1:¬ (known.length:Int)<(known.length:Int):=by omega
   unfold law32_transfer_l2
   dsimp only
   rw[io_lt,io_len,decide_eq_false h1,cond_false]) with ⟨i,k,hik,hp,hno,hw⟩ | ⟨hno,hw⟩
  ·have hf:known.find? (fun k=>decide (publicS k=ownerS t))=some k:=by
    rw[List.find?_eq_some_iff_getElem]
    obtain⟨hi,he⟩:=List.getElem?_eq_some_iff.1 hik
    refine⟨hp,i,hi,he,fun j hj=>?_⟩
    rw[hno j _ hj (List.getElem?_eq_getElem (by omega))]
    rfl
   rw[hf,hw,orR_r]
  ·have hf:known.find? (fun k=>decide (publicS k=ownerS t))=none:=by
    rw[List.find?_eq_none]
    intro k hk
    rw[hno k hk]
    decide
   rw[hf,hw,orR_l]
 ·rw[decide_eq_false h4,if_pos h4]
  rfl
theorem transferS_sig (x:Op)(t:Title)(known:List ByteArray)(ho:OpOk x):(transferS x t known).Sig.length≤1000000:=by
 have:=ho.g
 unfold transferS
 split
 ·show x.Sig.length≤_;omega
 ·split
  ·show (signS _ _).length≤_;rw[signS_len];decide
  ·exact Nat.zero_le _
def doS (sh pl:Int)(l:List Entry)(x:Op)(known:List ByteArray):Int×Int×List Entry :=
 if x.Kind=0 then issueS sh pl l x.At (keyS x)
 else if x.Kind=2 then (0,(revokeS sh l x.Serial x.At).1,(revokeS sh l x.Serial x.At).2)
 else if x.Kind=3 then (0,(moveS sh pl l x.Serial x.At).1,(moveS sh pl l x.Serial x.At).2)
 else (0,(passS sh l x.Serial (transferS x (titleS (baseS sh) l x.Serial).1 known)).1,(passS sh l x.Serial (transferS x (titleS (baseS sh) l x.Serial).1 known)).2)
theorem title_tit {sh pl:Int}{l:List Entry}(h:InvL sh pl l)(s:Int):TitOk (titleS (baseS sh) l s).1:=by
 unfold titleS
 cases hs:lookS (baseS sh) l s with
 | none=>exact zero_tit
 | some e =>
  obtain⟨i,_,hi⟩:=lookS_some hs
  exact(valid_formed (h.ent i e hi).v).tit
theorem title_small {sh pl:Int}{l:List Entry}(h:InvL sh pl l)(s:Int):SmallT (titleS (baseS sh) l s).1:=by
 unfold titleS
 cases hs:lookS (baseS sh) l s with
 | none=>exact zero_small
 | some e =>
  obtain⟨i,_,hi⟩:=lookS_some hs
  exact(valid_formed (h.ent i e hi).v).small
theorem do_eq {sh pl:Int}{l:List Entry}{a:List (Int×Int)}(h:InvL sh pl l)(ha:InvA (baseS sh) l a)(hl:l.length<1000)(x:Op)(ho:OpOk x)(known:List ByteArray)(hk:KnownOk known) :
  ∃ a',law32_do_b sh pl (ttlF (baseS sh) l) a x known=some ((doS sh pl l x known).1,(doS sh pl l x known).2.1,ttlF (baseS sh) (doS sh pl l x known).2.2,a')∧InvL sh pl (doS sh pl l x known).2.2∧InvA (baseS sh) (doS sh pl l x known).2.2 a':=by
 unfold law32_do_b doS
 rw[key_eq x ho,io_eqi,io_eqi,io_eqi]
 by_cases h0:x.Kind=0
 ·obtain⟨a',h1,h2⟩:=issue_eq h ha x.At (keyS x)
  rw[decide_eq_true h0,if_pos h0,cond_true,Option.bind_some,h1]
  exact⟨a',rfl,issue_inv h ha _ _ hl,h2⟩
 ·rw[decide_eq_false h0,if_neg h0,cond_false]
  by_cases h2:x.Kind=2
  ·obtain⟨a',h1,h3⟩:=revoke_eq h ha x.Serial x.At
   rw[decide_eq_true h2,if_pos h2,cond_true,h1]
   exact⟨a',rfl,h3⟩
  ·rw[decide_eq_false h2,if_neg h2,cond_false]
   by_cases h3:x.Kind=3
   ·obtain⟨a',h1,h4⟩:=move_eq h ha x.Serial x.At
    rw[decide_eq_true h3,if_pos h3,cond_true,h1]
    exact⟨a',rfl,h4⟩
   ·rw[decide_eq_false h3,if_neg h3,cond_false,title_eq]
    have htr:=transfer_eq x (titleS (baseS sh) l x.Serial).1 known ho (title_tit h x.Serial) hk
    obtain⟨a',h1,h4⟩:=pass_eq h ha x.Serial (transferS x (titleS (baseS sh) l x.Serial).1 known) (transferS_sig x _ known ho)
    refine⟨a',?_,h4⟩
    rw[Option.bind_some,Option.bind_some]
    show Option.bind (law32_transfer_g x (titleS (baseS sh) l x.Serial).1 known) _=_
    rw[htr,Option.bind_some,h1]
    rfl
theorem chg_len (b:Int)(l:List Entry)(s:Int)(f:Entry→Int×Entry):(chgS b l s f).2.length=l.length:=by
 unfold chgS
 split
 ·rfl
 ·split
  ·rfl
  ·split
   ·rfl
   ·show (l.set _ _).length=_;rw[List.length_set]
theorem do_len (sh pl:Int)(l:List Entry)(x:Op)(known:List ByteArray):(doS sh pl l x known).2.2.length≤l.length+1:=by
 unfold doS
 split
 ·unfold issueS
  split
  ·exact Nat.le_succ _
  ·split
   ·exact Nat.le_succ _
   ·show (l++[_]).length≤_;rw[List.length_append,List.length_singleton];omega
 ·split
  ·show (revokeS sh l x.Serial x.At).2.length≤_
   unfold revokeS
   split
   ·exact Nat.le_succ _
   ·rw[chg_len];exact Nat.le_succ _
  ·split
   ·show (moveS sh pl l x.Serial x.At).2.length≤_
    unfold moveS
    split
    ·exact Nat.le_succ _
    ·rw[chg_len];exact Nat.le_succ _
   ·show (passS sh l x.Serial _).2.length≤_
    unfold passS
    rw[chg_len];exact Nat.le_succ _
def playS (sh pl:Int)(known:List ByteArray)(ops:List Op):List Entry:=ops.foldl (fun l x=>(doS sh pl l x known).2.2) []
def shS (w:Int):Int:=w % 20
theorem sh_rem {w:Int}(h0:0≤w)(h1:w≤255):io.rem (io.wrap .i64 w) 20=shS w:=by
 rw[io_wrap,wr64 (by omega) (by omega),io_rem,Int.tmod_eq_emod_of_nonneg h0]
 rfl
theorem new_eq {sh pl:Int}(h0:0≤sh)(h1:sh<20)(p0:0≤pl)(p1:pl≤4000):registry_New_b sh pl=some false:=by
 unfold registry_New_b
 rw[io_lt,io_le,io_lt,io_lt,decide_eq_false (by omega),decide_eq_false (by omega),decide_eq_false (by omega),decide_eq_false (by omega)]
 rfl
theorem new_no {sh pl:Int}(h:¬ (0≤sh∧sh<20∧0≤pl∧pl≤4000)):registry_New_b sh pl=some true:=by
 unfold registry_New_b
 rw[io_lt,io_le,io_lt,io_lt]
 by_cases h1:sh<0
 ·rw[decide_eq_true h1];rfl
 ·rw[decide_eq_false h1,cond_false]
  by_cases h2:20≤sh
  ·rw[decide_eq_true h2];rfl
  ·rw[decide_eq_false h2,cond_false]
   by_cases h3:pl<0
   ·rw[decide_eq_true h3];rfl
   ·rw[decide_eq_false h3,cond_false,decide_eq_true (show 4000<pl by omega)];rfl
theorem play_snoc (sh pl:Int)(known:List ByteArray)(ops:List Op)(k:Nat)(x:Op)(h:ops[k]?=some x):playS sh pl known (ops.take (k+1))=(doS sh pl (playS sh pl known (ops.take k)) x known).2.2:=by
 unfold playS
 rw[List.take_add_one,h]
 rw[List.foldl_append]
 rfl
theorem play_len (sh pl:Int)(known:List ByteArray)(ops:List Op):∀ k:Nat,k≤ops.length→(playS sh pl known (ops.take k)).length≤k
 | 0,_=>Nat.zero_le _
 | k+1,h=>by
  have hx:ops[k]?=some (ops[k]'(by omega)):=List.getElem?_eq_getElem _
  rw[play_snoc sh pl known ops k _ hx]
  have h1:=do_len sh pl (playS sh pl known (ops.take k)) (ops[k]'(by omega)) known
  have h2:=play_len sh pl known ops k (by omega)
  omega
theorem played_eq {w:Int}(h0:0≤w)(h1:w≤255)(ops:List Op)(hl:ops.length≤16)(hops:∀ x∈ops,OpOk x) :
  ∃ a,law32_played_b w ops=some (shS w,8,ttlF (baseS (shS w)) (playS (shS w) 8 (knownS ops) ops),a)∧InvL (shS w) 8 (playS (shS w) 8 (knownS ops) ops)∧InvA (baseS (shS w)) (playS (shS w) 8 (knownS ops) ops) a:=by
 have s0:0≤shS w:=by unfold shS;omega
 have s1:shS w<20:=by unfold shS;omega
 have hkn:=known_ok hl hops
 unfold law32_played_b
 rw[show divG 20=some () from rfl,Option.bind_some,sh_rem h0 h1,new_eq s0 s1 (by decide) (by decide)]
 show ∃ a,(Option.bind (law32_secrets_g ops) _)=_∧_
 rw[secrets_eq ops hl hops,Option.bind_some]
 generalize hkk:knownS ops=known at hkn
 obtain⟨t,ht,a,rfl,hL,hA⟩:=loop_up (step:=law32_played_l2 ops w known) (fun (s:List (Int×Entry)×List (Int×Int)) i=>(s.1,s.2,i)) ops.length
  (fun k s=>∃ a,s=(ttlF (baseS (shS w)) (playS (shS w) 8 known (ops.take k)),a)∧InvL (shS w) 8 (playS (shS w) 8 known (ops.take k))∧InvA (baseS (shS w)) (playS (shS w) 8 known (ops.take k)) a)
  (fun t=>∃ a,t=(ttlF (baseS (shS w)) (playS (shS w) 8 known ops),a)∧InvL (shS w) 8 (playS (shS w) 8 known ops)∧InvA (baseS (shS w)) (playS (shS w) 8 known ops) a)
  (fun k s hk hI=>by
   obtain⟨a,rfl,hL,hA⟩:=hI
   have hx:ops[k]?=some ops[k]:=List.getElem?_eq_getElem hk
   have hlt:(k:Int)<(ops.length:Int):=by omega
   have hpl:=play_len (shS w) 8 known ops k (by omega)
   obtain⟨a',h2,h3,h4⟩:=do_eq hL hA (by omega) ops[k] (hops _ (List.getElem_mem hk)) known hkn
   refine .inl ⟨(ttlF (baseS (shS w)) (playS (shS w) 8 known (ops.take (k+1))),a'),?_,a',rfl,?_,?_⟩
   ·unfold law32_played_l2
    dsimp only
    rw[io_lt,io_len,decide_eq_true hlt,cond_true,idxG_some hx,Option.bind_some,sh_rem h0 h1,h2,io_add,wr_up (k:=k) (by omega),play_snoc _ _ _ _ _ _ hx]
    rfl
   ·rw[play_snoc _ _ _ _ _ _ hx];exact h3
   ·rw[play_snoc _ _ _ _ _ _ hx];exact h4)
  (fun s hI=>by
   obtain⟨a,rfl,hL,hA⟩:=hI
   have hlt:¬ (ops.length:Int)<(ops.length:Int):=by omega
   rw[List.take_length] at hL hA ⊢
   refine⟨_,?_,a,rfl,hL,hA⟩
   unfold law32_played_l2
   dsimp only
   rw[io_lt,io_len,decide_eq_false hlt,cond_false])
  ([],[]) ⟨[],rfl,InvL.nil s0 s1 (by decide) (by decide),InvA.nil _⟩
 have ht:whileG (law32_played_l2 ops w known) ([],[],0)=some (ttlF (baseS (shS w)) (playS (shS w) 8 known ops),a):=ht
 refine⟨a,?_,hL,hA⟩
 rw[ht]
 rfl
theorem loop_one {τ:Type}{step:Int→Option (Int ⊕ τ)}(n:Nat)(t:τ)(hs:∀ k:Nat,k<n→step ((k+1:Nat):Int)=some (.inl ((k+2:Nat):Int)))(he:step ((n+1:Nat):Int)=some (.inr t)):whileG step 1=some t:=by
 obtain⟨t',h1,rfl⟩:=loop_up (step:=step) (fun (_:Unit) i=>i+1) n (fun _ _=>True) (fun t'=>t'=t)
  (fun k _ hk _=>.inl ⟨(),by
   have:=hs k hk
   rw[show ((k+1:Nat):Int)=(k:Int)+1 by omega] at this
   rw[this,show ((k+2:Nat):Int)=((k+1:Nat):Int)+1 by omega],trivial⟩)
  (fun _ _=>⟨t,by
   rw[show ((n+1:Nat):Int)=(n:Int)+1 by omega] at he
   exact he,rfl⟩) () trivial
 exact h1
theorem loop_nat {τ:Type}{step:Int→Option (Int ⊕ τ)}(n:Nat)(t:τ)(hs:∀ k:Nat,k<n→step (k:Int)=some (.inl ((k+1:Nat):Int)))(he:step (n:Int)=some (.inr t)):whileG step 0=some t:=by
 obtain⟨t',h1,rfl⟩:=loop_up (step:=step) (fun (_:Unit) i=>i) n (fun _ _=>True) (fun t'=>t'=t)
  (fun k _ hk _=>.inl ⟨(),hs k hk,trivial⟩) (fun _ _=>⟨t,he,rfl⟩) () trivial
 exact h1
theorem rev_length (l:List Entry):(revS l).length≤l.length:=by
 unfold revS
 rw[List.length_map]
 exact List.length_filter_le _ _
theorem ser_k {sh:Int}(h0:0≤sh)(h1:sh<20)(k:Nat)(hk:k≤100000):io.ar .add .i64 (io.ar .mul .i64 (io.ar .add .i64 sh 1) 10000) ((k+1:Nat):Int)=baseS sh+k:=by
 rw[ser_base h0 h1,io_add,wr64 (by omega) (by omega)]
 unfold baseS
 omega
theorem up_one (k:Nat)(h:k≤100000):io.ar .add .i64 ((k+1:Nat):Int) 1=((k+2:Nat):Int):=by
 rw[io_add,wr64 (by omega) (by omega)]
 omega
theorem same_true {sh pl:Int}{l:List Entry}{a a2:List (Int×Int)}(h:InvL sh pl l)(ha:InvA (baseS sh) l a)(ha2:InvA (baseS sh) l a2)(n:Nat)(hn:n≤1000) :
  law32_same_b sh pl (ttlF (baseS sh) l) a sh pl (ttlF (baseS sh) l) a2 sh 8 (n:Int)=some true:=by
 unfold law32_same_b
 rw[loop_one (step:=law32_same_l2 (n:Int) sh pl (ttlF (baseS sh) l) a sh sh pl (ttlF (baseS sh) l) a2) n (.inl ()) (fun k hk=>by
  have h1:((k+1:Nat):Int)≤(n:Int):=by omega
  unfold law32_same_l2
  dsimp only
  rw[io_le,decide_eq_true h1,cond_true,ser_k h.sh0 h.sh1 k (by omega),title_eq,title_eq,up_one k (by omega)]
  have hs:=same_refl _ (title_small h (baseS sh+(k:Int)))
  generalize titleS (baseS sh) l (baseS sh+(k:Int))=q at hs
  obtain⟨⟨q1,q2,q3,q4,q5⟩,q6,q7⟩:=q
  dsimp only at hs
  simp only[Option.bind_some,io_not,io_eqi,decide_true,Bool.not_true,cond_false,hs]) (by
  have h1:¬ ((n+1:Nat):Int)≤(n:Int):=by omega
  unfold law32_same_l2
  dsimp only
  rw[io_le,decide_eq_false h1,cond_false]),orR_l]
 rw[loop_nat (step:=law32_same_l4 8 sh pl (ttlF (baseS sh) l) a sh pl (ttlF (baseS sh) l) a2) 8 (.inl ()) (fun k hk=>by
  have h1:(k:Int)<8:=by omega
  unfold law32_same_l4
  dsimp only
  rw[io_lt,decide_eq_true h1,cond_true,at_eq ha,Option.bind_some,at_eq ha2,Option.bind_some,Option.bind_some,io_not,io_eqi,decide_eq_true rfl,io_add,wr_up (k:=k) (by omega)]
  rfl) (by
  have h1:¬ ((8:Nat):Int)<8:=by omega
  unfold law32_same_l4
  dsimp only
  rw[io_lt,decide_eq_false h1,cond_false]),orR_l]
 have:=rev_length l
 have:=h.len
 rw[revoked_eq h,Option.bind_some,revoked_eq h,Option.bind_some,ints_refl _ (by omega),Option.bind_some]
def fewO (x:Op):Bool:=decide (x.Key.size≤60)&&(decide (x.Sig.length≤20)&&x.Sig.all fun s=>decide (s.size≤60))
def fewS (l:List Op):Bool:=l.all fewO&&decide (l.length≤16)
theorem lt60 (n:Nat)(m:Nat):decide ((m:Int)<(n:Int))=!decide (n≤m):=by
 by_cases h:n≤m
 ·rw[decide_eq_true h,decide_eq_false (by omega)];rfl
 ·rw[decide_eq_false h,decide_eq_true (by omega)];rfl
theorem any_notZ (l:List ByteArray):(l.any fun s=>!decide (s.size≤60))=!(l.all fun s=>decide (s.size≤60)):=by
 rw[List.any_eq_not_all_not]
 simp only[Bool.not_not]
theorem sfew_eq (s:List ByteArray)(h:s.length≤20):ref02_Few_g s 60=some (s.all fun s=>decide (s.size≤60)):=by
 unfold ref02_Few_g
 rw[loop_any (step:=ref02_Few_l2 s 60) s (fun s=>!decide (s.size≤60)) (.inr false) (.inl ()) (fun k x hx=>by
  have hk:=(List.getElem?_eq_some_iff.1 hx).1
  have h1:(k:Int)<(s.length:Int):=by omega
  unfold ref02_Few_l2
  dsimp only
  rw[io_lt,io_len,decide_eq_true h1,cond_true,idxG_some hx,Option.bind_some,io_lt,io_ssz,show (60:Int)=((60:Nat):Int) from rfl,lt60,io_add,wr_up (k:=k) (by omega)]
  cases decide (x.size≤60)<;>rfl) (by
  have h1:¬ (s.length:Int)<(s.length:Int):=by omega
  unfold ref02_Few_l2
  dsimp only
  rw[io_lt,io_len,decide_eq_false h1,cond_false]),any_notZ]
 cases s.all fun s=>decide (s.size≤60) with
 | false=>rfl
 | true=>rw[if_neg (by decide),orR_l,io_le,io_len,decide_eq_true (by omega)]
theorem any_notF (l:List Op):(l.any fun s=>!fewO s)=!(l.all fewO):=by
 rw[List.any_eq_not_all_not]
 simp only[Bool.not_not]
theorem few_eq (l:List Op)(hl:l.length≤maxLen):law32_few_g l=some (fewS l):=by
 have hl:l.length≤9223372036854775807:=hl
 unfold law32_few_g fewS
 rw[loop_any (step:=law32_few_l2 l) l (fun x=>!fewO x) (.inr false) (.inl ()) (fun k x hx=>by
  have hk:=(List.getElem?_eq_some_iff.1 hx).1
  have h1:(k:Int)<(l.length:Int):=by omega
  unfold law32_few_l2
  dsimp only
  rw[io_lt,io_len,decide_eq_true h1,cond_true,idxG_some hx,Option.bind_some,io_lt,io_ssz,show (60:Int)=((60:Nat):Int) from rfl,lt60,io_add,wr_up (k:=k) (by omega)]
  unfold fewO
  cases decide (x.Key.size≤60) with
  | false=>rfl
  | true =>
   rw[Bool.not_true,cond_false,Option.bind_some,io_lt,io_len,show (20:Int)=((20:Nat):Int) from rfl,lt60]
   by_cases h20:x.Sig.length≤20
   ·rw[decide_eq_true h20,Bool.not_true,cond_false,Option.bind_some,show ((60:Nat):Int)=60 from rfl,sfew_eq _ h20,Option.bind_some,io_not]
    cases x.Sig.all fun s=>decide (s.size≤60)<;>rfl
   ·rw[decide_eq_false h20];rfl) (by
  have h1:¬ (l.length:Int)<(l.length:Int):=by omega
  unfold law32_few_l2
  dsimp only
  rw[io_lt,io_len,decide_eq_false h1,cond_false]),any_notF]
 cases l.all fewO with
 | false=>rfl
 | true =>
  rw[if_neg (by decide),orR_l,io_le,io_len,Bool.true_and]
  congr 1
  by_cases h:l.length≤16
  ·rw[decide_eq_true h,decide_eq_true (by omega)]
  ·rw[decide_eq_false h,decide_eq_false (by omega)]
structure OpIn (x:Op):Prop where
 a0:-9223372036854775808≤x.At
 a1:x.At≤9223372036854775807
 s1:x.Serial≤9223372036854775807
theorem few_ops {l:List Op}(h:fewS l=true)(hi:∀ x∈l,OpIn x):l.length≤16∧∀ x∈l,OpOk x:=by
 unfold fewS at h
 rw[Bool.and_eq_true,decide_eq_true_eq] at h
 refine⟨h.2,fun x hx=>?_⟩
 have h1:=List.all_eq_true.1 h.1 x hx
 unfold fewO at h1
 simp only[Bool.and_eq_true,decide_eq_true_eq] at h1
 have h2:=hi x hx
 exact⟨h2.a0,h2.a1,h2.s1,h1.1,h1.2.1⟩
end Go.SX.Rg
set_option linter.unusedVariables false
namespace Go.SX.Rg
open Go Go.SX
def hx (d:Nat):Nat:=if d<10 then 48+d else 87+d
def gH (n i:Nat):Nat:=if i<16 then hx (n / 16 ^ (15 - i) % 16) else if i=16 then 1 else 0
def blkG (g:Nat→Nat)(f:Nat):Nat→Nat
 | 0=>0
 | n+1=>g f+256 * blkG g (f+1) n
def sum1 (n:Nat):Nat:=mixN (mixN (mixN (7046029254386353131 ^^^ blkG (gH n) 0 8) ^^^ blkG (gH n) 8 8) ^^^ blkG (gH n) 16 8)
def chain1 (n:Nat):Nat→Nat
 | 0=>n
 | k+1=>chain1 (sum1 n) k
def dig2 (n:Nat):List UInt8:=if n<10 then [UInt8.ofNat (48+n)] else [UInt8.ofNat (48+n / 10),UInt8.ofNat (48+n % 10)]
def txt2 (x:List UInt8):List UInt8:=dig2 x.length++[58]++x
def start2 (i:Nat):Nat:=sumN (txt2 [107]++txt2 (dig2 i))
def ends2 : List Nat:=(List.range 18).map fun i=>chain1 (start2 i) 15
theorem hexD_nat (d:Nat)(h:d<16):(hexD d).toNat=hx d:=by
 match d,h with
 | 0,_ | 1,_ | 2,_ | 3,_ | 4,_ | 5,_ | 6,_ | 7,_ | 8,_ | 9,_ | 10,_ | 11,_ | 12,_ | 13,_ | 14,_ | 15,_=>rfl
 | d+16,h=>omega
theorem byN_hex (n i:Nat):byN (hexN 16 n) i=gH n i:=by
 unfold byN gH
 rw[hexN_len]
 by_cases h:i<16
 ·rw[if_pos h,if_pos h,hexN_eq,List.getD_eq_getElem?_getD,List.getElem?_map,List.getElem?_range h,Option.map_some,Option.getD_some,hexD_nat _ (Nat.mod_lt _ (by decide))]
 ·rw[if_neg h,if_neg h]
theorem blkR_G (l:List UInt8)(g:Nat→Nat)(h:∀ i,byN l i=g i):∀ (n f:Nat),blkR l f n=blkG g f n
 | 0,f=>rfl
 | n+1,f=>by unfold blkR blkG;rw[h,blkR_G l g h n]
theorem sum_hex (n:Nat):sumN (hexN 16 n)=sum1 n:=by
 have hb:=blkR_G (hexN 16 n) (gH n) (byN_hex n)
 unfold sumN sum1
 rw[hexN_len]
 generalize hexN 16 n=l at hb
 show sumK l 3=_
 unfold sumK sumK sumK sumK
 rw[hb,hb,hb]
def hexT (n:Nat):ByteArray:=⟨(hexN 16 n).toArray⟩
theorem sumS_T (t:ByteArray):sumS t=hexT (sumN t.data.toList):=by unfold sumS hexT;rfl
theorem hexT_list (n:Nat):(hexT n).data.toList=hexN 16 n:=by unfold hexT;rfl
theorem sumS_hex (n:Nat):sumS (hexT n)=hexT (sum1 n):=by rw[sumS_T,hexT_list,sum_hex]
theorem chain_hex : ∀ (k n:Nat),chainS (hexT n) k=hexT (chain1 n k)
 | 0,n=>by unfold chainS chain1;rfl
 | k+1,n=>by unfold chainS chain1;rw[sumS_hex,chain_hex k]
theorem dec2 (n:Nat)(h:n<100):Lib.decDigits n=dig2 n:=by
 unfold dig2
 rw[Lib.decDigits]
 by_cases h1:n<10
 ·rw[dif_pos h1,if_pos h1]
 ·rw[dif_neg h1,if_neg h1,Lib.decDigits,dif_pos (by omega)]
  rfl
theorem txtP2 (x:ByteArray)(l:List UInt8)(h:x.data.toList=l)(hl:l.length<100):txtP x=txt2 l:=by
 have hs:=size_list x
 unfold txtP txt2
 rw[Lib.itoa_nonneg,h,show x.size=l.length by rw[hs,h],dec2 _ hl]
theorem dig2_len (i:Nat):(dig2 i).length≤2:=by unfold dig2;split<;>simp
theorem start_hex (i:Nat)(h:i<18):startS ⟨#[107]⟩ i=hexT (start2 i):=by
 have e1:txtP ⟨#[107]⟩=txt2 [107]:=txtP2 _ _ rfl (by decide)
 have e2:txtP (numB i)=txt2 (dig2 i):=txtP2 _ _ (by
  show (Lib.itoa (i:Int)).toArray.toList=_
  rw[Lib.itoa_nonneg,dec2 i (by omega)]) (by have:=dig2_len i;omega)
 have e3:txtZ [⟨#[107]⟩,numB i]=txt2 [107]++txt2 (dig2 i):=by
  show txtP ⟨#[107]⟩++(txtP (numB i)++[])=_
  rw[e1,e2,List.append_nil]
 unfold startS listS start2
 rw[e3,sumS_T]
theorem txtZ_hex : ∀ l:List Nat,txtZ (l.map hexT)=l.flatMap fun c=>txt2 (hexN 16 c)
 | []=>rfl
 | c::l=>by
  have h:txtP (hexT c)=txt2 (hexN 16 c):=txtP2 _ _ (hexT_list c) (by rw[hexN_len];decide)
  have e:txtZ (hexT c::l.map hexT)=txtP (hexT c)++txtZ (l.map hexT):=rfl
  rw[List.map_cons,e,txtZ_hex l,h,List.flatMap_cons]
theorem ends2_at : ends2=[17097749478301538422,7792444935610094064,484633485113072241,16184741360586346554,13116567491033419891,9696879472941449527,12701650762258358918,17030068972441313919,16620053311602023154,11363979415219467447,2399200940836808147,1964724910858654181,8359500942236105560,8258835279198496336,5687348619840191273,696784791123368958,9186358852032597128,15053316188938510867]:=by decide +kernel
theorem sum2_at : sumN (([17097749478301538422,7792444935610094064,484633485113072241,16184741360586346554,13116567491033419891,9696879472941449527,12701650762258358918,17030068972441313919,16620053311602023154,11363979415219467447,2399200940836808147,1964724910858654181,8359500942236105560,8258835279198496336,5687348619840191273,696784791123368958,9186358852032597128,15053316188938510867]:List Nat).flatMap fun c=>txt2 (hexN 16 c))=12483837858412026081:=by decide +kernel
theorem public_hex : publicS ⟨#[107]⟩=hexT 12483837858412026081:=by
 have e1:((List.range 18).map fun i=>chainS (startS ⟨#[107]⟩ i) 15)=ends2.map hexT:=by
  unfold ends2
  rw[List.map_map]
  refine List.map_congr_left fun i hi=>?_
  rw[start_hex i (List.mem_range.1 hi),chain_hex]
  rfl
 unfold publicS listS
 rw[e1,txtZ_hex,ends2_at,sumS_T]
 have:=sum2_at
 generalize ([17097749478301538422,7792444935610094064,484633485113072241,16184741360586346554,13116567491033419891,9696879472941449527,12701650762258358918,17030068972441313919,16620053311602023154,11363979415219467447,2399200940836808147,1964724910858654181,8359500942236105560,8258835279198496336,5687348619840191273,696784791123368958,9186358852032597128,15053316188938510867]:List Nat).flatMap (fun c=>txt2 (hexN 16 c))=z at this
 show hexT (sumN z.toArray.toList)=_
 rw[List.toList_toArray,this]
theorem sum_m : sumN [109]=4493593283401927581:=by decide +kernel
theorem m_hex : sumS ⟨#[109]⟩=hexT 4493593283401927581:=by
 rw[sumS_T]
 show hexT (sumN [109])=_
 rw[sum_m]
theorem key_ne : publicS ⟨#[107]⟩≠sumS ⟨#[109]⟩:=by
 rw[public_hex,m_hex]
 intro h
 have h2:=congrArg (fun t:ByteArray=>t.data.toList) h
 rw[hexT_list,hexT_list] at h2
 exact absurd h2 (by decide +kernel)
end Go.SX.Rg
