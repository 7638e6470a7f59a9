/- Parts of the proof. -/
import Derived.Test.YtlpempbeenpilaaGreatDoorZRgQ4
import Derived.Test.YtlpempbeenpilaaGreatDoorZRg33d
import Derived.Test.YtlpempbeenpilaaGreatDoorZRg44d
import Derived.Test.YtlpempbeenpilaaGreatDoorZRg53
set_option linter.unusedSimpArgs false
set_option linter.unusedVariables false
set_option linter.unusedSectionVars false
set_option linter.unusedVariables false
namespace Go.SX.Rg
open Go Go.SX
theorem c1_refl (x:Transfer)(h:x.Sig.length≤1000000):title_Extends_c1_g x x=some true:=by
 unfold title_Extends_c1_g
 rw[seq_dec,decide_eq_true rfl,cond_true,io_not,io_eqi,decide_eq_true rfl,Bool.not_true,cond_false]
 rw[loop_any (step:=title_Extends_c1_l2 x x) x.Sig (fun _=>false) (.inr false) (.inl ()) (fun k s hs=>by
  have hk:=(List.getElem?_eq_some_iff.1 hs).1
  have h1:(k:Int)<(x.Sig.length:Int):=by omega
  unfold title_Extends_c1_l2
  dsimp only
  rw[io_lt,io_len,decide_eq_true h1,cond_true,idxG_some hs,Option.bind_some,Option.bind_some,seq_dec,decide_eq_true rfl,io_not,Bool.not_true,cond_false,io_add,wr_up (k:=k) (by omega)]
  rfl) (by
  have h1:¬ (x.Sig.length:Int)<(x.Sig.length:Int):=by omega
  unfold title_Extends_c1_l2
  dsimp only
  rw[io_lt,io_len,decide_eq_false h1,cond_false]),any_false]
 rfl
structure NextT (t t':Title):Prop where
 s:t'.Serial=t.Serial
 h:t'.Show=t.Show
 f:t'.First=t.First
 c:t'.Chain=t.Chain∨∃ x,t'.Chain=t.Chain++[x]
theorem NextT.refl (t:Title):NextT t t:=⟨rfl,rfl,rfl,.inl rfl⟩
theorem NextT.pre {t t':Title}(h:NextT t t'):t'.Chain.take t.Chain.length=t.Chain∧t.Chain.length≤t'.Chain.length∧t'.Chain.length≤t.Chain.length+1:=by
 rcases h.c with h | ⟨x,h⟩
 ·rw[h,List.take_length];exact⟨rfl,Nat.le_refl _,Nat.le_succ _⟩
 ·rw[h,List.take_left' rfl,List.length_append,List.length_singleton]
  exact⟨rfl,Nat.le_succ _,Nat.le_refl _⟩
theorem ident_eq (t:Title)(s0:0≤t.Serial)(s1:t.Serial≤1000000000)(h0:0≤t.Show)(h1:t.Show≤1000000000):title_identity_g t=some ⟨numI t.Serial,numI t.Show,t.First⟩:=by
 have e1:strconv_Itoa_g t.Serial=some (numI t.Serial):=by unfold strconv_Itoa_g;rw[if_pos ⟨by omega,by omega⟩];rfl
 have e2:strconv_Itoa_g t.Show=some (numI t.Show):=by unfold strconv_Itoa_g;rw[if_pos ⟨by omega,by omega⟩];rfl
 unfold title_identity_g
 rw[e1,e2,Option.bind_some,Option.bind_some]
theorem qA3_refl (x:A3 ByteArray):qA3S x x=true:=by
 show io.and (io.seq x.a0 x.a0) (io.and (io.seq x.a1 x.a1) (io.seq x.a2 x.a2))=true
 rw[seq_dec,seq_dec,seq_dec,io_and,io_and]
 simp
theorem extends_eq {t t':Title}(h:NextT t t')(hs:SmallT t)(s0:0≤t.Serial)(s1:t.Serial≤1000000000)(h0:0≤t.Show)(h1:t.Show≤1000000000):title_Extends_g t' t=some true:=by
 obtain⟨hp,hl,_⟩:=h.pre
 obtain⟨hn,hg⟩:=hs
 have hid:title_identity_g t'=some ⟨numI t.Serial,numI t.Show,t.First⟩:=by
  rw[ident_eq t' (by rw[h.s];exact s0) (by rw[h.s];exact s1) (by rw[h.h];exact h0) (by rw[h.h];exact h1),h.s,h.h,h.f]
 have hlt:¬ (t'.Chain.length:Int)<(t.Chain.length:Int):=by omega
 have hsub:subG t'.Chain 0 (t.Chain.length:Int)=some t.Chain:=by
  unfold subG
  rw[if_pos ⟨Int.le_refl _,by omega,by omega⟩]
  show some ((t'.Chain.take t.Chain.length).drop 0)=_
  rw[hp]
  rfl
 unfold title_Extends_g
 rw[hid,Option.bind_some,ident_eq t s0 s1 h0 h1,Option.bind_some,qA3_refl,io_not,Bool.not_true,cond_false,io_lt,io_len,io_len,decide_eq_false hlt,Option.bind_some,cond_false,hsub,Option.bind_some,io_not,io_eqi,io_len,decide_eq_true rfl,Bool.not_true,cond_false]
 rw[loop_any (step:=title_Extends_l2 t.Chain t) t.Chain (fun _=>false) (.inr false) (.inl ()) (fun k x hx=>by
  have hk:=(List.getElem?_eq_some_iff.1 hx).1
  have h1:(k:Int)<(t.Chain.length:Int):=by omega
  unfold title_Extends_l2
  dsimp only
  rw[io_lt,io_len,decide_eq_true h1,cond_true,idxG_some hx,Option.bind_some,Option.bind_some,c1_refl x (hg x (List.mem_of_getElem? hx)),Option.bind_some,io_not,Bool.not_true,Option.bind_some,cond_false,io_add,wr_up (k:=k) (by omega)]
  rfl) (by
  have h1:¬ (t.Chain.length:Int)<(t.Chain.length:Int):=by omega
  unfold title_Extends_l2
  dsimp only
  rw[io_lt,io_len,decide_eq_false h1,cond_false]),any_false]
 rfl
def NextE (e e':Entry):Prop:=NextT e.Title e'.Title∧(0<e.gone→e'=e)
theorem NextE.refl (e:Entry):NextE e e:=⟨NextT.refl _,fun _=>rfl⟩
theorem chg_next {b:Int}{l:List Entry}{s:Int}{f:Entry→Int×Entry}(hf:∀ e,NextT e.Title (f e).2.Title){k:Nat}{e:Entry}(hk:l[k]?=some e):∃ e',(chgS b l s f).2[k]?=some e'∧NextE e e':=by
 by_cases h:(chgS b l s f).1=0
 ·obtain⟨i,e2,_,hi,hg,_,hset⟩:=chg_yes h
  rw[hset]
  by_cases hki:k=i
  ·subst hki
   rw[hk] at hi
   cases hi
   refine⟨_,List.getElem?_set_self (List.getElem?_eq_some_iff.1 hk).1,hf e,fun hc=>absurd hc hg⟩
  ·rw[List.getElem?_set_ne (fun h=>hki h.symm)]
   exact⟨e,hk,NextE.refl e⟩
 ·rw[chg_no h]
  exact⟨e,hk,NextE.refl e⟩
theorem do_next {sh pl:Int}{l:List Entry}{x:Op}{known:List ByteArray}{k:Nat}{e:Entry}(hk:l[k]?=some e):∃ e',(doS sh pl l x known).2.2[k]?=some e'∧NextE e e':=by
 have hsame:∃ e',l[k]?=some e'∧NextE e e':=⟨e,hk,NextE.refl e⟩
 unfold doS
 split
 ·unfold issueS
  split
  ·exact hsame
  ·split
   ·exact hsame
   ·refine⟨e,?_,NextE.refl e⟩
    show (l++[_])[k]?=_
    rw[List.getElem?_append_left (List.getElem?_eq_some_iff.1 hk).1,hk]
 ·split
  ·show ∃ e',(revokeS sh l x.Serial x.At).2[k]?=some e'∧_
   unfold revokeS
   split
   ·exact hsame
   ·exact chg_next (fun e=>NextT.refl _) hk
  ·split
   ·show ∃ e',(moveS sh pl l x.Serial x.At).2[k]?=some e'∧_
    unfold moveS
    split
    ·exact hsame
    ·refine chg_next (fun e=>?_) hk
     unfold movE
     split
     ·exact NextT.refl _
     ·exact⟨rfl,rfl,rfl,.inl rfl⟩
   ·show ∃ e',(passS sh l x.Serial _).2[k]?=some e'∧_
    unfold passS
    refine chg_next (fun e=>?_) hk
    unfold pasE
    split
    ·exact NextT.refl _
    ·split
     ·exact⟨rfl,rfl,rfl,.inr ⟨_,rfl⟩⟩
     ·exact NextT.refl _
theorem do_grow {sh pl:Int}{l:List Entry}{x:Op}{known:List ByteArray}:l.length≤(doS sh pl l x known).2.2.length:=by
 by_cases h:l.length=0
 ·omega
 ·have hk:l[l.length - 1]?=some (l[l.length - 1]'(by omega)):=List.getElem?_eq_getElem _
  obtain⟨e',h1,_⟩:=do_next (sh:=sh) (pl:=pl) (x:=x) (known:=known) hk
  have:=(List.getElem?_eq_some_iff.1 h1).1
  omega
theorem refT_snoc {l:List Entry}{j:Nat}{e:Entry}(h:l[j]?=some e):refT (l.take j)++[e.Title]=refT (l.take (j+1)):=by
 unfold refT
 rw[take_snoc h,List.map_append]
 rfl
theorem refG_snoc {l:List Entry}{j:Nat}{e:Entry}(h:l[j]?=some e):refG (l.take j)++[e.gone]=refG (l.take (j+1)):=by
 unfold refG
 rw[take_snoc h,List.map_append]
 rfl
theorem gather {w:Int}(h0:0≤w)(h1:w≤255){L:List Entry}{a:List (Int×Int)}(hL:InvL (shS w) 8 L)(i:Nat)(hi:i≤1000)(hle:L.length≤i+1) :
  whileG (law32_RegistryChains_l48 (i:Int) w (ttlF (baseS (shS w)) L) a) ([],[],1)=some (refT L,refG L):=by
 have s0:=hL.sh0
 have s1:=hL.sh1
 have hup:io.ar .add .i64 (i:Int) 1=((i+1:Nat):Int):=by rw[io_add,wr_up (k:=i) (by omega)]
 obtain⟨t,ht,rfl⟩:=loop_up (step:=law32_RegistryChains_l48 (i:Int) w (ttlF (baseS (shS w)) L) a) (fun (s:List Title×List Int) k=>(s.1,s.2,k+1)) L.length
  (fun j s=>s=(refT (L.take j),refG (L.take j))) (fun t=>t=(refT L,refG L))
  (fun j s hj hI=>by
   subst hI
   have hLj:L[j]?=some L[j]:=List.getElem?_eq_getElem hj
   generalize L[j]=e at hLj
   refine .inl ⟨(refT (L.take (j+1)),refG (L.take (j+1))),?_,rfl⟩
   have hc:((j+1:Nat):Int)≤((i+1:Nat):Int):=by omega
   have htl:(L.take j).length≤1001:=by rw[List.length_take];omega
   dsimp only
   rw[show (j:Int)+1=((j+1:Nat):Int) by omega]
   unfold law32_RegistryChains_l48
   dsimp only
   rw[hup,io_le,decide_eq_true hc,cond_true,sh_rem h0 h1,ser_k s0 s1 j (by omega),title_eq,up_one j (by omega),Option.bind_some,Option.bind_some]
   unfold titleS
   rw[lookS_at,hLj]
   dsimp only
   rw[bne_zero,decide_eq_true rfl,Bool.not_true,cond_false,Option.bind_some]
   show (Option.bind (appG (refT (L.take j)) [e.Title]) _)=_
   rw[appG_some (by rw[refT_len,List.length_singleton];omega),Option.bind_some,Option.bind_some,appG_some (by rw[refG_len,List.length_singleton];omega),Option.bind_some,refT_snoc hLj,refG_snoc hLj]
   rw[show ((j+2:Nat):Int)=((j+1:Nat):Int)+1 by omega])
  (fun s hI=>by
   subst hI
   refine⟨_,?_,rfl⟩
   rw[List.take_length]
   dsimp only
   rw[show (L.length:Int)+1=((L.length+1:Nat):Int) by omega]
   unfold law32_RegistryChains_l48
   dsimp only
   rw[hup,io_le]
   by_cases hc:((L.length+1:Nat):Int)≤((i+1:Nat):Int)
   ·rw[decide_eq_true hc,cond_true,sh_rem h0 h1,ser_k s0 s1 L.length (by omega),title_eq,Option.bind_some,Option.bind_some]
    unfold titleS
    rw[lookS_at,List.getElem?_eq_none (Nat.le_refl _)]
    dsimp only
    rw[bne_zero,decide_eq_false (show ¬ (11:Int)=0 by decide),Bool.not_false,cond_true]
   ·rw[decide_eq_false hc,cond_false])
  ([],[]) (by rw[List.take_zero];rfl)
 exact ht
theorem check {sh:Int}{L L':List Entry}(hL:InvL sh 8 L)(hL':InvL sh 8 L')(hnext:∀ (k:Nat) e,L[k]?=some e→∃ e',L'[k]?=some e'∧NextE e e') :
  whileG (law32_RegistryChains_l50 (refT L') (refT L) (refG L) (refG L')) 0=some (.inl ()):=by
 have hlen:=hL'.len
 have hb0:=hL.b0
 have hb1:=hL.b1
 refine loop_nat (step:=law32_RegistryChains_l50 (refT L') (refT L) (refG L) (refG L')) L'.length _ (fun k hk=>?_) ?_
 ·have hLk:L'[k]?=some L'[k]:=List.getElem?_eq_getElem hk
  generalize L'[k]=e' at hLk
  have he':=hL'.ent k e' hLk
  have c1:(k:Int)<(L'.length:Int):=by omega
  have hser:=he'.ser
  have hval:title_Valid_g e'.Title=some true:=by rw[valid_eq _ (by omega) (by omega),he'.v]
  have hT:=refT_at hLk
  have hG:=refG_at hLk
  have hrT:rixG (refT L') (k:Int)=some k:=rixG_some (by rw[refT_len];exact hk)
  have hrG:rixG (refG L') (k:Int)=some k:=rixG_some (by rw[refG_len];exact hk)
  unfold law32_RegistryChains_l50
  dsimp only
  rw[io_lt,io_len,refT_len,decide_eq_true c1,cond_true,hrT,Option.bind_some,hT,Option.bind_some,hval,Option.bind_some,io_not,Bool.not_true,cond_false,io_lt,io_len,refT_len,io_add,wr_up (k:=k) (by omega)]
  by_cases hkl:k<L.length
  ·have hk0:L[k]?=some L[k]:=List.getElem?_eq_getElem hkl
   generalize L[k]=e at hk0
   have he:=hL.ent k e hk0
   have hF:=valid_formed he.v
   have hser0:=he.ser
   have hf0:=hF.h0
   have hf1:=hF.h1
   obtain⟨e2,h2,hn,hgone⟩:=hnext k e hk0
   rw[hLk] at h2
   cases h2
   obtain⟨_,_,hcl⟩:=hn.pre
   have hn50:=hF.n
   have c2:(k:Int)<(L.length:Int):=by omega
   have hT0:=refT_at hk0
   have hG0:=refG_at hk0
   have hrT0:rixG (refT L) (k:Int)=some k:=rixG_some (by rw[refT_len];exact hkl)
   have hrG0:rixG (refG L) (k:Int)=some k:=rixG_some (by rw[refG_len];exact hkl)
   have hc:io.ar .add .i64 (e.Title.Chain.length:Int) 1=((e.Title.Chain.length+1:Nat):Int):=by rw[io_add,wr_up (k:=e.Title.Chain.length) (by omega)]
   have hex:title_Extends_g e'.Title e.Title=some true:=extends_eq hn hF.small (by omega) (by omega) hf0 (by omega)
   have c3:¬ ((e.Title.Chain.length+1:Nat):Int)<(e'.Title.Chain.length:Int):=by omega
   rw[decide_eq_true c2,cond_true]
   simp only[Option.bind_some,hT,hrT0,hT0,hex,io_not,Bool.not_true,cond_false,io_len,hc,io_lt,decide_eq_false c3,hrG0,hG0]
   by_cases hg:0<e.gone
   ·obtain rfl:=hgone hg
    have hsm:=same_refl _ hF.small
    rw[decide_eq_true hg,cond_true]
    simp only[Option.bind_some,hrG,hG,hrG0,hG0,io_eqi,decide_true,Bool.not_true,cond_false,hT,hrT0,hT0,hsm]
   ·rw[decide_eq_false hg,cond_false,Option.bind_some,cond_false]
  ·have c2:¬ (k:Int)<(L.length:Int):=by omega
   rw[decide_eq_false c2,cond_false,Option.bind_some,cond_false]
 ·have c1:¬ (L'.length:Int)<(L'.length:Int):=by omega
  unfold law32_RegistryChains_l50
  dsimp only
  rw[io_lt,io_len,refT_len,decide_eq_false c1,cond_false]
theorem chains_eq {w:Int}(h0:0≤w)(h1:w≤255)(l:List Op)(hl:l.length≤maxLen)(hi:∀ y∈l,OpIn y):law32_RegistryChains_g w l=some true:=by
 unfold law32_RegistryChains_g
 rw[head_eq,Option.bind_some,few_eq l hl,Option.bind_some,io_not]
 cases hf:fewS l with
 | false=>rfl
 | true =>
  obtain⟨hlen,hok⟩:=few_ops hf hi
  have hkn:=known_ok hlen hok
  have s0:0≤shS w:=by unfold shS;omega
  have s1:shS w<20:=by unfold shS;omega
  have hlw:io.len (W eOp l)=(l.length:Int):=io_len ..
  rw[Bool.not_true,cond_false,show divG 20=some () from rfl,Option.bind_some,sh_rem h0 h1,new_eq s0 s1 (by decide) (by decide)]
  show (Option.bind (law32_secrets_g l) _)=_
  rw[secrets_eq l hlen hok,Option.bind_some]
  generalize knownS l=known at hkn
  obtain⟨t,ht,rfl⟩:=loop_up (step:=law32_RegistryChains_l42 l w known) (fun (s:List (Int×Entry)×List (Int×Int)×List Title×List Int) i=>(s.1,s.2.1,s.2.2.1,s.2.2.2,i)) l.length
   (fun k s=>∃ L a,s=(ttlF (baseS (shS w)) L,a,refT L,refG L)∧InvL (shS w) 8 L∧InvA (baseS (shS w)) L a∧L.length≤k) (fun t=>t=.inl ())
   (fun k s hk1 hI=>by
    obtain⟨L,a,rfl,hL,hA,hle⟩:=hI
    have hx:l[k]?=some l[k]:=List.getElem?_eq_getElem hk1
    have hxo:=hok _ (List.getElem_mem hk1)
    have c1:(k:Int)<(l.length:Int):=by omega
    generalize l[k]=x at hx hxo
    obtain⟨a',hd,hL',hA'⟩:=do_eq hL hA (by omega) x hxo known hkn
    have hdl:=do_len (shS w) 8 L x known
    have hgr:=do_grow (sh:=shS w) (pl:=8) (l:=L) (x:=x) (known:=known)
    have hck:=check hL hL' (fun j e hj=>do_next hj)
    have hga:=gather (a:=a') h0 h1 hL' k (by omega) (by omega)
    refine .inl ⟨(ttlF (baseS (shS w)) (doS (shS w) 8 L x known).2.2,a',refT (doS (shS w) 8 L x known).2.2,refG (doS (shS w) 8 L x known).2.2),?_,_,a',rfl,hL',hA',by omega⟩
    dsimp only
    unfold law32_RegistryChains_l42
    dsimp only
    rw[hlw,io_lt,decide_eq_true c1,cond_true,idxG_some hx,Option.bind_some,sh_rem h0 h1,hd,Option.bind_some,Option.bind_some]
    dsimp only
    generalize (doS (shS w) 8 L x known).2.2=L' at hL' hA' hgr hck hga
    rw[hga,Option.bind_some]
    dsimp only
    rw[io_len,io_len,refT_len,refT_len,io_lt,decide_eq_false (show ¬ (L'.length:Int)<(L.length:Int) by omega),cond_false,hck,orR_l,orR_l,io_add,wr_up (k:=k) (by omega)])
   (fun s hI=>by
    obtain⟨L,a,rfl,hL,hA,hle⟩:=hI
    have c1:¬ (l.length:Int)<(l.length:Int):=by omega
    refine⟨_,?_,rfl⟩
    dsimp only
    unfold law32_RegistryChains_l42
    dsimp only
    rw[hlw,io_lt,decide_eq_false c1,cond_false])
   ([],[],[],[]) ⟨[],[],rfl,InvL.nil s0 s1 (by decide) (by decide),InvA.nil _,Nat.zero_le _⟩
  have ht:whileG (law32_RegistryChains_l42 l w known) ([],[],[],[],0)=_:=ht
  rw[ht]
  rfl
end Go.SX.Rg
