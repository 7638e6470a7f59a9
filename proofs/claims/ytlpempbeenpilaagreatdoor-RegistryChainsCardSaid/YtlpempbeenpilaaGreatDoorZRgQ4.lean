/- Parts of the proof. -/
import Derived.Test.YtlpempbeenpilaaGreatDoorZRgP1
import Derived.Test.YtlpempbeenpilaaGreatDoorZRg44d
import Derived.Test.YtlpempbeenpilaaGreatDoorZRg46d
import Derived.Test.YtlpempbeenpilaaGreatDoorZRg33d
import Derived.Test.YtlpempbeenpilaaGreatDoorZRg53
import Derived.Test.YtlpempbeenpilaaGreatDoorZRg30d
import Derived.Test.YtlpempbeenpilaaGreatDoorZRgH8
import Derived.Lib.ItoaLen
set_option linter.unusedSimpArgs false
set_option linter.unusedVariables false
set_option linter.unusedSectionVars false
set_option linter.unusedVariables false
namespace Go.SX.Rg
open Go Go.SX
theorem io_lenM {κ α:Type}(kw:κ→Value)(e:α→List D)(l:List (κ×α)):io.lenM (WM kw e l)=l.length:=by
 rw[io_eq]
 show ((WM kw e l).length:Int)=_
 rw[WM_len]
theorem ser_base {sh:Int}(h0:0≤sh)(h1:sh<20):io.ar .mul .i64 (io.ar .add .i64 sh 1) 10000=(sh+1) * 10000:=by
 have e1:io.ar .add .i64 sh 1=sh+1:=by rw[io_add,wr64 (by omega) (by omega)]
 rw[e1,io_mul,wr64 (by omega) (by omega)]
theorem ser_new {sh:Int}(h0:0≤sh)(h1:sh<20)(n:Nat)(hn:n≤1000000):io.ar .add .i64 (io.ar .add .i64 (io.ar .mul .i64 (io.ar .add .i64 sh 1) 10000) (n:Int)) 1=baseS sh+n:=by
 have e2:io.ar .add .i64 ((sh+1) * 10000) (n:Int)=(sh+1) * 10000+n:=by rw[io_add,wr64 (by omega) (by omega)]
 rw[ser_base h0 h1,e2,io_add,wr64 (by omega) (by omega)]
 unfold baseS
 omega
def newE (sh:Int)(n:Nat)(p:Int)(k:ByteArray):Entry:=⟨⟨baseS sh+n,sh,p,k,[]⟩,0⟩
def issueS (sh pl:Int)(l:List Entry)(p:Int)(k:ByteArray):Int×Int×List Entry :=
 if p<0∨pl≤p∨isS k=false then (0,1,l)
 else if atS (baseS sh) l p≠0 then (0,16,l)
 else (baseS sh+l.length,0,l++[newE sh l.length p k])
theorem new_valid {sh pl:Int}{n:Nat}{p:Int}{k:ByteArray}(h0:0≤sh)(h1:sh<20)(hn:n<9999)(hp:0≤p)(hp1:p<4000)(hk:isS k=true):validS (newE sh n p k).Title=true:=by
 have hf:formedS (newE sh n p k).Title=true:=(formedS_iff _).2 {
  h0:=h0
  h1:=h1
  k0:=by show 1≤baseS sh+(n:Int) - (sh+1) * 10000;unfold baseS;omega
  k1:=by show baseS sh+(n:Int) - (sh+1) * 10000≤9999;unfold baseS;omega
  p0:=by show -1≤p;omega
  p1:=hp1
  f:=hk
  n:=Nat.zero_le _
  c:=rfl }
 unfold validS
 rw[hf]
 rfl
theorem issue_inv {sh pl:Int}{l:List Entry}(h:InvL sh pl l){a:List (Int×Int)}(ha:InvA (baseS sh) l a)(p:Int)(k:ByteArray)(hl:l.length<1000):InvL sh pl (issueS sh pl l p k).2.2:=by
 unfold issueS
 split
 ·exact h
 ·rename_i hc
  have hp:0≤p:=by omega
  have hp1:p<pl:=by omega
  have hk:isS k=true:=by
   cases hk:isS k with
   | true=>rfl
   | false=>exact absurd (.inr (.inr hk)) hc
  split
  ·exact h
  ·rename_i hat
   have hat:atS (baseS sh) l p=0:=by omega
   have hadd:=add_at h ha (e:=newE sh l.length p k) hp hat (onP_iff.2 ⟨rfl,rfl⟩)
   have h2:=h.pl1
   exact {
    sh0:=h.sh0
    sh1:=h.sh1
    pl0:=h.pl0
    pl1:=h.pl1
    len:=by rw[List.length_append,List.length_singleton];omega
    ent:=fun i e he=>by
     by_cases hi:i<l.length
     ·rw[List.getElem?_append_left hi] at he
      exact h.ent i e he
     ·have h1:=(List.getElem?_eq_some_iff.1 he).1
      rw[List.length_append,List.length_singleton] at h1
      obtain rfl:i=l.length:=by omega
      rw[List.getElem?_append_right (Nat.le_refl _),Nat.sub_self] at he
      obtain rfl:newE sh l.length p k=e:=by simpa using he
      exact⟨rfl,rfl,by show -1≤p;omega,hp1,Int.le_refl _,new_valid (pl:=pl) h.sh0 h.sh1 (by omega) hp (by omega) hk⟩
    uniq:=hadd.1 }
theorem issue_eq {sh pl:Int}{l:List Entry}{a:List (Int×Int)}(h:InvL sh pl l)(ha:InvA (baseS sh) l a)(p:Int)(k:ByteArray) :
  ∃ a',registry_Registry_Issue_b sh pl (ttlF (baseS sh) l) a p k=some ((issueS sh pl l p k).1,(issueS sh pl l p k).2.1,ttlF (baseS sh) (issueS sh pl l p k).2.2,a')∧InvA (baseS sh) (issueS sh pl l p k).2.2 a':=by
 have hlen:=h.len
 unfold registry_Registry_Issue_b issueS
 rw[io_lt,io_le,digest_Is_eq]
 by_cases h1:p<0
 ·rw[if_pos (.inl h1),decide_eq_true h1]
  exact⟨a,rfl,ha⟩
 ·rw[decide_eq_false h1,cond_false]
  by_cases h2:pl≤p
  ·rw[if_pos (.inr (.inl h2)),decide_eq_true h2]
   exact⟨a,rfl,ha⟩
  ·rw[decide_eq_false h2,cond_false,Option.bind_some,io_not]
   cases hk:isS k with
   | false =>
    rw[if_pos (.inr (.inr rfl))]
    exact⟨a,rfl,ha⟩
   | true =>
    have hc:¬ (p<0∨pl≤p∨true=false):=by
     rintro (h | h | h)
     ·exact h1 h
     ·exact h2 h
     ·cases h
    rw[if_neg hc]
    simp only[Bool.not_true,Option.bind_some,cond_false,io_lenM,ttlF_len,io_le]
    have h4:¬ (4000:Int)≤(l.length:Int):=by omega
    rw[decide_eq_false h4,cond_false,ha.eq p,io_not,io_eqi,ser_new h.sh0 h.sh1 _ (by omega)]
    by_cases hat:atS (baseS sh) l p=0
    ·rw[decide_eq_true hat,if_neg (by omega),Bool.not_true,cond_false]
     have hadd:=add_at h ha (e:=newE sh l.length p k) (by omega) hat (onP_iff.2 ⟨rfl,rfl⟩)
     refine⟨_,?_,hadd.2⟩
     rw[← ttlF_app]
     rfl
    ·rw[decide_eq_false hat,if_pos hat]
     exact⟨a,rfl,ha⟩
def chgS (b:Int)(l:List Entry)(s:Int)(f:Entry→Int×Entry):Int×List Entry :=
 match lookS b l s with
 | none=>(11,l)
 | some e=>if 0<e.gone then (27,l) else if (f e).1≠0 then ((f e).1,l) else (0,l.set (s - b).toNat (f e).2)
structure ChgOk (sh pl:Int)(l:List Entry)(i:Nat)(e e':Entry):Prop where
 ent:EntOk sh pl i e'
 at_:0≤e'.Title.Place→e'.gone=0→atS (baseS sh) l e'.Title.Place=0∨atS (baseS sh) l e'.Title.Place=baseS sh+i
theorem chg_inv {sh pl:Int}{l:List Entry}{a:List (Int×Int)}(h:InvL sh pl l)(ha:InvA (baseS sh) l a){i:Nat}{e e':Entry}(hi:l[i]?=some e)(hg:e.gone=0)(hok:ChgOk sh pl l i e e') :
  InvL sh pl (l.set i e')∧InvA (baseS sh) (l.set i e') (chA a (baseS sh+i) e e'):=by
 have hil:=(List.getElem?_eq_some_iff.1 hi).1
 obtain⟨hu,hA⟩:=change_at h ha hi hg hok.at_
 exact⟨{
  sh0:=h.sh0
  sh1:=h.sh1
  pl0:=h.pl0
  pl1:=h.pl1
  len:=by rw[List.length_set];exact h.len
  ent:=fun j f hf=>by
   by_cases hj:j=i
   ·subst hj
    rw[List.getElem?_set_self hil] at hf
    obtain rfl:e'=f:=by simpa using hf
    exact hok.ent
   ·rw[List.getElem?_set_ne (fun h=>hj h.symm)] at hf
    exact h.ent j f hf
  uniq:=hu },hA⟩
theorem tail_eq (b:Int)(l:List Entry)(a:List (Int×Int))(i:Nat)(e e':Entry)(hi:l[i]?=some e) :
  (Option.bind (some (mputG (ttlF b l) (b+i) e')) fun m3 =>
   Option.bind (bif (io.le 0 e.Title.Place) then (Option.bind (some (mdelG a e.Title.Place)) fun m5=>some m5) else some a) fun own4 =>
   Option.bind (bif (io.le 0 e'.Title.Place) then some (io.eq e'.gone 0) else some false) fun v6 =>
   bif v6 then (Option.bind (some (mputG own4 e'.Title.Place (b+i))) fun m7=>some ((0:Int),m3,m7)) else some (0,m3,own4))=some (0,ttlF b (l.set i e'),chA a (b+i) e e'):=by
 have hil:=(List.getElem?_eq_some_iff.1 hi).1
 rw[ttlF_set l b i e' hil,io_le,io_le,io_eqi]
 unfold chA
 by_cases h1:0≤e.Title.Place
 ·rw[decide_eq_true h1,if_pos h1]
  by_cases h2:0≤e'.Title.Place
  ·rw[decide_eq_true h2]
   by_cases h3:e'.gone=0
   ·rw[decide_eq_true h3,if_pos ⟨h2,h3⟩];rfl
   ·rw[decide_eq_false h3,if_neg (fun h=>h3 h.2)];rfl
  ·rw[decide_eq_false h2,if_neg (fun h=>h2 h.1)];rfl
 ·rw[decide_eq_false h1,if_neg h1]
  by_cases h2:0≤e'.Title.Place
  ·rw[decide_eq_true h2]
   by_cases h3:e'.gone=0
   ·rw[decide_eq_true h3,if_pos ⟨h2,h3⟩];rfl
   ·rw[decide_eq_false h3,if_neg (fun h=>h3 h.2)];rfl
  ·rw[decide_eq_false h2,if_neg (fun h=>h2 h.1)];rfl
def revE (now:Int)(e:Entry):Int×Entry:=(0,⟨e.Title,now⟩)
def revokeS (sh:Int)(l:List Entry)(s now:Int):Int×List Entry:=if now<1∨1000000000<now then (1,l) else chgS (baseS sh) l s (revE now)
def movT (p:Int)(t:Title):Title:=⟨t.Serial,t.Show,p,t.First,t.Chain⟩
def movE (sh:Int)(l:List Entry)(s p:Int)(e:Entry):Int×Entry:=if atS (baseS sh) l p≠0∧atS (baseS sh) l p≠s then (16,e) else (0,⟨movT p e.Title,e.gone⟩)
def moveS (sh pl:Int)(l:List Entry)(s p:Int):Int×List Entry:=if p < -1∨pl≤p then (1,l) else chgS (baseS sh) l s (movE sh l s p)
def pasT (x:Transfer)(t:Title):Title:=⟨t.Serial,t.Show,t.Place,t.First,t.Chain++[x]⟩
def pasE (x:Transfer)(e:Entry):Int×Entry:=if 50≤e.Title.Chain.length then (3,e) else if validS (pasT x e.Title)=true then (0,⟨pasT x e.Title,e.gone⟩) else (20,e)
def passS (sh:Int)(l:List Entry)(s:Int)(x:Transfer):Int×List Entry:=chgS (baseS sh) l s (pasE x)
theorem ent_gone {sh pl:Int}{i:Nat}{e:Entry}(h:EntOk sh pl i e)(hg:¬ 0<e.gone):e.gone=0:=by have:=h.g;omega
theorem rev_ok {sh pl:Int}{l:List Entry}{i:Nat}{e:Entry}(h:EntOk sh pl i e)(now:Int)(hn:0<now):ChgOk sh pl l i e (revE now e).2 :=
 ⟨⟨h.ser,h.sh,h.p0,h.p1,Int.le_of_lt hn,h.v⟩,fun _ h2=>by have h2:now=0:=h2;omega⟩
theorem revoke_eq {sh pl:Int}{l:List Entry}{a:List (Int×Int)}(h:InvL sh pl l)(ha:InvA (baseS sh) l a)(s now:Int) :
  ∃ a',registry_Registry_Revoke_b sh pl (ttlF (baseS sh) l) a s now=some ((revokeS sh l s now).1,ttlF (baseS sh) (revokeS sh l s now).2,a')∧InvL sh pl (revokeS sh l s now).2∧InvA (baseS sh) (revokeS sh l s now).2 a':=by
 unfold registry_Registry_Revoke_b revokeS
 rw[io_lt,io_lt]
 by_cases h1:now<1
 ·rw[if_pos (.inl h1),decide_eq_true h1]
  exact⟨a,rfl,h,ha⟩
 ·rw[decide_eq_false h1,cond_false,Option.bind_some]
  by_cases h2:1000000000<now
  ·rw[if_pos (.inr h2),decide_eq_true h2]
   exact⟨a,rfl,h,ha⟩
  ·rw[if_neg (by omega),decide_eq_false h2,cond_false,look_eq]
   unfold chgS
   cases hs:lookS (baseS sh) l s with
   | none=>exact⟨a,rfl,h,ha⟩
   | some e =>
    obtain⟨i,rfl,hi⟩:=lookS_some hs
    have he:=h.ent i e hi
    show ∃ a',(bif io.lt 0 e.gone then _ else _)=_∧_
    rw[io_lt]
    dsimp only
    by_cases hg:0<e.gone
    ·rw[decide_eq_true hg,if_pos hg]
     exact⟨a,rfl,h,ha⟩
    ·rw[decide_eq_false hg,if_neg hg,if_neg (fun h=>h rfl),show (baseS sh+(i:Int) - baseS sh).toNat=i by omega]
     have hc:=chg_inv h ha hi (ent_gone he hg) (rev_ok (l:=l) he now (by omega))
     refine⟨_,?_,hc.1,hc.2⟩
     rw[cond_false,Option.bind_some,io_not,io_eqi,decide_eq_true rfl,Bool.not_true,cond_false]
     exact tail_eq (baseS sh) l a i e (revE now e).2 hi
theorem mov_valid {t:Title}{p:Int}(h:validS t=true)(h0:-1≤p)(h1:p<4000):validS (movT p t)=true:=by
 have hf:=valid_formed h
 have hm:formedS (movT p t)=true:=(formedS_iff _).2 ⟨hf.h0,hf.h1,hf.k0,hf.k1,h0,h1,hf.f,hf.n,hf.c⟩
 unfold validS at h ⊢
 rw[Bool.and_eq_true] at h
 rw[hm,Bool.true_and]
 exact h.2
theorem mov_ok {sh pl:Int}{l:List Entry}{i:Nat}{e:Entry}(h:InvL sh pl l)(he:EntOk sh pl i e){p:Int}(h0:-1≤p)(h1:p<pl)(hat:¬ (atS (baseS sh) l p≠0∧atS (baseS sh) l p≠baseS sh+i)) :
  ChgOk sh pl l i e ⟨movT p e.Title,e.gone⟩:=by
 have:=h.pl1
 exact⟨⟨he.ser,he.sh,h0,h1,he.g,mov_valid he.v h0 (by omega)⟩,fun _ _=>by show atS (baseS sh) l p=0∨atS (baseS sh) l p=_;omega⟩
theorem mov_pre (v s q p:Int):(Option.bind (some v) fun y5=>Option.bind (bif (io.not (io.eq y5 0)) then some (io.not (io.eq y5 s)) else some false) fun v6=>bif v6 then some (q,(16:Int)) else some (p,0))=some (if v≠0∧v≠s then (q,16) else (p,0)):=by
 rw[Option.bind_some,io_eqi,io_eqi,io_not,io_not]
 by_cases h1:v=0
 ·rw[decide_eq_true h1,if_neg (fun h=>h.1 h1)];rfl
 ·rw[decide_eq_false h1]
  by_cases h2:v=s
  ·rw[decide_eq_true h2,if_neg (fun h=>h.2 h2)];rfl
  ·rw[decide_eq_false h2,if_pos ⟨h1,h2⟩];rfl
theorem move_eq {sh pl:Int}{l:List Entry}{a:List (Int×Int)}(h:InvL sh pl l)(ha:InvA (baseS sh) l a)(s p:Int) :
  ∃ a',registry_Registry_Move_b sh pl (ttlF (baseS sh) l) a s p=some ((moveS sh pl l s p).1,ttlF (baseS sh) (moveS sh pl l s p).2,a')∧InvL sh pl (moveS sh pl l s p).2∧InvA (baseS sh) (moveS sh pl l s p).2 a':=by
 unfold registry_Registry_Move_b moveS
 rw[io_lt,io_le]
 by_cases h1:p < -1
 ·rw[if_pos (.inl h1),decide_eq_true h1]
  exact⟨a,rfl,h,ha⟩
 ·rw[decide_eq_false h1,cond_false,Option.bind_some]
  by_cases h2:pl≤p
  ·rw[if_pos (.inr h2),decide_eq_true h2]
   exact⟨a,rfl,h,ha⟩
  ·rw[if_neg (by omega),decide_eq_false h2,cond_false,look_eq]
   unfold chgS
   cases hs:lookS (baseS sh) l s with
   | none=>exact⟨a,rfl,h,ha⟩
   | some e =>
    obtain⟨i,rfl,hi⟩:=lookS_some hs
    have he:=h.ent i e hi
    show ∃ a',(bif io.lt 0 e.gone then _ else _)=_∧_
    rw[io_lt]
    dsimp only
    by_cases hg:0<e.gone
    ·rw[decide_eq_true hg,if_pos hg]
     exact⟨a,rfl,h,ha⟩
    ·rw[decide_eq_false hg,if_neg hg,cond_false,ha.eq p,mov_pre]
     unfold movE
     by_cases hc:atS (baseS sh) l p≠0∧atS (baseS sh) l p≠baseS sh+i
     ·rw[if_pos hc,if_pos hc,if_pos (c:=((16,e):Int×Entry).1≠0) (show (16:Int)≠0 by decide)]
      refine⟨a,?_,h,ha⟩
      show (bif io.not (io.eq 16 0) then _ else _)=_
      rw[io_not,io_eqi]
      rfl
     ·rw[if_neg hc,if_neg hc,if_neg (fun h=>h rfl),show (baseS sh+(i:Int) - baseS sh).toNat=i by omega]
      have hk:=chg_inv h ha hi (ent_gone he hg) (mov_ok h he (by omega) (by omega) hc)
      refine⟨_,?_,hk.1,hk.2⟩
      show (bif io.not (io.eq 0 0) then _ else _)=_
      rw[io_not,io_eqi,decide_eq_true rfl,Bool.not_true,cond_false]
      exact tail_eq (baseS sh) l a i e ⟨movT p e.Title,e.gone⟩ hi
theorem clone_sig (l:List ByteArray)(h:l.length≤1000000):slices_Clone_2_g l=some l:=by
 unfold slices_Clone_2_g nilQ
 cases l with
 | nil=>simp[appG]
 | cons x l =>
  show (Option.bind (some ([]:List ByteArray)) fun l2=>Option.bind (appG l2 (x::l)) fun l3=>some l3)=_
  rw[Option.bind_some,appG_some (by simp only[List.length_nil];omega)]
  rfl
theorem clone_tr (l:List Transfer)(h:l.length≤1000000):slices_CloneW_g l=some l:=by
 unfold slices_CloneW_g nilQ
 cases l with
 | nil=>simp[appG]
 | cons x l =>
  show (Option.bind (some ([]:List Transfer)) fun l2=>Option.bind (appG l2 (x::l)) fun l3=>some l3)=_
  rw[Option.bind_some,appG_some (by simp only[List.length_nil];omega)]
  rfl
theorem pas_ok {sh pl:Int}{l:List Entry}{i:Nat}{e:Entry}(h:InvL sh pl l)(hi:l[i]?=some e)(he:EntOk sh pl i e){x:Transfer}(hv:validS (pasT x e.Title)=true):ChgOk sh pl l i e ⟨pasT x e.Title,e.gone⟩ :=
 ⟨⟨he.ser,he.sh,he.p0,he.p1,he.g,hv⟩,fun h1 h2=>.inr (atS_of h.uniq h.b0 h1 (.inl ⟨i,e,hi,onP_iff.2 ⟨h2,rfl⟩,rfl⟩)).symm⟩
theorem pass_eq {sh pl:Int}{l:List Entry}{a:List (Int×Int)}(h:InvL sh pl l)(ha:InvA (baseS sh) l a)(s:Int)(x:Transfer)(hx:x.Sig.length≤1000000) :
  ∃ a',registry_Registry_Pass_b sh pl (ttlF (baseS sh) l) a s x=some ((passS sh l s x).1,ttlF (baseS sh) (passS sh l s x).2,a')∧InvL sh pl (passS sh l s x).2∧InvA (baseS sh) (passS sh l s x).2 a':=by
 unfold registry_Registry_Pass_b passS chgS
 rw[look_eq]
 cases hs:lookS (baseS sh) l s with
 | none=>exact⟨a,rfl,h,ha⟩
 | some e =>
  obtain⟨i,rfl,hi⟩:=lookS_some hs
  have he:=h.ent i e hi
  have hF:=valid_formed he.v
  have hn:=hF.n
  show ∃ a',(bif io.lt 0 e.gone then _ else _)=_∧_
  rw[io_lt]
  dsimp only
  by_cases hg:0<e.gone
  ·rw[decide_eq_true hg,if_pos hg]
   exact⟨a,rfl,h,ha⟩
  ·rw[decide_eq_false hg,if_neg hg,cond_false,io_le,io_len]
   unfold pasE
   by_cases h50:50≤e.Title.Chain.length
   ·have h50':(50:Int)≤(e.Title.Chain.length:Int):=by omega
    rw[decide_eq_true h50',if_pos h50,if_pos (c:=((3,e):Int×Entry).1≠0) (show (3:Int)≠0 by decide)]
    exact⟨a,by rw[cond_true,Option.bind_some,io_not,io_eqi];rfl,h,ha⟩
   ·have h50':¬ (50:Int)≤(e.Title.Chain.length:Int):=by omega
    have hcl:=clone_tr e.Title.Chain (by omega)
    have hser:=he.ser
    have hb0:=h.b0
    have hb1:=h.b1
    have hil:=(List.getElem?_eq_some_iff.1 hi).1
    have hlen:=h.len
    have hval:title_Valid_g (pasT x e.Title)=some (validS (pasT x e.Title)):=valid_eq _ (by show 0≤e.Title.Serial;omega) (by show e.Title.Serial≤_;omega)
    unfold pasT at hval
    rw[decide_eq_false h50',if_neg h50,cond_false,clone_sig _ hx,hcl]
    simp only[Option.bind_some]
    rw[appG_some (by simp only[List.length_singleton];omega),Option.bind_some]
    rw[show (Transfer.mk x.To x.Sig)=x from rfl,hval,Option.bind_some,io_not]
    have hpT:(⟨e.Title.Serial,e.Title.Show,e.Title.Place,e.Title.First,e.Title.Chain++[x]⟩:Title)=pasT x e.Title:=rfl
    rw[hpT]
    cases hv:validS (pasT x e.Title) with
    | false =>
     rw[if_neg (show ¬ (false=true) by decide),if_pos (c:=((20,e):Int×Entry).1≠0) (show (20:Int)≠0 by decide)]
     exact⟨a,by simp only[Bool.not_false,cond_true,Option.bind_some,io_not,io_eqi];rfl,h,ha⟩
    | true =>
     rw[if_pos (show true=true from rfl),if_neg (fun h=>h rfl),Bool.not_true,cond_false,Option.bind_some,show (baseS sh+(i:Int) - baseS sh).toNat=i by omega]
     simp only[io_not,io_eqi,decide_true,Bool.not_true,cond_false]
     have hc:=chg_inv h ha hi (ent_gone he hg) (pas_ok h hi he hv)
     refine⟨_,?_,hc.1,hc.2⟩
     have:=tail_eq (baseS sh) l a i e ⟨pasT x e.Title,e.gone⟩ hi
     simp only[io_eqi] at this
     exact this
def titleS (b:Int)(l:List Entry)(s:Int):Title×Int×Int:=match lookS b l s with | some e=>(e.Title,e.gone,0) | none=>(zeroT,0,11)
theorem title_eq (sh pl:Int)(l:List Entry)(a:List (Int×Int))(s:Int):registry_Registry_Title_b sh pl (ttlF (baseS sh) l) a s=some (titleS (baseS sh) l s):=by
 unfold registry_Registry_Title_b titleS
 rw[look_eq]
 cases lookS (baseS sh) l s<;>rfl
theorem at_eq {sh pl:Int}{l:List Entry}{a:List (Int×Int)}(ha:InvA (baseS sh) l a)(m:List (Int×Entry))(p:Int):registry_Registry_At_b sh pl m a p=some (atS (baseS sh) l p):=by
 unfold registry_Registry_At_b
 rw[ha.eq]
 rfl
end Go.SX.Rg
set_option linter.unusedVariables false
namespace Go.SX.Rg
open Go Go.SX
def refT (l:List Entry):List Title:=l.map (·.Title)
def refG (l:List Entry):List Int:=l.map (·.gone)
theorem refT_len (l:List Entry):(refT l).length=l.length:=List.length_map ..
theorem refG_len (l:List Entry):(refG l).length=l.length:=List.length_map ..
theorem refT_at {l:List Entry}{i:Nat}{e:Entry}(h:l[i]?=some e):(refT l)[i]?=some e.Title:=by unfold refT;rw[List.getElem?_map,h];rfl
theorem refG_at {l:List Entry}{i:Nat}{e:Entry}(h:l[i]?=some e):(refG l)[i]?=some e.gone:=by unfold refG;rw[List.getElem?_map,h];rfl
theorem rixG_some {α:Type}{xs:List α}{i:Nat}(h:i<xs.length):rixG xs (i:Int)=some i:=by
 unfold rixG
 rw[if_pos ⟨by omega,by omega⟩]
 simp
def revS (l:List Entry):List Int:=(l.filter fun e=>decide (0<e.gone)).map (·.Title.Serial)
theorem fold_rev (f:Entry→Int):∀ (l:List Entry)(s:List Int),l.foldl (fun s e=>if 0<e.gone then s++[f e] else s) s=s++(l.filter fun e=>decide (0<e.gone)).map f
 | [],s=>by simp
 | e::l,s=>by
  rw[List.foldl_cons,fold_rev f l,List.filter_cons]
  by_cases h:0<e.gone
  ·rw[if_pos h,decide_eq_true h,if_pos rfl,List.map_cons,List.append_assoc];rfl
  ·rw[if_neg h,decide_eq_false h,if_neg (by decide)]
theorem rev_len (f:Entry→Int)(l:List Entry)(k:Nat):(((l.take k).filter fun e=>decide (0<e.gone)).map f).length≤l.length:=by
 rw[List.length_map]
 have h1:=List.length_filter_le (fun e:Entry=>decide (0<e.gone)) (l.take k)
 have h2:=List.length_take_le k l
 have h3:(l.take k).length≤l.length:=by rw[List.length_take];omega
 omega
theorem ttlF_keys : ∀ (l:List Entry)(b:Int),(ttlF b l).map (·.1)=(List.range l.length).map fun i=>b+((i:Nat):Int)
 | [],_=>rfl
 | e::l,b=>by
  unfold ttlF
  rw[List.map_cons,ttlF_keys l,List.length_cons,List.range_succ_eq_map,List.map_cons,List.map_map]
  congr 1
  ·simp
  ·refine List.map_congr_left fun i _=>?_
   show b+1+(i:Int)=b+((i+1:Nat):Int)
   omega
theorem keys_sorted (b:Int)(n:Nat):sortI ((List.range n).map fun i=>b+((i:Nat):Int))=(List.range n).map fun i=>b+((i:Nat):Int):=by
 unfold sortI
 refine List.mergeSort_of_pairwise ?_
 rw[List.pairwise_map]
 refine List.Pairwise.imp ?_ List.pairwise_lt_range
 intro i j hij
 exact decide_eq_true (by omega)
theorem revoked_eq {sh pl:Int}{l:List Entry}(h:InvL sh pl l)(a:List (Int×Int)):registry_Registry_Revoked_b sh pl (ttlF (baseS sh) l) a=some (revS l):=by
 have hlen:=h.len
 have hb0:=h.b0
 have hb1:=h.b1
 have hk:sortedKeys_g (ttlF (baseS sh) l)=some ((List.range l.length).map fun i=>baseS sh+((i:Nat):Int)):=by
  have hok:keysOk (ttlF (baseS sh) l)=true:=by
   unfold keysOk
   rw[Bool.and_eq_true,ttlF_len]
   refine⟨decide_eq_true (by omega),?_⟩
   rw[List.all_eq_true]
   intro x hx
   have:x.1∈(ttlF (baseS sh) l).map (·.1):=List.mem_map_of_mem hx
   rw[ttlF_keys] at this
   obtain⟨i,hi,he⟩:=List.mem_map.1 this
   have hi:=List.mem_range.1 hi
   rw[← he,Bool.and_eq_true]
   exact⟨decide_eq_true (by omega),decide_eq_true (by omega)⟩
  unfold sortedKeys_g
  rw[hok,cond_true,sortZ_eq,ttlF_keys,keys_sorted]
 unfold registry_Registry_Revoked_b
 rw[hk,Option.bind_some]
 have hkey:∀ k:Nat,k<l.length→((List.range l.length).map fun i=>baseS sh+((i:Nat):Int))[k]?=some (baseS sh+(k:Int)):=fun k hk=>by
  rw[List.getElem?_map,List.getElem?_range hk];rfl
 have hkl:((List.range l.length).map fun i=>baseS sh+((i:Nat):Int)).length=l.length:=by rw[List.length_map,List.length_range]
 generalize ((List.range l.length).map fun i=>baseS sh+((i:Nat):Int))=keys at hkey hkl
 rw[loop_fold (step:=registry_Registry_Revoked_l2 keys (ttlF (baseS sh) l)) (fun s i=>(s,i)) l (fun s e=>if 0<e.gone then s++[e.Title.Serial] else s) [] (revS l) (fun k e he=>by
  have hk:=(List.getElem?_eq_some_iff.1 he).1
  have h1:(k:Int)<(l.length:Int):=by omega
  have hser:=(h.ent k e he).ser
  rw[fold_rev fun e=>e.Title.Serial]
  have hle:=rev_len (fun e=>e.Title.Serial) l k
  generalize ((l.take k).filter fun e=>decide (0<e.gone)).map (fun e:Entry=>e.Title.Serial)=z at hle
  rw[List.nil_append]
  unfold registry_Registry_Revoked_l2
  dsimp only
  rw[io_lt,io_len,hkl,decide_eq_true h1,cond_true,rixG_some (by rw[hkl];exact hk),Option.bind_some,hkey k hk,Option.bind_some,look_eq,lookS_at,he,io_add,wr_up (k:=k) (by omega)]
  show Option.bind (bif io.lt 0 e.gone then _ else _) _=_
  rw[io_lt]
  by_cases hg:0<e.gone
  ·rw[decide_eq_true hg,if_pos hg,cond_true,Option.bind_some,appG_some (by rw[List.length_singleton];omega),hser]
   rfl
  ·rw[decide_eq_false hg,if_neg hg];rfl) (by
  have h1:¬ (l.length:Int)<(l.length:Int):=by omega
  rw[fold_rev fun e=>e.Title.Serial,List.nil_append]
  unfold registry_Registry_Revoked_l2
  dsimp only
  rw[io_lt,io_len,hkl,decide_eq_false h1,cond_false]
  rfl)]
 rfl
end Go.SX.Rg
set_option linter.unusedVariables false
namespace Go.SX.Rg
open Go Go.SX
def secS (s:ByteArray):ByteArray:=(⟨#[115,101,99,114,101,116,32]⟩:ByteArray)++s
def firT (p:Int):ByteArray:=(⟨#[102,105,114,115,116,32]⟩:ByteArray)++numI p
def firS (p:Int):ByteArray:=publicS (secS (firT p))
theorem app_size (a b:ByteArray):(a++b).size=a.size+b.size:=ByteArray.size_append
theorem secS_size (s:ByteArray):(secS s).size=7+s.size:=app_size _ _
theorem firT_size (p:Int)(h0:-9223372036854775808≤p)(h1:p≤9223372036854775807):(firT p).size≤27:=by
 have h2:=Lib.itoa_length_le p h0 h1
 have h3:(numI p).size≤21:=by show (Lib.itoa p).toArray.size≤21;rw[List.size_toArray];exact h2
 have h4:(firT p).size=6+(numI p).size:=app_size _ _
 omega
theorem secret_eq (s:ByteArray)(h:s.size≤1000):law32_secret_g s=some (secS s):=by
 unfold law32_secret_g catG
 rw[if_pos (by show 7+s.size≤_;omega),Option.bind_some,io_cat]
 rfl
theorem num_eq (p:Int)(h0:-9223372036854775808≤p)(h1:p≤9223372036854775807):ref02_Decimal_g p=some (numI p):=Decimal_eq p h0 h1
theorem fir_eq {α:Type}(p:Int)(h0:-9223372036854775808≤p)(h1:p≤9223372036854775807)(K:ByteArray→Option α) :
  (Option.bind (ref02_Decimal_g p) fun v2=>Option.bind (catG (⟨#[102,105,114,115,116,32]⟩) v2) fun _=>Option.bind (law32_secret_g (io.cat (⟨#[102,105,114,115,116,32]⟩) v2)) K)=K (secS (firT p)):=by
 have h2:=firT_size p h0 h1
 have h3:(firT p).size=6+(numI p).size:=app_size _ _
 have hcat:catG (⟨#[102,105,114,115,116,32]⟩:ByteArray) (numI p)=some ():=by
  unfold catG
  rw[if_pos (by show 6+(numI p).size≤_;omega)]
 rw[num_eq p h0 h1,Option.bind_some,hcat,Option.bind_some,io_cat]
 show Option.bind (law32_secret_g (firT p)) K=_
 rw[secret_eq _ (by omega),Option.bind_some]
structure OpOk (x:Op):Prop where
 a0:-9223372036854775808≤x.At
 a1:x.At≤9223372036854775807
 s1:x.Serial≤9223372036854775807
 k:x.Key.size≤60
 g:x.Sig.length≤20
def keyS (x:Op):ByteArray:=if x.Key=⟨#[]⟩ then firS x.At else x.Key
theorem key_eq (x:Op)(h:OpOk x) :
  (bif (io.seq x.Key (⟨#[]⟩)) then (Option.bind (ref02_Decimal_g x.At) fun v2=>Option.bind (catG (⟨#[102,105,114,115,116,32]⟩) v2) fun _=>Option.bind (law32_secret_g (io.cat (⟨#[102,105,114,115,116,32]⟩) v2)) fun v3=>Option.bind (sign_Public_g v3) fun known4=>some known4) else some x.Key)=some (keyS x):=by
 rw[seq_dec]
 unfold keyS
 by_cases hk:x.Key=⟨#[]⟩
 ·have h2:=firT_size x.At h.a0 h.a1
  rw[decide_eq_true hk,if_pos hk,cond_true,fir_eq x.At h.a0 h.a1,public_eq _ (by rw[secS_size];omega)]
  rfl
 ·rw[decide_eq_false hk,if_neg hk,cond_false]
def knownS (l:List Op):List ByteArray:=l.flatMap fun x=>[secS (firT x.At),secS x.Key]
def KnownOk (known:List ByteArray):Prop:=known.length≤1000∧∀ k∈known,k.size≤100
theorem foldl_known : ∀ (l:List Op)(s:List ByteArray),l.foldl (fun s x=>s++[secS (firT x.At),secS x.Key]) s=s++knownS l
 | [],s=>by unfold knownS;simp
 | x::l,s=>by
  rw[List.foldl_cons,foldl_known l]
  unfold knownS
  rw[List.flatMap_cons,List.append_assoc]
theorem knownS_len : ∀ l:List Op,(knownS l).length=2 * l.length
 | []=>rfl
 | x::l=>by
  have:=knownS_len l
  unfold knownS at this ⊢
  rw[List.flatMap_cons,List.length_append,this,List.length_cons,List.length_cons,List.length_cons,List.length_nil]
  omega
theorem known_ok {l:List Op}(hl:l.length≤16)(h:∀ x∈l,OpOk x):KnownOk (knownS l):=by
 refine⟨by rw[knownS_len];omega,fun k hk=>?_⟩
 unfold knownS at hk
 obtain⟨x,hx,hk⟩:=List.mem_flatMap.1 hk
 have ho:=h x hx
 have hk1:=ho.k
 have h2:=firT_size x.At ho.a0 ho.a1
 simp only[List.mem_cons,List.not_mem_nil,or_false] at hk
 rcases hk with rfl | rfl
 ·rw[secS_size];omega
 ·rw[secS_size];omega
theorem secrets_eq (l:List Op)(hl:l.length≤16)(h:∀ x∈l,OpOk x):law32_secrets_g l=some (knownS l):=by
 unfold law32_secrets_g
 rw[loop_fold (step:=law32_secrets_l2 l) (fun s i=>(s,i)) l (fun s x=>s++[secS (firT x.At),secS x.Key]) [] (knownS l) (fun k x hx=>by
  have hk:=(List.getElem?_eq_some_iff.1 hx).1
  have h1:(k:Int)<(l.length:Int):=by omega
  have ho:=h x (List.mem_of_getElem? hx)
  have hk1:=ho.k
  have hle:(knownS (l.take k)).length≤32:=by rw[knownS_len,List.length_take];omega
  rw[foldl_known,List.nil_append]
  generalize knownS (l.take k)=z at hle
  unfold law32_secrets_l2
  dsimp only
  rw[io_lt,io_len,decide_eq_true h1,cond_true,idxG_some hx,Option.bind_some,fir_eq x.At ho.a0 ho.a1,Option.bind_some,secret_eq _ (by omega),Option.bind_some,Option.bind_some,
   appG_some (by simp only[List.length_cons,List.length_nil];omega),Option.bind_some,io_add,wr_up (k:=k) (by omega)]) (by
  have h1:¬ (l.length:Int)<(l.length:Int):=by omega
  rw[foldl_known,List.nil_append]
  unfold law32_secrets_l2
  dsimp only
  rw[io_lt,io_len,decide_eq_false h1,cond_false])]
 rfl
def transferS (x:Op)(t:Title)(known:List ByteArray):Transfer :=
 if x.Kind≠4 then ⟨x.Key,x.Sig⟩
 else match known.find? (fun k=>decide (publicS k=ownerS t)) with
  | some k=>⟨publicS (secS x.Key),signS k (msgS t (publicS (secS x.Key)))⟩
  | none=>⟨publicS (secS x.Key),[]⟩
theorem publicS_size (s:ByteArray):(publicS s).size=16:=sumS_size _
theorem publicS_is (s:ByteArray):isS (publicS s)=true:=sumS_is _
structure TitOk (t:Title):Prop where
 m:∀ to:ByteArray,to.size≤1000→MsgOk t to
 c:t.Chain.length≤1000
theorem Formed.tit {t:Title}(h:Formed t):TitOk t:=by
 refine⟨fun to ht=>?_,by have:=h.n;omega⟩
 have:=h.msg t.Chain.length to ht
 rw[cut_all] at this
 exact this
theorem zero_tit : TitOk zeroT:=⟨fun to ht=>⟨Int.le_refl _,by decide,Int.le_refl _,by decide,by decide,fun x hx=>(by cases hx),by decide,ht⟩,by decide⟩
theorem transfer_eq (x:Op)(t:Title)(known:List ByteArray)(ho:OpOk x)(ht:TitOk t)(hk:KnownOk known):law32_transfer_g x t known=some (transferS x t known):=by
 have hk1:=ho.k
 unfold law32_transfer_g transferS
 rw[io_not,io_eqi]
 by_cases h4:x.Kind=4
 ·rw[decide_eq_true h4,if_neg (fun h=>h h4),Bool.not_true,cond_false,secret_eq _ (by omega),Option.bind_some,public_eq _ (by rw[secS_size];omega),Option.bind_some]
  generalize hto:publicS (secS x.Key)=to
  have hts:to.size≤1000:=by rw[← hto,publicS_size];decide
  obtain⟨hl,hs⟩:=hk
  have hc:=ht.c
  rcases loop_find (step:=law32_transfer_l2 known t to) known (fun k=>decide (publicS k=ownerS t)) (fun _ k=>.inr ⟨to,signS k (msgS t to)⟩) (.inl ()) (fun i k hik=>by
   have hi:=(List.getElem?_eq_some_iff.1 hik).1
   have h1:(i:Int)<(known.length:Int):=by omega
   have hsz:=hs k (List.mem_of_getElem? hik)
   unfold law32_transfer_l2
   dsimp only
   rw[io_lt,io_len,decide_eq_true h1,cond_true,idxG_some hik,Option.bind_some,public_eq k (by omega),Option.bind_some,owner_eq t (by omega),Option.bind_some,seq_dec]
   by_cases hp:publicS k=ownerS t
   ·rw[decide_eq_true hp,cond_true,Option.bind_some,msg_eq t to (ht.m to hts),Option.bind_some,sign_eq k _ (by omega) (by rw[msgS_size];decide)]
    rfl
   ·rw[decide_eq_false hp,cond_false,io_add,wr_up (k:=i) (by omega)]
    rfl) (by
   have h1:¬ (known.length:Int)<(known.length:Int):=by omega
   unfold law32_transfer_l2
   dsimp only
   rw[io_lt,io_len,decide_eq_false h1,cond_false]) with ⟨i,k,hik,hp,hno,hw⟩ | ⟨hno,hw⟩
  ·have hf:known.find? (fun k=>decide (publicS k=ownerS t))=some k:=by
    rw[List.find?_eq_some_iff_getElem]
    obtain⟨hi,he⟩:=List.getElem?_eq_some_iff.1 hik
    refine⟨hp,i,hi,he,fun j hj=>?_⟩
    rw[hno j _ hj (List.getElem?_eq_getElem (by omega))]
    rfl
   rw[hf,hw,orR_r]
  ·have hf:known.find? (fun k=>decide (publicS k=ownerS t))=none:=by
    rw[List.find?_eq_none]
    intro k hk
    rw[hno k hk]
    decide
   rw[hf,hw,orR_l]
 ·rw[decide_eq_false h4,if_pos h4]
  rfl
theorem transferS_sig (x:Op)(t:Title)(known:List ByteArray)(ho:OpOk x):(transferS x t known).Sig.length≤1000000:=by
 have:=ho.g
 unfold transferS
 split
 ·show x.Sig.length≤_;omega
 ·split
  ·show (signS _ _).length≤_;rw[signS_len];decide
  ·exact Nat.zero_le _
def doS (sh pl:Int)(l:List Entry)(x:Op)(known:List ByteArray):Int×Int×List Entry :=
 if x.Kind=0 then issueS sh pl l x.At (keyS x)
 else if x.Kind=2 then (0,(revokeS sh l x.Serial x.At).1,(revokeS sh l x.Serial x.At).2)
 else if x.Kind=3 then (0,(moveS sh pl l x.Serial x.At).1,(moveS sh pl l x.Serial x.At).2)
 else (0,(passS sh l x.Serial (transferS x (titleS (baseS sh) l x.Serial).1 known)).1,(passS sh l x.Serial (transferS x (titleS (baseS sh) l x.Serial).1 known)).2)
theorem title_tit {sh pl:Int}{l:List Entry}(h:InvL sh pl l)(s:Int):TitOk (titleS (baseS sh) l s).1:=by
 unfold titleS
 cases hs:lookS (baseS sh) l s with
 | none=>exact zero_tit
 | some e =>
  obtain⟨i,_,hi⟩:=lookS_some hs
  exact(valid_formed (h.ent i e hi).v).tit
theorem do_eq {sh pl:Int}{l:List Entry}{a:List (Int×Int)}(h:InvL sh pl l)(ha:InvA (baseS sh) l a)(hl:l.length<1000)(x:Op)(ho:OpOk x)(known:List ByteArray)(hk:KnownOk known) :
  ∃ a',law32_do_b sh pl (ttlF (baseS sh) l) a x known=some ((doS sh pl l x known).1,(doS sh pl l x known).2.1,ttlF (baseS sh) (doS sh pl l x known).2.2,a')∧InvL sh pl (doS sh pl l x known).2.2∧InvA (baseS sh) (doS sh pl l x known).2.2 a':=by
 unfold law32_do_b doS
 rw[key_eq x ho,io_eqi,io_eqi,io_eqi]
 by_cases h0:x.Kind=0
 ·obtain⟨a',h1,h2⟩:=issue_eq h ha x.At (keyS x)
  rw[decide_eq_true h0,if_pos h0,cond_true,Option.bind_some,h1]
  exact⟨a',rfl,issue_inv h ha _ _ hl,h2⟩
 ·rw[decide_eq_false h0,if_neg h0,cond_false]
  by_cases h2:x.Kind=2
  ·obtain⟨a',h1,h3⟩:=revoke_eq h ha x.Serial x.At
   rw[decide_eq_true h2,if_pos h2,cond_true,h1]
   exact⟨a',rfl,h3⟩
  ·rw[decide_eq_false h2,if_neg h2,cond_false]
   by_cases h3:x.Kind=3
   ·obtain⟨a',h1,h4⟩:=move_eq h ha x.Serial x.At
    rw[decide_eq_true h3,if_pos h3,cond_true,h1]
    exact⟨a',rfl,h4⟩
   ·rw[decide_eq_false h3,if_neg h3,cond_false,title_eq]
    have htr:=transfer_eq x (titleS (baseS sh) l x.Serial).1 known ho (title_tit h x.Serial) hk
    obtain⟨a',h1,h4⟩:=pass_eq h ha x.Serial (transferS x (titleS (baseS sh) l x.Serial).1 known) (transferS_sig x _ known ho)
    refine⟨a',?_,h4⟩
    rw[Option.bind_some,Option.bind_some]
    show Option.bind (law32_transfer_g x (titleS (baseS sh) l x.Serial).1 known) _=_
    rw[htr,Option.bind_some,h1]
    rfl
theorem chg_len (b:Int)(l:List Entry)(s:Int)(f:Entry→Int×Entry):(chgS b l s f).2.length=l.length:=by
 unfold chgS
 split
 ·rfl
 ·split
  ·rfl
  ·split
   ·rfl
   ·show (l.set _ _).length=_;rw[List.length_set]
theorem do_len (sh pl:Int)(l:List Entry)(x:Op)(known:List ByteArray):(doS sh pl l x known).2.2.length≤l.length+1:=by
 unfold doS
 split
 ·unfold issueS
  split
  ·exact Nat.le_succ _
  ·split
   ·exact Nat.le_succ _
   ·show (l++[_]).length≤_;rw[List.length_append,List.length_singleton];omega
 ·split
  ·show (revokeS sh l x.Serial x.At).2.length≤_
   unfold revokeS
   split
   ·exact Nat.le_succ _
   ·rw[chg_len];exact Nat.le_succ _
  ·split
   ·show (moveS sh pl l x.Serial x.At).2.length≤_
    unfold moveS
    split
    ·exact Nat.le_succ _
    ·rw[chg_len];exact Nat.le_succ _
   ·show (passS sh l x.Serial _).2.length≤_
    unfold passS
    rw[chg_len];exact Nat.le_succ _
def shS (w:Int):Int:=w % 20
theorem sh_rem {w:Int}(h0:0≤w)(h1:w≤255):io.rem (io.wrap .i64 w) 20=shS w:=by
 rw[io_wrap,wr64 (by omega) (by omega),io_rem,Int.tmod_eq_emod_of_nonneg h0]
 rfl
theorem new_eq {sh pl:Int}(h0:0≤sh)(h1:sh<20)(p0:0≤pl)(p1:pl≤4000):registry_New_b sh pl=some false:=by
 unfold registry_New_b
 rw[io_lt,io_le,io_lt,io_lt,decide_eq_false (by omega),decide_eq_false (by omega),decide_eq_false (by omega),decide_eq_false (by omega)]
 rfl
theorem new_no {sh pl:Int}(h:¬ (0≤sh∧sh<20∧0≤pl∧pl≤4000)):registry_New_b sh pl=some true:=by
 unfold registry_New_b
 rw[io_lt,io_le,io_lt,io_lt]
 by_cases h1:sh<0
 ·rw[decide_eq_true h1];rfl
 ·rw[decide_eq_false h1,cond_false]
  by_cases h2:20≤sh
  ·rw[decide_eq_true h2];rfl
  ·rw[decide_eq_false h2,cond_false]
   by_cases h3:pl<0
   ·rw[decide_eq_true h3];rfl
   ·rw[decide_eq_false h3,cond_false,decide_eq_true (show 4000<pl by omega)];rfl
theorem loop_nat {τ:Type}{step:Int→Option (Int ⊕ τ)}(n:Nat)(t:τ)(hs:∀ k:Nat,k<n→step (k:Int)=some (.inl ((k+1:Nat):Int)))(he:step (n:Int)=some (.inr t)):whileG step 0=some t:=by
 obtain⟨t',h1,rfl⟩:=loop_up (step:=step) (fun (_:Unit) i=>i) n (fun _ _=>True) (fun t'=>t'=t)
  (fun k _ hk _=>.inl ⟨(),hs k hk,trivial⟩) (fun _ _=>⟨t,he,rfl⟩) () trivial
 exact h1
theorem ser_k {sh:Int}(h0:0≤sh)(h1:sh<20)(k:Nat)(hk:k≤100000):io.ar .add .i64 (io.ar .mul .i64 (io.ar .add .i64 sh 1) 10000) ((k+1:Nat):Int)=baseS sh+k:=by
 rw[ser_base h0 h1,io_add,wr64 (by omega) (by omega)]
 unfold baseS
 omega
theorem up_one (k:Nat)(h:k≤100000):io.ar .add .i64 ((k+1:Nat):Int) 1=((k+2:Nat):Int):=by
 rw[io_add,wr64 (by omega) (by omega)]
 omega
def fewO (x:Op):Bool:=decide (x.Key.size≤60)&&(decide (x.Sig.length≤20)&&x.Sig.all fun s=>decide (s.size≤60))
def fewS (l:List Op):Bool:=l.all fewO&&decide (l.length≤16)
theorem lt60 (n:Nat)(m:Nat):decide ((m:Int)<(n:Int))=!decide (n≤m):=by
 by_cases h:n≤m
 ·rw[decide_eq_true h,decide_eq_false (by omega)];rfl
 ·rw[decide_eq_false h,decide_eq_true (by omega)];rfl
theorem any_notZ (l:List ByteArray):(l.any fun s=>!decide (s.size≤60))=!(l.all fun s=>decide (s.size≤60)):=by
 rw[List.any_eq_not_all_not]
 simp only[Bool.not_not]
theorem sfew_eq (s:List ByteArray)(h:s.length≤20):ref02_Few_g s 60=some (s.all fun s=>decide (s.size≤60)):=by
 unfold ref02_Few_g
 rw[loop_any (step:=ref02_Few_l2 s 60) s (fun s=>!decide (s.size≤60)) (.inr false) (.inl ()) (fun k x hx=>by
  have hk:=(List.getElem?_eq_some_iff.1 hx).1
  have h1:(k:Int)<(s.length:Int):=by omega
  unfold ref02_Few_l2
  dsimp only
  rw[io_lt,io_len,decide_eq_true h1,cond_true,idxG_some hx,Option.bind_some,io_lt,io_ssz,show (60:Int)=((60:Nat):Int) from rfl,lt60,io_add,wr_up (k:=k) (by omega)]
  cases decide (x.size≤60)<;>rfl) (by
  have h1:¬ (s.length:Int)<(s.length:Int):=by omega
  unfold ref02_Few_l2
  dsimp only
  rw[io_lt,io_len,decide_eq_false h1,cond_false]),any_notZ]
 cases s.all fun s=>decide (s.size≤60) with
 | false=>rfl
 | true=>rw[if_neg (by decide),orR_l,io_le,io_len,decide_eq_true (by omega)]
theorem any_notF (l:List Op):(l.any fun s=>!fewO s)=!(l.all fewO):=by
 rw[List.any_eq_not_all_not]
 simp only[Bool.not_not]
theorem few_eq (l:List Op)(hl:l.length≤maxLen):law32_few_g l=some (fewS l):=by
 have hl:l.length≤9223372036854775807:=hl
 unfold law32_few_g fewS
 rw[loop_any (step:=law32_few_l2 l) l (fun x=>!fewO x) (.inr false) (.inl ()) (fun k x hx=>by
  have hk:=(List.getElem?_eq_some_iff.1 hx).1
  have h1:(k:Int)<(l.length:Int):=by omega
  unfold law32_few_l2
  dsimp only
  rw[io_lt,io_len,decide_eq_true h1,cond_true,idxG_some hx,Option.bind_some,io_lt,io_ssz,show (60:Int)=((60:Nat):Int) from rfl,lt60,io_add,wr_up (k:=k) (by omega)]
  unfold fewO
  cases decide (x.Key.size≤60) with
  | false=>rfl
  | true =>
   rw[Bool.not_true,cond_false,Option.bind_some,io_lt,io_len,show (20:Int)=((20:Nat):Int) from rfl,lt60]
   by_cases h20:x.Sig.length≤20
   ·rw[decide_eq_true h20,Bool.not_true,cond_false,Option.bind_some,show ((60:Nat):Int)=60 from rfl,sfew_eq _ h20,Option.bind_some,io_not]
    cases x.Sig.all fun s=>decide (s.size≤60)<;>rfl
   ·rw[decide_eq_false h20];rfl) (by
  have h1:¬ (l.length:Int)<(l.length:Int):=by omega
  unfold law32_few_l2
  dsimp only
  rw[io_lt,io_len,decide_eq_false h1,cond_false]),any_notF]
 cases l.all fewO with
 | false=>rfl
 | true =>
  rw[if_neg (by decide),orR_l,io_le,io_len,Bool.true_and]
  congr 1
  by_cases h:l.length≤16
  ·rw[decide_eq_true h,decide_eq_true (by omega)]
  ·rw[decide_eq_false h,decide_eq_false (by omega)]
structure OpIn (x:Op):Prop where
 a0:-9223372036854775808≤x.At
 a1:x.At≤9223372036854775807
 s1:x.Serial≤9223372036854775807
theorem few_ops {l:List Op}(h:fewS l=true)(hi:∀ x∈l,OpIn x):l.length≤16∧∀ x∈l,OpOk x:=by
 unfold fewS at h
 rw[Bool.and_eq_true,decide_eq_true_eq] at h
 refine⟨h.2,fun x hx=>?_⟩
 have h1:=List.all_eq_true.1 h.1 x hx
 unfold fewO at h1
 simp only[Bool.and_eq_true,decide_eq_true_eq] at h1
 have h2:=hi x hx
 exact⟨h2.a0,h2.a1,h2.s1,h1.1,h1.2.1⟩
end Go.SX.Rg
set_option linter.unusedVariables false
namespace Go.SX.Rg
open Go Go.SX
def hx (d:Nat):Nat:=if d<10 then 48+d else 87+d
def gH (n i:Nat):Nat:=if i<16 then hx (n / 16 ^ (15 - i) % 16) else if i=16 then 1 else 0
def blkG (g:Nat→Nat)(f:Nat):Nat→Nat
 | 0=>0
 | n+1=>g f+256 * blkG g (f+1) n
def sum1 (n:Nat):Nat:=mixN (mixN (mixN (7046029254386353131 ^^^ blkG (gH n) 0 8) ^^^ blkG (gH n) 8 8) ^^^ blkG (gH n) 16 8)
def chain1 (n:Nat):Nat→Nat
 | 0=>n
 | k+1=>chain1 (sum1 n) k
def dig2 (n:Nat):List UInt8:=if n<10 then [UInt8.ofNat (48+n)] else [UInt8.ofNat (48+n / 10),UInt8.ofNat (48+n % 10)]
def txt2 (x:List UInt8):List UInt8:=dig2 x.length++[58]++x
def start2 (i:Nat):Nat:=sumN (txt2 [107]++txt2 (dig2 i))
def ends2 : List Nat:=(List.range 18).map fun i=>chain1 (start2 i) 15
theorem hexD_nat (d:Nat)(h:d<16):(hexD d).toNat=hx d:=by
 match d,h with
 | 0,_ | 1,_ | 2,_ | 3,_ | 4,_ | 5,_ | 6,_ | 7,_ | 8,_ | 9,_ | 10,_ | 11,_ | 12,_ | 13,_ | 14,_ | 15,_=>rfl
 | d+16,h=>omega
theorem byN_hex (n i:Nat):byN (hexN 16 n) i=gH n i:=by
 unfold byN gH
 rw[hexN_len]
 by_cases h:i<16
 ·rw[if_pos h,if_pos h,hexN_eq,List.getD_eq_getElem?_getD,List.getElem?_map,List.getElem?_range h,Option.map_some,Option.getD_some,hexD_nat _ (Nat.mod_lt _ (by decide))]
 ·rw[if_neg h,if_neg h]
theorem blkR_G (l:List UInt8)(g:Nat→Nat)(h:∀ i,byN l i=g i):∀ (n f:Nat),blkR l f n=blkG g f n
 | 0,f=>rfl
 | n+1,f=>by unfold blkR blkG;rw[h,blkR_G l g h n]
theorem sum_hex (n:Nat):sumN (hexN 16 n)=sum1 n:=by
 have hb:=blkR_G (hexN 16 n) (gH n) (byN_hex n)
 unfold sumN sum1
 rw[hexN_len]
 generalize hexN 16 n=l at hb
 show sumK l 3=_
 unfold sumK sumK sumK sumK
 rw[hb,hb,hb]
def hexT (n:Nat):ByteArray:=⟨(hexN 16 n).toArray⟩
theorem sumS_T (t:ByteArray):sumS t=hexT (sumN t.data.toList):=by unfold sumS hexT;rfl
theorem hexT_list (n:Nat):(hexT n).data.toList=hexN 16 n:=by unfold hexT;rfl
theorem sumS_hex (n:Nat):sumS (hexT n)=hexT (sum1 n):=by rw[sumS_T,hexT_list,sum_hex]
theorem chain_hex : ∀ (k n:Nat),chainS (hexT n) k=hexT (chain1 n k)
 | 0,n=>by unfold chainS chain1;rfl
 | k+1,n=>by unfold chainS chain1;rw[sumS_hex,chain_hex k]
theorem dec2 (n:Nat)(h:n<100):Lib.decDigits n=dig2 n:=by
 unfold dig2
 rw[Lib.decDigits]
 by_cases h1:n<10
 ·rw[dif_pos h1,if_pos h1]
 ·rw[dif_neg h1,if_neg h1,Lib.decDigits,dif_pos (by omega)]
  rfl
theorem txtP2 (x:ByteArray)(l:List UInt8)(h:x.data.toList=l)(hl:l.length<100):txtP x=txt2 l:=by
 have hs:=size_list x
 unfold txtP txt2
 rw[Lib.itoa_nonneg,h,show x.size=l.length by rw[hs,h],dec2 _ hl]
theorem dig2_len (i:Nat):(dig2 i).length≤2:=by unfold dig2;split<;>simp
theorem start_hex (i:Nat)(h:i<18):startS ⟨#[107]⟩ i=hexT (start2 i):=by
 have e1:txtP ⟨#[107]⟩=txt2 [107]:=txtP2 _ _ rfl (by decide)
 have e2:txtP (numB i)=txt2 (dig2 i):=txtP2 _ _ (by
  show (Lib.itoa (i:Int)).toArray.toList=_
  rw[Lib.itoa_nonneg,dec2 i (by omega)]) (by have:=dig2_len i;omega)
 have e3:txtZ [⟨#[107]⟩,numB i]=txt2 [107]++txt2 (dig2 i):=by
  show txtP ⟨#[107]⟩++(txtP (numB i)++[])=_
  rw[e1,e2,List.append_nil]
 unfold startS listS start2
 rw[e3,sumS_T]
theorem txtZ_hex : ∀ l:List Nat,txtZ (l.map hexT)=l.flatMap fun c=>txt2 (hexN 16 c)
 | []=>rfl
 | c::l=>by
  have h:txtP (hexT c)=txt2 (hexN 16 c):=txtP2 _ _ (hexT_list c) (by rw[hexN_len];decide)
  have e:txtZ (hexT c::l.map hexT)=txtP (hexT c)++txtZ (l.map hexT):=rfl
  rw[List.map_cons,e,txtZ_hex l,h,List.flatMap_cons]
theorem ends2_at : ends2=[17097749478301538422,7792444935610094064,484633485113072241,16184741360586346554,13116567491033419891,9696879472941449527,12701650762258358918,17030068972441313919,16620053311602023154,11363979415219467447,2399200940836808147,1964724910858654181,8359500942236105560,8258835279198496336,5687348619840191273,696784791123368958,9186358852032597128,15053316188938510867]:=by decide +kernel
theorem sum2_at : sumN (([17097749478301538422,7792444935610094064,484633485113072241,16184741360586346554,13116567491033419891,9696879472941449527,12701650762258358918,17030068972441313919,16620053311602023154,11363979415219467447,2399200940836808147,1964724910858654181,8359500942236105560,8258835279198496336,5687348619840191273,696784791123368958,9186358852032597128,15053316188938510867]:List Nat).flatMap fun c=>txt2 (hexN 16 c))=12483837858412026081:=by decide +kernel
theorem public_hex : publicS ⟨#[107]⟩=hexT 12483837858412026081:=by
 have e1:((List.range 18).map fun i=>chainS (startS ⟨#[107]⟩ i) 15)=ends2.map hexT:=by
  unfold ends2
  rw[List.map_map]
  refine List.map_congr_left fun i hi=>?_
  rw[start_hex i (List.mem_range.1 hi),chain_hex]
  rfl
 unfold publicS listS
 rw[e1,txtZ_hex,ends2_at,sumS_T]
 have:=sum2_at
 generalize ([17097749478301538422,7792444935610094064,484633485113072241,16184741360586346554,13116567491033419891,9696879472941449527,12701650762258358918,17030068972441313919,16620053311602023154,11363979415219467447,2399200940836808147,1964724910858654181,8359500942236105560,8258835279198496336,5687348619840191273,696784791123368958,9186358852032597128,15053316188938510867]:List Nat).flatMap (fun c=>txt2 (hexN 16 c))=z at this
 show hexT (sumN z.toArray.toList)=_
 rw[List.toList_toArray,this]
theorem sum_m : sumN [109]=4493593283401927581:=by decide +kernel
theorem m_hex : sumS ⟨#[109]⟩=hexT 4493593283401927581:=by
 rw[sumS_T]
 show hexT (sumN [109])=_
 rw[sum_m]
theorem key_ne : publicS ⟨#[107]⟩≠sumS ⟨#[109]⟩:=by
 rw[public_hex,m_hex]
 intro h
 have h2:=congrArg (fun t:ByteArray=>t.data.toList) h
 rw[hexT_list,hexT_list] at h2
 exact absurd h2 (by decide +kernel)
end Go.SX.Rg
set_option linter.unusedVariables false
namespace Go.SX.Rg
open Go Go.SX
section head
variable (K L M:ByteArray)
def hd0 : Entry:=⟨⟨30001,2,3,K,[]⟩,0⟩
def hd1 : Entry:=⟨⟨30001,2,4,K,[]⟩,0⟩
def hd2 (x:Transfer):Entry:=⟨⟨30001,2,4,K,[x]⟩,0⟩
def hd3 (x:Transfer):Entry:=⟨⟨30001,2,4,K,[x]⟩,100⟩
def hdf : Entry:=⟨⟨30002,2,3,L,[]⟩,0⟩
def hdg : Entry:=⟨⟨30003,2,4,M,[]⟩,0⟩
theorem hv1 (iK:isS K=true):issueS 2 5 [] 3 K=(30001,0,[hd0 K]):=by
 unfold issueS
 rw[if_neg (by rw[iK];decide),if_neg (fun h=>h rfl)]
 rfl
theorem hv2 (iL:isS L=true):issueS 2 5 [hd0 K] 3 L=(0,16,[hd0 K]):=by
 have h:atS (baseS 2) [hd0 K] 3=30001:=rfl
 unfold issueS
 rw[if_neg (by rw[iL];decide),h,if_pos (by decide)]
theorem hv3 : moveS 2 5 [hd0 K] 30001 4=(0,[hd1 K]):=by
 have h:atS (baseS 2) [hd0 K] 4=0:=rfl
 have hl:lookS (baseS 2) [hd0 K] 30001=some (hd0 K):=rfl
 unfold moveS chgS
 rw[if_neg (by decide),hl]
 dsimp only
 rw[if_neg (show ¬ (0:Int)<(hd0 K).gone from by show ¬ (0:Int)<0;decide)]
 unfold movE
 rw[h,if_neg (show ¬ ((0:Int)≠0∧(0:Int)≠30001) from fun h=>h.1 rfl),if_neg (fun h=>h rfl)]
 rfl
theorem hv4 (iL:isS L=true):issueS 2 5 [hd1 K] 3 L=(30002,0,[hd1 K,hdf L]):=by
 have h:atS (baseS 2) [hd1 K] 3=0:=rfl
 unfold issueS
 rw[if_neg (by rw[iL];decide),h,if_neg (fun h=>h rfl)]
 rfl
theorem hv6 (x:Transfer)(hv:validS (hd2 K x).Title=true):passS 2 [hd1 K,hdf L] 30001 x=(0,[hd2 K x,hdf L]):=by
 have hl:lookS (baseS 2) [hd1 K,hdf L] 30001=some (hd1 K):=rfl
 have hp:pasT x (hd1 K).Title=(hd2 K x).Title:=rfl
 unfold passS chgS
 rw[hl]
 dsimp only
 rw[if_neg (show ¬ (0:Int)<(hd1 K).gone from by show ¬ (0:Int)<0;decide)]
 unfold pasE
 rw[if_neg (show ¬ 50≤(hd1 K).Title.Chain.length from by show ¬ 50≤0;decide),hp,if_pos hv,if_neg (fun h=>h rfl)]
 rfl
theorem hv7 (x:Transfer)(hv:validS (pasT x (hd2 K x).Title)=false):passS 2 [hd2 K x,hdf L] 30001 x=(20,[hd2 K x,hdf L]):=by
 have hl:lookS (baseS 2) [hd2 K x,hdf L] 30001=some (hd2 K x):=rfl
 unfold passS chgS
 rw[hl]
 dsimp only
 rw[if_neg (show ¬ (0:Int)<(hd2 K x).gone from by show ¬ (0:Int)<0;decide)]
 unfold pasE
 rw[if_neg (show ¬ 50≤(hd2 K x).Title.Chain.length from by show ¬ 50≤1;decide),hv,if_neg (show ¬ (false=true) by decide),if_pos (c:=((20,hd2 K x):Int×Entry).1≠0) (show (20:Int)≠0 by decide)]
theorem hv8 (x:Transfer):revokeS 2 [hd2 K x,hdf L] 30001 100=(0,[hd3 K x,hdf L]):=by
 have hl:lookS (baseS 2) [hd2 K x,hdf L] 30001=some (hd2 K x):=rfl
 unfold revokeS chgS
 rw[if_neg (by decide),hl]
 dsimp only
 rw[if_neg (show ¬ (0:Int)<(hd2 K x).gone from by show ¬ (0:Int)<0;decide),if_neg (fun h=>h rfl)]
 rfl
theorem hv9 (x:Transfer):revokeS 2 [hd3 K x,hdf L] 30001 101=(27,[hd3 K x,hdf L]):=by
 have hl:lookS (baseS 2) [hd3 K x,hdf L] 30001=some (hd3 K x):=rfl
 unfold revokeS chgS
 rw[if_neg (by decide),hl]
 dsimp only
 rw[if_pos (show (0:Int)<(hd3 K x).gone from by show (0:Int)<100;decide)]
theorem hv10 (x:Transfer)(iM:isS M=true):issueS 2 5 [hd3 K x,hdf L] 4 M=(30003,0,[hd3 K x,hdf L,hdg M]):=by
 have h:atS (baseS 2) [hd3 K x,hdf L] 4=0:=rfl
 unfold issueS
 rw[if_neg (by rw[iM];decide),h,if_neg (fun h=>h rfl)]
 rfl
theorem head_core (hK:sign_Public_g ⟨#[107]⟩=some K)(hL:digest_Sum_g ⟨#[108]⟩=some L)(hM:digest_Sum_g ⟨#[109]⟩=some M)(iK:isS K=true)(iL:isS L=true)(iM:isS M=true)(hne:K≠M)
  (hv:∀ m,verifyS K m (signS ⟨#[107]⟩ m)=true):law32_head_g=some true:=by
 have I0:InvL 2 5 []:=InvL.nil (by decide) (by decide) (by decide) (by decide)
 obtain⟨a1,h1,A1⟩:=issue_eq I0 (InvA.nil _) 3 K
 have I1:=issue_inv I0 (InvA.nil _) 3 K (by decide)
 rw[hv1 K iK] at h1 A1 I1
 obtain⟨a2,h2,A2⟩:=issue_eq I1 A1 3 L
 rw[hv2 K L iL] at h2 A2
 obtain⟨a3,h3,I3,A3⟩:=move_eq I1 A2 30001 4
 rw[hv3 K] at h3 I3 A3
 obtain⟨a4,h4,A4⟩:=issue_eq I3 A3 3 L
 have I4:=issue_inv I3 A3 3 L (by show 1<1000;decide)
 rw[hv4 K L iL] at h4 A4 I4
 have V4:validS (hd1 K).Title=true:=(I4.ent 0 (hd1 K) rfl).v
 have F4:=valid_formed V4
 obtain⟨x,hx⟩:∃ x:Transfer,x=⟨M,signS ⟨#[107]⟩ (msgS (hd1 K).Title M)⟩:=⟨_,rfl⟩
 have hu:usedS (hd1 K).Title M=false:=by
  unfold usedS
  show (decide (K=M)||false)=false
  rw[decide_eq_false hne]
  rfl
 have tx:trS x=true:=by
  rw[hx]
  unfold trS
  rw[signS_len,iM,signS_is]
  rfl
 have V5:validS (hd2 K x).Title=true:=by
  have hf:formedS (hd2 K x).Title=true:=(formedS_iff _).2 ⟨F4.h0,F4.h1,F4.k0,F4.k1,F4.p0,F4.p1,F4.f,by show 1≤50;decide,by show ([x].all trS)=true;rw[List.all_cons,tx];rfl⟩
  have hs:stepS (hd1 K).Title x=true:=by
   unfold stepS
   have ho:ownerS (hd1 K).Title=K:=rfl
   have hto:x.To=M:=by rw[hx]
   have hsg:x.Sig=signS ⟨#[107]⟩ (msgS (hd1 K).Title M):=by rw[hx]
   rw[hto,hsg,hu,ho,hv]
   rfl
  unfold validS stepsS
  rw[hf]
  show (true&&((List.range 1).all fun k=>match [x][k]? with | some x'=>stepS (cutS (hd2 K x).Title k) x' | none=>true))=true
  show (true&&(stepS (cutS (hd2 K x).Title 0) x&&true))=true
  have hc:cutS (hd2 K x).Title 0=(hd1 K).Title:=rfl
  rw[hc,hs]
  rfl
 have V6:validS (pasT x (hd2 K x).Title)=false:=by
  unfold validS
  have hs:stepsS (pasT x (hd2 K x).Title)=false:=by
   unfold stepsS
   show ((stepS (cutS (pasT x (hd2 K x).Title) 0) x)&&(stepS (cutS (pasT x (hd2 K x).Title) 1) x&&true))=false
   have hc:cutS (pasT x (hd2 K x).Title) 1=(hd2 K x).Title:=rfl
   have hu1:usedS (hd2 K x).Title x.To=true:=by
    unfold usedS
    show (decide (K=x.To)||(decide (x.To=x.To)||false))=true
    rw[decide_eq_true (show x.To=x.To from rfl)]
    simp
   have hs1:stepS (hd2 K x).Title x=false:=by
    unfold stepS
    rw[hu1]
    rfl
   rw[hc,hs1]
   simp
  rw[hs,Bool.and_false]
 have hsig:x.Sig.length≤1000000:=by rw[hx,signS_len];decide
 obtain⟨a5,h5,I5,A5⟩:=pass_eq I4 A4 30001 x hsig
 rw[hv6 K L x V5] at h5 I5 A5
 obtain⟨a6,h6,I6,A6⟩:=pass_eq I5 A5 30001 x hsig
 rw[hv7 K L x V6] at h6 I6 A6
 obtain⟨a7,h7,I7,A7⟩:=revoke_eq I6 A6 30001 100
 rw[hv8 K L x] at h7 I7 A7
 obtain⟨a8,h8,I8,A8⟩:=revoke_eq I7 A7 30001 101
 rw[hv9 K L x] at h8 I8 A8
 obtain⟨a9,h9,A9⟩:=issue_eq I8 A8 4 M
 have I9:=issue_inv I8 A8 4 M (by show 2<1000;decide)
 rw[hv10 K L M x iM] at h9 A9 I9
 have hP:title_Pass_g (hd1 K).Title M ⟨#[107]⟩=some ((hd2 K x).Title,0):=by
  have hval:title_Valid_g (hd1 K).Title=some true:=by rw[valid_eq _ (by show (0:Int)≤30001;decide) (by show (30001:Int)≤1000000000;decide),V4]
  unfold title_Pass_g
  rw[hval,Option.bind_some,io_not,Bool.not_true,cond_false,digest_Is_eq,iM,Option.bind_some,io_not,Bool.not_true,Option.bind_some,cond_false,io_eqi,io_len,
   decide_eq_false (show ¬ (((hd1 K).Title.Chain.length:Nat):Int)=50 from by show ¬ (0:Int)=50;decide),cond_false,used_eq _ _ (by show 0≤_;decide),hu,Option.bind_some,cond_false,hK,Option.bind_some,
   owner_eq _ (by show 0≤_;decide),Option.bind_some,seq_dec,show ownerS (hd1 K).Title=K from rfl,decide_eq_true rfl,io_not,Bool.not_true,cond_false,clone_tr _ (by show 0≤_;decide),Option.bind_some,
   msg_eq _ _ (F4.tit.m M (by rw[isS_size iM];decide)),Option.bind_some,sign_eq _ _ (by decide) (by rw[msgS_size];decide),Option.bind_some,Option.bind_some,appG_some (by show 0+1≤_;decide),Option.bind_some,← hx]
  rfl
 have ho:title_Owner_g (hd3 K x).Title=some M:=by
  rw[owner_eq _ (by show 1≤_;decide)]
  show some x.To=_
  rw[hx]
 have hr:registry_Registry_Revoked_b 2 5 (ttlF (baseS 2) [hd3 K x,hdf L,hdg M]) a9=some [30001]:=by
  rw[revoked_eq I9]
  rfl
 have n1:registry_New_b 2 5=some false:=new_eq (by decide) (by decide) (by decide) (by decide)
 have n2:registry_New_b 20 1=some true:=new_no (by decide)
 have h1:registry_Registry_Issue_b 2 5 ([]:List (Int×Entry)) ([]:List (Int×Int)) 3 K=some (30001,0,ttlF (baseS 2) [hd0 K],a1):=h1
 have hrn:registry_Registry_Revoke_nil_g 1 1=some 1:=by
  unfold registry_Registry_Revoke_nil_g
  rw[io_lt,io_lt]
  rfl
 have hat:registry_Registry_At_b 2 5 (ttlF (baseS 2) [hd0 K]) a2 3=some 30001:=by
  rw[at_eq A2]
  rfl
 have ht5:registry_Registry_Title_b 2 5 (ttlF (baseS 2) [hd1 K,hdf L]) a4 30001=some ((hd1 K).Title,0,0):=title_eq 2 5 [hd1 K,hdf L] a4 30001
 have ht9:registry_Registry_Title_b 2 5 (ttlF (baseS 2) [hd3 K x,hdf L,hdg M]) a9 30001=some ((hd3 K x).Title,100,0):=title_eq 2 5 [hd3 K x,hdf L,hdg M] a9 30001
 have hi:ref11_Ints_g [30001] [30001]=some true:=ints_refl _ (by decide)
 have hix:idxG (hd2 K x).Title.Chain 0=some x:=rfl
 unfold law32_head_g
 rw[n1]
 show (Option.bind (sign_Public_g ⟨#[107]⟩) _)=_
 dsimp only at h2 h3 h4 h5 h6 h7 h8 h9
 rw[hK,Option.bind_some,h1,Option.bind_some,Option.bind_some,hL]
 dsimp only
 rw[Option.bind_some,h2,Option.bind_some,Option.bind_some]
 dsimp only
 rw[hat,Option.bind_some,Option.bind_some,h3,Option.bind_some,Option.bind_some]
 dsimp only
 rw[Option.bind_some,h4,Option.bind_some,Option.bind_some]
 dsimp only
 rw[ht5,Option.bind_some,Option.bind_some]
 dsimp only
 rw[hM,Option.bind_some]
 show (Option.bind (title_Pass_g (hd1 K).Title M ⟨#[107]⟩) _)=_
 rw[hP,Option.bind_some]
 dsimp only
 rw[io_eqi,io_not,decide_eq_true rfl,Bool.not_true,cond_false,io_len,io_eqi,io_not,decide_eq_true (show (((hd2 K x).Title.Chain.length:Nat):Int)=1 from rfl),Bool.not_true,Option.bind_some,cond_false,hix,Option.bind_some,h5,Option.bind_some,Option.bind_some]
 dsimp only
 rw[Option.bind_some,h6,Option.bind_some,Option.bind_some]
 dsimp only
 rw[h7,Option.bind_some,Option.bind_some]
 dsimp only
 rw[h8,Option.bind_some,Option.bind_some]
 dsimp only
 rw[Option.bind_some,h9,Option.bind_some,Option.bind_some]
 dsimp only
 rw[ht9,Option.bind_some,Option.bind_some]
 dsimp only
 simp only[io_eqi,eq_self,decide_true,cond_true,Option.bind_some]
 show (Option.bind (title_Owner_g (hd3 K x).Title) _)=_
 rw[ho,Option.bind_some,seq_dec,decide_eq_true rfl,cond_true,hr,Option.bind_some,hi,Option.bind_some,cond_true,n2]
 show (Option.bind (registry_Registry_Revoke_nil_g 1 1) _)=_
 rw[hrn]
 rfl
end head
theorem head_eq : law32_head_g=some true:=by
 have hne:=key_ne
 have hv:=verify_sign ⟨#[107]⟩
 have iK:=publicS_is ⟨#[107]⟩
 have hK:=public_eq ⟨#[107]⟩ (by decide)
 have hL:=digest_Sum_eq ⟨#[108]⟩ (by decide)
 have hM:=digest_Sum_eq ⟨#[109]⟩ (by decide)
 have iL:=sumS_is ⟨#[108]⟩
 have iM:=sumS_is ⟨#[109]⟩
 generalize publicS ⟨#[107]⟩=K at hne hv iK hK
 generalize sumS ⟨#[108]⟩=L at hL iL
 generalize sumS ⟨#[109]⟩=M at hM iM hne
 exact head_core K L M hK hL hM iK iL iM hne hv
end Go.SX.Rg
set_option linter.unusedVariables false
namespace Go.SX.Rg
open Go Go.SX
theorem chg_no {b:Int}{l:List Entry}{s:Int}{f:Entry→Int×Entry}(h:(chgS b l s f).1≠0):(chgS b l s f).2=l:=by
 unfold chgS at h ⊢
 cases hs:lookS b l s with
 | none=>rfl
 | some e =>
  rw[hs] at h
  dsimp only at h ⊢
  by_cases hg:0<e.gone
  ·rw[if_pos hg]
  ·rw[if_neg hg] at h ⊢
   by_cases hf:(f e).1≠0
   ·rw[if_pos hf]
   ·rw[if_neg hf] at h
    exact absurd rfl h
theorem chg_yes {b:Int}{l:List Entry}{s:Int}{f:Entry→Int×Entry}(h:(chgS b l s f).1=0):∃ (i:Nat)(e:Entry),s=b+i∧l[i]?=some e∧¬ 0<e.gone∧(f e).1=0∧(chgS b l s f).2=l.set i (f e).2:=by
 unfold chgS at h ⊢
 cases hs:lookS b l s with
 | none=>rw[hs] at h;exact absurd (show (11:Int)=0 from h) (by decide)
 | some e =>
  obtain⟨i,rfl,hi⟩:=lookS_some hs
  rw[hs] at h
  dsimp only at h ⊢
  by_cases hg:0<e.gone
  ·rw[if_pos hg] at h
   exact absurd (show (27:Int)=0 from h) (by decide)
  ·rw[if_neg hg] at h ⊢
   by_cases hf:(f e).1≠0
   ·rw[if_pos hf] at h
    exact absurd h hf
   ·rw[if_neg hf] at h ⊢
    exact⟨i,e,rfl,hi,hg,by omega,by rw[show (b+(i:Int) - b).toNat=i by omega]⟩
theorem bne_zero (n:Int):io.not (io.eq n 0)=!decide (n=0):=by rw[io_not,io_eqi]
end Go.SX.Rg
set_option linter.unusedVariables false
namespace Go.SX.Rg
open Go Go.SX
theorem take_snoc {l:List Entry}{j:Nat}{e:Entry}(h:l[j]?=some e):l.take (j+1)=l.take j++[e]:=by
 rw[List.take_add_one,h]
 rfl
end Go.SX.Rg
