/- Parts of the proof. -/
import Derived.Test.YtlpempbeenpilaaGreatDoorZRgQ3
import Derived.Test.YtlpempbeenpilaaGreatDoorZRg33d
set_option linter.unusedSimpArgs false
set_option linter.unusedVariables false
set_option linter.unusedSectionVars false
set_option linter.unusedVariables false
namespace Go.SX.Rg
open Go Go.SX
section head
variable (K L M:ByteArray)
def hd0 : Entry:=⟨⟨30001,2,3,K,[]⟩,0⟩
def hd1 : Entry:=⟨⟨30001,2,4,K,[]⟩,0⟩
def hd2 (x:Transfer):Entry:=⟨⟨30001,2,4,K,[x]⟩,0⟩
def hd3 (x:Transfer):Entry:=⟨⟨30001,2,4,K,[x]⟩,100⟩
def hdf : Entry:=⟨⟨30002,2,3,L,[]⟩,0⟩
def hdg : Entry:=⟨⟨30003,2,4,M,[]⟩,0⟩
theorem hv1 (iK:isS K=true):issueS 2 5 [] 3 K=(30001,0,[hd0 K]):=by
 unfold issueS
 rw[if_neg (by rw[iK];decide),if_neg (fun h=>h rfl)]
 rfl
theorem hv2 (iL:isS L=true):issueS 2 5 [hd0 K] 3 L=(0,16,[hd0 K]):=by
 have h:atS (baseS 2) [hd0 K] 3=30001:=rfl
 unfold issueS
 rw[if_neg (by rw[iL];decide),h,if_pos (by decide)]
theorem hv3 : moveS 2 5 [hd0 K] 30001 4=(0,[hd1 K]):=by
 have h:atS (baseS 2) [hd0 K] 4=0:=rfl
 have hl:lookS (baseS 2) [hd0 K] 30001=some (hd0 K):=rfl
 unfold moveS chgS
 rw[if_neg (by decide),hl]
 dsimp only
 rw[if_neg (show ¬ (0:Int)<(hd0 K).gone from by show ¬ (0:Int)<0;decide)]
 unfold movE
 rw[h,if_neg (show ¬ ((0:Int)≠0∧(0:Int)≠30001) from fun h=>h.1 rfl),if_neg (fun h=>h rfl)]
 rfl
theorem hv4 (iL:isS L=true):issueS 2 5 [hd1 K] 3 L=(30002,0,[hd1 K,hdf L]):=by
 have h:atS (baseS 2) [hd1 K] 3=0:=rfl
 unfold issueS
 rw[if_neg (by rw[iL];decide),h,if_neg (fun h=>h rfl)]
 rfl
theorem hv6 (x:Transfer)(hv:validS (hd2 K x).Title=true):passS 2 [hd1 K,hdf L] 30001 x=(0,[hd2 K x,hdf L]):=by
 have hl:lookS (baseS 2) [hd1 K,hdf L] 30001=some (hd1 K):=rfl
 have hp:pasT x (hd1 K).Title=(hd2 K x).Title:=rfl
 unfold passS chgS
 rw[hl]
 dsimp only
 rw[if_neg (show ¬ (0:Int)<(hd1 K).gone from by show ¬ (0:Int)<0;decide)]
 unfold pasE
 rw[if_neg (show ¬ 50≤(hd1 K).Title.Chain.length from by show ¬ 50≤0;decide),hp,if_pos hv,if_neg (fun h=>h rfl)]
 rfl
theorem hv7 (x:Transfer)(hv:validS (pasT x (hd2 K x).Title)=false):passS 2 [hd2 K x,hdf L] 30001 x=(20,[hd2 K x,hdf L]):=by
 have hl:lookS (baseS 2) [hd2 K x,hdf L] 30001=some (hd2 K x):=rfl
 unfold passS chgS
 rw[hl]
 dsimp only
 rw[if_neg (show ¬ (0:Int)<(hd2 K x).gone from by show ¬ (0:Int)<0;decide)]
 unfold pasE
 rw[if_neg (show ¬ 50≤(hd2 K x).Title.Chain.length from by show ¬ 50≤1;decide),hv,if_neg (show ¬ (false=true) by decide),if_pos (c:=((20,hd2 K x):Int×Entry).1≠0) (show (20:Int)≠0 by decide)]
theorem hv8 (x:Transfer):revokeS 2 [hd2 K x,hdf L] 30001 100=(0,[hd3 K x,hdf L]):=by
 have hl:lookS (baseS 2) [hd2 K x,hdf L] 30001=some (hd2 K x):=rfl
 unfold revokeS chgS
 rw[if_neg (by decide),hl]
 dsimp only
 rw[if_neg (show ¬ (0:Int)<(hd2 K x).gone from by show ¬ (0:Int)<0;decide),if_neg (fun h=>h rfl)]
 rfl
theorem hv9 (x:Transfer):revokeS 2 [hd3 K x,hdf L] 30001 101=(27,[hd3 K x,hdf L]):=by
 have hl:lookS (baseS 2) [hd3 K x,hdf L] 30001=some (hd3 K x):=rfl
 unfold revokeS chgS
 rw[if_neg (by decide),hl]
 dsimp only
 rw[if_pos (show (0:Int)<(hd3 K x).gone from by show (0:Int)<100;decide)]
theorem hv10 (x:Transfer)(iM:isS M=true):issueS 2 5 [hd3 K x,hdf L] 4 M=(30003,0,[hd3 K x,hdf L,hdg M]):=by
 have h:atS (baseS 2) [hd3 K x,hdf L] 4=0:=rfl
 unfold issueS
 rw[if_neg (by rw[iM];decide),h,if_neg (fun h=>h rfl)]
 rfl
theorem head_core (hK:sign_Public_g ⟨#[107]⟩=some K)(hL:digest_Sum_g ⟨#[108]⟩=some L)(hM:digest_Sum_g ⟨#[109]⟩=some M)(iK:isS K=true)(iL:isS L=true)(iM:isS M=true)(hne:K≠M)
  (hv:∀ m,verifyS K m (signS ⟨#[107]⟩ m)=true):law32_head_g=some true:=by
 have I0:InvL 2 5 []:=InvL.nil (by decide) (by decide) (by decide) (by decide)
 obtain⟨a1,h1,A1⟩:=issue_eq I0 (InvA.nil _) 3 K
 have I1:=issue_inv I0 (InvA.nil _) 3 K (by decide)
 rw[hv1 K iK] at h1 A1 I1
 obtain⟨a2,h2,A2⟩:=issue_eq I1 A1 3 L
 rw[hv2 K L iL] at h2 A2
 obtain⟨a3,h3,I3,A3⟩:=move_eq I1 A2 30001 4
 rw[hv3 K] at h3 I3 A3
 obtain⟨a4,h4,A4⟩:=issue_eq I3 A3 3 L
 have I4:=issue_inv I3 A3 3 L (by show 1<1000;decide)
 rw[hv4 K L iL] at h4 A4 I4
 have V4:validS (hd1 K).Title=true:=(I4.ent 0 (hd1 K) rfl).v
 have F4:=valid_formed V4
 obtain⟨x,hx⟩:∃ x:Transfer,x=⟨M,signS ⟨#[107]⟩ (msgS (hd1 K).Title M)⟩:=⟨_,rfl⟩
 have hu:usedS (hd1 K).Title M=false:=by
  unfold usedS
  show (decide (K=M)||false)=false
  rw[decide_eq_false hne]
  rfl
 have tx:trS x=true:=by
  rw[hx]
  unfold trS
  rw[signS_len,iM,signS_is]
  rfl
 have V5:validS (hd2 K x).Title=true:=by
  have hf:formedS (hd2 K x).Title=true:=(formedS_iff _).2 ⟨F4.h0,F4.h1,F4.k0,F4.k1,F4.p0,F4.p1,F4.f,by show 1≤50;decide,by show ([x].all trS)=true;rw[List.all_cons,tx];rfl⟩
  have hs:stepS (hd1 K).Title x=true:=by
   unfold stepS
   have ho:ownerS (hd1 K).Title=K:=rfl
   have hto:x.To=M:=by rw[hx]
   have hsg:x.Sig=signS ⟨#[107]⟩ (msgS (hd1 K).Title M):=by rw[hx]
   rw[hto,hsg,hu,ho,hv]
   rfl
  unfold validS stepsS
  rw[hf]
  show (true&&((List.range 1).all fun k=>match [x][k]? with | some x'=>stepS (cutS (hd2 K x).Title k) x' | none=>true))=true
  show (true&&(stepS (cutS (hd2 K x).Title 0) x&&true))=true
  have hc:cutS (hd2 K x).Title 0=(hd1 K).Title:=rfl
  rw[hc,hs]
  rfl
 have V6:validS (pasT x (hd2 K x).Title)=false:=by
  unfold validS
  have hs:stepsS (pasT x (hd2 K x).Title)=false:=by
   unfold stepsS
   show ((stepS (cutS (pasT x (hd2 K x).Title) 0) x)&&(stepS (cutS (pasT x (hd2 K x).Title) 1) x&&true))=false
   have hc:cutS (pasT x (hd2 K x).Title) 1=(hd2 K x).Title:=rfl
   have hu1:usedS (hd2 K x).Title x.To=true:=by
    unfold usedS
    show (decide (K=x.To)||(decide (x.To=x.To)||false))=true
    rw[decide_eq_true (show x.To=x.To from rfl)]
    simp
   have hs1:stepS (hd2 K x).Title x=false:=by
    unfold stepS
    rw[hu1]
    rfl
   rw[hc,hs1]
   simp
  rw[hs,Bool.and_false]
 have hsig:x.Sig.length≤1000000:=by rw[hx,signS_len];decide
 obtain⟨a5,h5,I5,A5⟩:=pass_eq I4 A4 30001 x hsig
 rw[hv6 K L x V5] at h5 I5 A5
 obtain⟨a6,h6,I6,A6⟩:=pass_eq I5 A5 30001 x hsig
 rw[hv7 K L x V6] at h6 I6 A6
 obtain⟨a7,h7,I7,A7⟩:=revoke_eq I6 A6 30001 100
 rw[hv8 K L x] at h7 I7 A7
 obtain⟨a8,h8,I8,A8⟩:=revoke_eq I7 A7 30001 101
 rw[hv9 K L x] at h8 I8 A8
 obtain⟨a9,h9,A9⟩:=issue_eq I8 A8 4 M
 have I9:=issue_inv I8 A8 4 M (by show 2<1000;decide)
 rw[hv10 K L M x iM] at h9 A9 I9
 have hP:title_Pass_g (hd1 K).Title M ⟨#[107]⟩=some ((hd2 K x).Title,0):=by
  have hval:title_Valid_g (hd1 K).Title=some true:=by rw[valid_eq _ (by show (0:Int)≤30001;decide) (by show (30001:Int)≤1000000000;decide),V4]
  unfold title_Pass_g
  rw[hval,Option.bind_some,io_not,Bool.not_true,cond_false,digest_Is_eq,iM,Option.bind_some,io_not,Bool.not_true,Option.bind_some,cond_false,io_eqi,io_len,
   decide_eq_false (show ¬ (((hd1 K).Title.Chain.length:Nat):Int)=50 from by show ¬ (0:Int)=50;decide),cond_false,used_eq _ _ (by show 0≤_;decide),hu,Option.bind_some,cond_false,hK,Option.bind_some,
   owner_eq _ (by show 0≤_;decide),Option.bind_some,seq_dec,show ownerS (hd1 K).Title=K from rfl,decide_eq_true rfl,io_not,Bool.not_true,cond_false,clone_tr _ (by show 0≤_;decide),Option.bind_some,
   msg_eq _ _ (F4.tit.m M (by rw[isS_size iM];decide)),Option.bind_some,sign_eq _ _ (by decide) (by rw[msgS_size];decide),Option.bind_some,Option.bind_some,appG_some (by show 0+1≤_;decide),Option.bind_some,← hx]
  rfl
 have ho:title_Owner_g (hd3 K x).Title=some M:=by
  rw[owner_eq _ (by show 1≤_;decide)]
  show some x.To=_
  rw[hx]
 have hr:registry_Registry_Revoked_b 2 5 (ttlF (baseS 2) [hd3 K x,hdf L,hdg M]) a9=some [30001]:=by
  rw[revoked_eq I9]
  rfl
 have n1:registry_New_b 2 5=some false:=new_eq (by decide) (by decide) (by decide) (by decide)
 have n2:registry_New_b 20 1=some true:=new_no (by decide)
 have h1:registry_Registry_Issue_b 2 5 ([]:List (Int×Entry)) ([]:List (Int×Int)) 3 K=some (30001,0,ttlF (baseS 2) [hd0 K],a1):=h1
 have hrn:registry_Registry_Revoke_nil_g 1 1=some 1:=by
  unfold registry_Registry_Revoke_nil_g
  rw[io_lt,io_lt]
  rfl
 have hat:registry_Registry_At_b 2 5 (ttlF (baseS 2) [hd0 K]) a2 3=some 30001:=by
  rw[at_eq A2]
  rfl
 have ht5:registry_Registry_Title_b 2 5 (ttlF (baseS 2) [hd1 K,hdf L]) a4 30001=some ((hd1 K).Title,0,0):=title_eq 2 5 [hd1 K,hdf L] a4 30001
 have ht9:registry_Registry_Title_b 2 5 (ttlF (baseS 2) [hd3 K x,hdf L,hdg M]) a9 30001=some ((hd3 K x).Title,100,0):=title_eq 2 5 [hd3 K x,hdf L,hdg M] a9 30001
 have hi:ref11_Ints_g [30001] [30001]=some true:=ints_refl _ (by decide)
 have hix:idxG (hd2 K x).Title.Chain 0=some x:=rfl
 unfold law32_head_g
 rw[n1]
 show (Option.bind (sign_Public_g ⟨#[107]⟩) _)=_
 dsimp only at h2 h3 h4 h5 h6 h7 h8 h9
 rw[hK,Option.bind_some,h1,Option.bind_some,Option.bind_some,hL]
 dsimp only
 rw[Option.bind_some,h2,Option.bind_some,Option.bind_some]
 dsimp only
 rw[hat,Option.bind_some,Option.bind_some,h3,Option.bind_some,Option.bind_some]
 dsimp only
 rw[Option.bind_some,h4,Option.bind_some,Option.bind_some]
 dsimp only
 rw[ht5,Option.bind_some,Option.bind_some]
 dsimp only
 rw[hM,Option.bind_some]
 show (Option.bind (title_Pass_g (hd1 K).Title M ⟨#[107]⟩) _)=_
 rw[hP,Option.bind_some]
 dsimp only
 rw[io_eqi,io_not,decide_eq_true rfl,Bool.not_true,cond_false,io_len,io_eqi,io_not,decide_eq_true (show (((hd2 K x).Title.Chain.length:Nat):Int)=1 from rfl),Bool.not_true,Option.bind_some,cond_false,hix,Option.bind_some,h5,Option.bind_some,Option.bind_some]
 dsimp only
 rw[Option.bind_some,h6,Option.bind_some,Option.bind_some]
 dsimp only
 rw[h7,Option.bind_some,Option.bind_some]
 dsimp only
 rw[h8,Option.bind_some,Option.bind_some]
 dsimp only
 rw[Option.bind_some,h9,Option.bind_some,Option.bind_some]
 dsimp only
 rw[ht9,Option.bind_some,Option.bind_some]
 dsimp only
 simp only[io_eqi,eq_self,decide_true,cond_true,Option.bind_some]
 show (Option.bind (title_Owner_g (hd3 K x).Title) _)=_
 rw[ho,Option.bind_some,seq_dec,decide_eq_true rfl,cond_true,hr,Option.bind_some,hi,Option.bind_some,cond_true,n2]
 show (Option.bind (registry_Registry_Revoke_nil_g 1 1) _)=_
 rw[hrn]
 rfl
end head
theorem head_eq : law32_head_g=some true:=by
 have hne:=key_ne
 have hv:=verify_sign ⟨#[107]⟩
 have iK:=publicS_is ⟨#[107]⟩
 have hK:=public_eq ⟨#[107]⟩ (by decide)
 have hL:=digest_Sum_eq ⟨#[108]⟩ (by decide)
 have hM:=digest_Sum_eq ⟨#[109]⟩ (by decide)
 have iL:=sumS_is ⟨#[108]⟩
 have iM:=sumS_is ⟨#[109]⟩
 generalize publicS ⟨#[107]⟩=K at hne hv iK hK
 generalize sumS ⟨#[108]⟩=L at hL iL
 generalize sumS ⟨#[109]⟩=M at hM iM hne
 exact head_core K L M hK hL hM iK iL iM hne hv
end Go.SX.Rg
set_option linter.unusedVariables false
namespace Go.SX.Rg
open Go Go.SX
theorem chg_no {b:Int}{l:List Entry}{s:Int}{f:Entry→Int×Entry}(h:(chgS b l s f).1≠0):(chgS b l s f).2=l:=by
 unfold chgS at h ⊢
 cases hs:lookS b l s with
 | none=>rfl
 | some e =>
  rw[hs] at h
  dsimp only at h ⊢
  by_cases hg:0<e.gone
  ·rw[if_pos hg]
  ·rw[if_neg hg] at h ⊢
   by_cases hf:(f e).1≠0
   ·rw[if_pos hf]
   ·rw[if_neg hf] at h
    exact absurd rfl h
theorem chg_yes {b:Int}{l:List Entry}{s:Int}{f:Entry→Int×Entry}(h:(chgS b l s f).1=0):∃ (i:Nat)(e:Entry),s=b+i∧l[i]?=some e∧¬ 0<e.gone∧(f e).1=0∧(chgS b l s f).2=l.set i (f e).2:=by
 unfold chgS at h ⊢
 cases hs:lookS b l s with
 | none=>rw[hs] at h;exact absurd (show (11:Int)=0 from h) (by decide)
 | some e =>
  obtain⟨i,rfl,hi⟩:=lookS_some hs
  rw[hs] at h
  dsimp only at h ⊢
  by_cases hg:0<e.gone
  ·rw[if_pos hg] at h
   exact absurd (show (27:Int)=0 from h) (by decide)
  ·rw[if_neg hg] at h ⊢
   by_cases hf:(f e).1≠0
   ·rw[if_pos hf] at h
    exact absurd h hf
   ·rw[if_neg hf] at h ⊢
    exact⟨i,e,rfl,hi,hg,by omega,by rw[show (b+(i:Int) - b).toNat=i by omega]⟩
theorem do_no {sh pl:Int}{l:List Entry}{x:Op}{known:List ByteArray}(h:(doS sh pl l x known).2.1≠0):(doS sh pl l x known).2.2=l:=by
 unfold doS at h ⊢
 by_cases h0:x.Kind=0
 ·rw[if_pos h0] at h ⊢
  unfold issueS at h ⊢
  split
  ·rfl
  ·split
   ·rfl
   ·rename_i h1 h2
    rw[if_neg h1,if_neg h2] at h
    exact absurd rfl h
 ·rw[if_neg h0] at h ⊢
  by_cases h2:x.Kind=2
  ·rw[if_pos h2] at h ⊢
   dsimp only at h ⊢
   unfold revokeS at h ⊢
   split
   ·rfl
   ·rename_i h1
    rw[if_neg h1] at h
    exact chg_no h
  ·rw[if_neg h2] at h ⊢
   by_cases h3:x.Kind=3
   ·rw[if_pos h3] at h ⊢
    dsimp only at h ⊢
    unfold moveS at h ⊢
    split
    ·rfl
    ·rename_i h1
     rw[if_neg h1] at h
     exact chg_no h
   ·rw[if_neg h3] at h ⊢
    dsimp only at h ⊢
    unfold passS at h ⊢
    exact chg_no h
theorem bne_zero (n:Int):io.not (io.eq n 0)=!decide (n=0):=by rw[io_not,io_eqi]
theorem refuse_cond (t:Int)(m k:Bool):(bif decide (t<0) then some true else bif decide (8≤t) then some true else bif !m then (Option.bind (some k) fun v=>some (io.not v)) else some false)=some (decide (t<0∨8≤t∨(m||k)=false)):=by
 by_cases c1:t<0<;>by_cases c2:8≤t<;>cases m<;>cases k<;>simp[c1,c2,io_not]
theorem refuses_eq {w:Int}(h0:0≤w)(h1:w≤255)(l:List Op)(x:Op)(hl:l.length≤2199023255488)(hi:∀ y∈l,OpIn y)(hx:OpIn x):law32_RegistryRefuses_g w l x=some true:=by
 unfold law32_RegistryRefuses_g
 rw[head_eq,Option.bind_some,appH_some (by simp only[List.length_nil];omega),Option.bind_some,Option.bind_some,List.nil_append,appH_some (by rw[List.length_singleton];omega),Option.bind_some,
  few_eq _ (by rw[List.length_append,List.length_singleton];show _≤9223372036854775807;omega),Option.bind_some,io_not]
 cases hf:fewS (l++[x]) with
 | false=>rfl
 | true =>
  obtain⟨hlen,hok⟩:=few_ops hf (fun y hy=>by
   rcases List.mem_append.1 hy with hy | hy
   ·exact hi y hy
   ·rw[List.mem_singleton] at hy;rw[hy];exact hx)
  rw[List.length_append,List.length_singleton] at hlen
  have hxo:=hok x (List.mem_append_right _ (List.mem_singleton.2 rfl))
  have hlo:∀ y∈l,OpOk y:=fun y hy=>hok y (List.mem_append_left _ hy)
  obtain⟨a,hp,hL,hA⟩:=played_eq h0 h1 l (by omega) hlo
  have hkn:=known_ok (l:=l) (by omega) hlo
  have hpl:(playS (shS w) 8 (knownS l) l).length≤16:=by
   have:=play_len (shS w) 8 (knownS l) l l.length (Nat.le_refl _)
   rw[List.take_length] at this
   omega
  rw[Bool.not_true,cond_false,show divG 20=some () from rfl,Option.bind_some,hp,Option.bind_some,Option.bind_some,secrets_eq l (by omega) hlo,Option.bind_some]
  generalize knownS l=known at hL hA hkn hpl
  generalize playS (shS w) 8 known l=L at hL hA hpl
  dsimp only
  obtain⟨a2,hd,hL2,hA2⟩:=do_eq hL hA (by omega) x hxo known hkn
  rw[hd,Option.bind_some,Option.bind_some]
  dsimp only
  have hsame:(bif (io.not (io.eq (doS (shS w) 8 L x known).2.1 0)) then (
    Option.bind (law32_same_b (shS w) 8 (ttlF (baseS (shS w)) (doS (shS w) 8 L x known).2.2) a2 (shS w) 8 (ttlF (baseS (shS w)) L) a (io.rem (io.wrap .i64 w) 20) 8 (io.ar .add .i64 (io.len (W eOp l)) 1)) fun r14 =>
    some (io.not r14)) else some false)=some false:=by
   rw[bne_zero]
   by_cases he:(doS (shS w) 8 L x known).2.1=0
   ·rw[decide_eq_true he];rfl
   ·have hno:=do_no he
    rw[hno] at hA2
    rw[decide_eq_false he,Bool.not_false,cond_true,hno,sh_rem h0 h1,io_len,io_add,wr_up (k:=l.length) (by omega),same_true hL hA2 hA (l.length+1) (by omega),Option.bind_some,io_not]
    rfl
  rw[hsame,Option.bind_some,cond_false,io_not,io_eqi,io_lt,io_le]
  by_cases hk:x.Kind=0
  ·have hdo:doS (shS w) 8 L x known=issueS (shS w) 8 L x.At (keyS x):=by unfold doS;rw[if_pos hk]
   rw[decide_eq_true hk,Bool.not_true,cond_false,hdo]
   have hkey:isS (keyS x)=(decide (x.Key=⟨#[]⟩)||isS x.Key):=by
    unfold keyS
    by_cases he:x.Key=⟨#[]⟩
    ·rw[if_pos he,decide_eq_true he,Bool.true_or]
     exact publicS_is _
    ·rw[if_neg he,decide_eq_false he,Bool.false_or]
   have hcond:(bif decide (x.At<0) then some true else bif decide (8≤x.At) then some true else bif (io.not (io.seq x.Key (⟨#[]⟩))) then (Option.bind (ref02_Is_g x.Key) fun v16=>some (io.not v16)) else some false)=some (decide (x.At<0∨8≤x.At∨isS (keyS x)=false)):=by
    rw[io_not,seq_dec,ref02_Is_eq,hkey]
    exact refuse_cond _ _ _
   rw[hcond,Option.bind_some]
   unfold issueS
   by_cases hc:x.At<0∨8≤x.At∨isS (keyS x)=false
   ·rw[decide_eq_true hc,if_pos hc,cond_true,cond_true,cond_false,io_eqi]
    rfl
   ·rw[decide_eq_false hc,if_neg hc,cond_false,cond_true,at_eq hA,Option.bind_some,io_eqi,io_eqi,io_eqi]
    by_cases hat:atS (baseS (shS w)) L x.At≠0
    ·rw[if_pos hat,decide_eq_false (show ¬ atS (baseS (shS w)) L x.At=0 from hat),io_not,io_beq]
     rfl
    ·rw[if_neg hat,decide_eq_true (show atS (baseS (shS w)) L x.At=0 by omega),io_not,io_beq]
     rfl
  ·rw[decide_eq_false hk]
   rfl
theorem set_get {l:List Entry}{i:Nat}{e f:Entry}(h:l[i]?=some e):(l.set i f).set i e=l:=by
 rw[List.set_set]
 apply List.ext_getElem?
 intro j
 by_cases hj:j=i
 ·subst hj
  rw[List.getElem?_set_self (List.getElem?_eq_some_iff.1 h).1,h]
 ·rw[List.getElem?_set_ne (fun h=>hj h.symm)]
theorem which_rem {n:Nat}{v:Int}(h0:0≤v)(h1:v≤255)(hn:0<n)(hn2:n≤16):∃ r:Nat,r<n∧io.rem (io.wrap .i64 v) (n:Int)=r:=by
 obtain⟨k,rfl⟩:∃ k:Nat,v=(k:Int):=⟨v.toNat,by omega⟩
 refine⟨k % n,Nat.mod_lt _ hn,?_⟩
 rw[io_wrap,wr64 (by omega) (by omega),io_rem]
 rfl
theorem ser_w {sh:Int}(h0:0≤sh)(h1:sh<20)(r:Nat)(hr:r≤1000):io.ar .add .i64 (io.ar .add .i64 (io.ar .mul .i64 (io.ar .add .i64 sh 1) 10000) 1) (r:Int)=baseS sh+r:=by
 have e:io.ar .add .i64 ((sh+1) * 10000) 1=(sh+1) * 10000+1:=by rw[io_add,wr64 (by omega) (by omega)]
 rw[ser_base h0 h1,e,io_add,wr64 (by omega) (by omega)]
 unfold baseS
 rfl
theorem moves_eq {w:Int}(h0:0≤w)(h1:w≤255)(l:List Op)(hl:l.length≤maxLen)(hi:∀ y∈l,OpIn y){v:Int}(v0:0≤v)(v1:v≤255)(p:Int):law32_RegistryMoves_g w l v p=some true:=by
 unfold law32_RegistryMoves_g
 rw[head_eq,Option.bind_some,few_eq l hl,Option.bind_some,io_not]
 cases hf:fewS l with
 | false=>rfl
 | true =>
  obtain⟨hlen,hok⟩:=few_ops hf hi
  rw[Bool.not_true,cond_false,Option.bind_some,io_eqi,io_len]
  by_cases hz:l.length=0
  ·rw[decide_eq_true (by omega)];rfl
  ·rw[decide_eq_false (by omega),cond_false]
   obtain⟨a,hp,hL,hA⟩:=played_eq h0 h1 l hlen hok
   obtain⟨r,hr,hrem⟩:=which_rem v0 v1 (n:=l.length) (by omega) hlen
   have s0:=hL.sh0
   have s1:=hL.sh1
   have hdv:divG ((l.length:Nat):Int)=some ():=by unfold divG;rw[if_neg (by omega)]
   have hlw:io.len (W eOp l)=(l.length:Int):=io_len ..
   rw[show divG 20=some () from rfl,Option.bind_some,hp,Option.bind_some,Option.bind_some,hdv,Option.bind_some]
   generalize playS (shS w) 8 (knownS l) l=L at hL hA
   dsimp only
   rw[sh_rem h0 h1,hrem,ser_w s0 s1 r (by omega),title_eq,Option.bind_some,Option.bind_some]
   dsimp only
   rw[bne_zero]
   have hb0:=hL.b0
   unfold titleS
   cases hs:lookS (baseS (shS w)) L (baseS (shS w)+(r:Int)) with
   | none =>
    dsimp only
    rw[decide_eq_false (show ¬ (11:Int)=0 by decide),Bool.not_false,cond_true,Option.bind_some]
    dsimp only
    rw[cond_true,cond_true,same_true hL hA hA l.length (by omega)]
    rfl
   | some e =>
    have hri:L[r]?=some e:=by rw[lookS_at] at hs;exact hs
    have he:=hL.ent r e hri
    dsimp only
    obtain⟨a2,hm,hL2,hA2⟩:=move_eq hL hA (baseS (shS w)+(r:Int)) p
    rw[decide_eq_true rfl,Bool.not_true,cond_false,hm,Option.bind_some,Option.bind_some]
    dsimp only
    rw[bne_zero]
    by_cases hz2:(moveS (shS w) 8 L (baseS (shS w)+(r:Int)) p).1=0
    ·rw[decide_eq_true hz2,Bool.not_true,cond_false]
     have hmv:=hz2
     unfold moveS at hmv
     by_cases hpp:p < -1∨8≤p
     ·rw[if_pos hpp] at hmv
      exact absurd (show (1:Int)=0 from hmv) (by decide)
     ·rw[if_neg hpp] at hmv
      obtain⟨i,e2,hie,hi2,hg,hfe,hset⟩:=chg_yes hmv
      obtain rfl:r=i:=by omega
      rw[hri] at hi2
      cases hi2
      have hg0:=ent_gone he hg
      have hrl:=(List.getElem?_eq_some_iff.1 hri).1
      have hmE:movE (shS w) L (baseS (shS w)+(r:Int)) p e=(0,⟨movT p e.Title,e.gone⟩):=by
       unfold movE at hfe ⊢
       split
       ·rename_i hc
        rw[if_pos hc] at hfe
        exact absurd hfe (by show ¬ (16:Int)=0;decide)
       ·rfl
      have hL':(moveS (shS w) 8 L (baseS (shS w)+(r:Int)) p).2=L.set r ⟨movT p e.Title,e.gone⟩:=by
       unfold moveS
       rw[if_neg hpp,hset,hmE]
      rw[hL'] at hL2 hA2 ⊢
      have hat2:(L.set r ⟨movT p e.Title,e.gone⟩)[r]?=some ⟨movT p e.Title,e.gone⟩:=List.getElem?_set_self hrl
      rw[loop_one (step:=law32_RegistryMoves_l2 l (shS w,8,ttlF (baseS (shS w)) L,a) (ttlF (baseS (shS w)) (L.set r ⟨movT p e.Title,e.gone⟩)) a2 w (shS w,8,ttlF (baseS (shS w)) L,a) v p) l.length (.inl ()) (fun k hk=>by
       have c1:((k+1:Nat):Int)≤(l.length:Int):=by omega
       unfold law32_RegistryMoves_l2
       dsimp only
       rw[hlw,io_le,decide_eq_true c1,cond_true,sh_rem h0 h1,hrem,ser_w s0 s1 r (by omega),ser_k s0 s1 k (by omega),title_eq,title_eq,up_one k (by omega),Option.bind_some,Option.bind_some,Option.bind_some,io_eqi]
       dsimp only
       unfold titleS
       rw[lookS_at,lookS_at]
       by_cases hkr:k=r
       ·subst hkr
        rw[hat2,hri]
        have hsr:(movT p e.Title).Serial=baseS (shS w)+(k:Int):=he.ser
        have hsm:ref30_Same_g (movT p e.Title) (movT p e.Title)=some true:=same_refl _ (valid_formed (hL2.ent k _ hat2).v).small
        dsimp only
        rw[decide_eq_true hsr,Option.bind_some]
        dsimp only
        rw[cond_true,Option.bind_some,io_not,io_eqi,decide_eq_true rfl,Bool.not_true,cond_false]
        show (Option.bind (Option.bind (ref30_Same_g (movT p e.Title) (movT p e.Title)) _) _)=_
        rw[hsm,Option.bind_some,Option.bind_some,io_not]
        rfl
       ·have hk2:(L.set r ⟨movT p e.Title,e.gone⟩)[k]?=L[k]?:=List.getElem?_set_ne (fun h=>hkr h.symm)
        rw[hk2]
        cases hLk:L[k]? with
        | none =>
         have hsr:¬ (0:Int)=baseS (shS w)+(r:Int):=by omega
         have hsm:ref30_Same_g zeroT zeroT=some true:=same_refl _ zero_small
         dsimp only
         show (Option.bind (bif decide ((0:Int)=baseS (shS w)+(r:Int)) then _ else _) _)=_
         rw[decide_eq_false hsr,cond_false,Option.bind_some,io_not,io_eqi,decide_eq_true rfl,Bool.not_true,cond_false]
         show (Option.bind (Option.bind (ref30_Same_g zeroT zeroT) _) _)=_
         rw[hsm,Option.bind_some,Option.bind_some,io_not]
         rfl
        | some f =>
         have hfk:=hL.ent k f hLk
         have hsr:¬ f.Title.Serial=baseS (shS w)+(r:Int):=by rw[hfk.ser];omega
         have hsm:ref30_Same_g f.Title f.Title=some true:=same_refl _ (valid_formed hfk.v).small
         dsimp only
         rw[decide_eq_false hsr,Option.bind_some]
         dsimp only
         rw[cond_false,Option.bind_some,io_not,io_eqi,decide_eq_true rfl,Bool.not_true,cond_false]
         show (Option.bind (Option.bind (ref30_Same_g f.Title f.Title) _) _)=_
         rw[hsm,Option.bind_some,Option.bind_some,io_not]
         rfl) (by
       have c1:¬ ((l.length+1:Nat):Int)≤(l.length:Int):=by omega
       unfold law32_RegistryMoves_l2
       dsimp only
       rw[hlw,io_le,decide_eq_false c1,cond_false]),orR_l,io_le]
      have hat36:(bif decide (0≤p) then some (baseS (shS w)+(r:Int)) else some 0)=some (atS (baseS (shS w)) (L.set r ⟨movT p e.Title,e.gone⟩) p):=by
       by_cases hp0:0≤p
       ·rw[decide_eq_true hp0,cond_true]
        exact congrArg some (atS_of hL2.uniq hb0 hp0 (.inl ⟨r,_,hat2,onP_iff.2 ⟨hg0,rfl⟩,rfl⟩))
       ·rw[decide_eq_false hp0,cond_false,atS_neg _ _ (by omega)]
      rw[hat36,Option.bind_some,cond_true,at_eq hA2,Option.bind_some,io_eqi,decide_eq_true rfl,cond_true]
      obtain⟨a3,hm3,hL3,hA3⟩:=move_eq hL2 hA2 (baseS (shS w)+(r:Int)) e.Title.Place
      have hback:moveS (shS w) 8 (L.set r ⟨movT p e.Title,e.gone⟩) (baseS (shS w)+(r:Int)) e.Title.Place=(0,L):=by
       have q0:=he.p0
       have q1:=he.p1
       unfold moveS chgS
       rw[if_neg (by omega),lookS_at,hat2]
       dsimp only
       rw[if_neg hg]
       have hmE2:movE (shS w) (L.set r ⟨movT p e.Title,e.gone⟩) (baseS (shS w)+(r:Int)) e.Title.Place ⟨movT p e.Title,e.gone⟩=(0,e):=by
        unfold movE
        rw[if_neg]
        ·rfl
        ·rintro ⟨n1,n2⟩
         by_cases hpe:e.Title.Place<0
         ·rw[atS_neg _ _ hpe] at n1
          exact n1 rfl
         ·rcases at_is (baseS (shS w)) (L.set r ⟨movT p e.Title,e.gone⟩) (p:=e.Title.Place) (by omega) with ⟨j,f,hj,hfj,hv⟩ | ⟨hv,_⟩
          ·by_cases hjr:j=r
           ·subst hjr
            exact n2 hv
           ·rw[List.getElem?_set_ne (fun h=>hjr h.symm)] at hj
            exact hjr (hL.uniq j r f e e.Title.Place hj hri (by omega) hfj (onP_iff.2 ⟨hg0,rfl⟩))
          ·exact n1 hv
       rw[hmE2,if_neg (fun h=>h rfl),show (baseS (shS w)+(r:Int) - baseS (shS w)).toNat=r by omega,set_get hri]
      rw[hback] at hm3 hA3
      rw[hm3,Option.bind_some]
      dsimp only
      rw[io_eqi,decide_eq_true rfl,cond_true,same_true hL hA3 hA l.length (by omega)]
      rfl
    ·have hno:(moveS (shS w) 8 L (baseS (shS w)+(r:Int)) p).2=L:=by
      unfold moveS at hz2 ⊢
      split
      ·rfl
      ·rename_i hpp
       rw[if_neg hpp] at hz2
       exact chg_no hz2
     rw[hno] at hA2 ⊢
     rw[decide_eq_false hz2,Bool.not_false,cond_true,cond_true,same_true hL hA2 hA l.length (by omega)]
     rfl
end Go.SX.Rg
set_option linter.unusedVariables false
namespace Go.SX.Rg
open Go Go.SX
theorem uniq_take {l:List Entry}(h:UniqS l)(m:Nat):UniqS (l.take m):=by
 intro i j e f p hi hj hp he hf
 rw[List.getElem?_take] at hi hj
 split at hi
 ·split at hj
  ·exact h i j e f p hi hj hp he hf
  ·cases hj
 ·cases hi
def eightS (b:Int)(l:List Entry)(m:Nat):List Int:=(List.range 8).map fun p=>atS b (l.take m) ((p:Nat):Int)
theorem eight_len (b:Int)(l:List Entry)(m:Nat):(eightS b l m).length=8:=by unfold eightS;rw[List.length_map,List.length_range]
theorem eight_at (b:Int)(l:List Entry)(m:Nat){p:Nat}(h:p<8):(eightS b l m)[p]?=some (atS b (l.take m) (p:Int)):=by
 unfold eightS
 rw[List.getElem?_map,List.getElem?_range h]
 rfl
theorem take_get {l:List Entry}{j i:Nat}{f:Entry}(h:(l.take j)[i]?=some f):i<j∧l[i]?=some f:=by
 rw[List.getElem?_take] at h
 split at h
 ·rename_i hi
  exact⟨hi,h⟩
 ·cases h
theorem get_take {l:List Entry}{j i:Nat}{f:Entry}(hi:i<j)(h:l[i]?=some f):(l.take j)[i]?=some f:=by
 rw[List.getElem?_take,if_pos hi,h]
theorem at_snoc {b:Int}{l:List Entry}(hu:UniqS l)(hb:0<b){j:Nat}{e:Entry}(h:l[j]?=some e){p:Int}(hp:0≤p) :
  atS b (l.take (j+1)) p=if onP p e=true then b+j else atS b (l.take j) p:=by
 symm
 by_cases he:onP p e=true
 ·rw[if_pos he]
  exact atS_of (uniq_take hu _) hb hp (.inl ⟨j,e,get_take (Nat.lt_succ_self j) h,he,rfl⟩)
 ·rw[if_neg he]
  refine atS_of (uniq_take hu _) hb hp ?_
  rcases at_is b (l.take j) hp with ⟨i,f,h1,h2,h3⟩ | ⟨h1,h2⟩
  ·obtain⟨hi,hf⟩:=take_get h1
   exact .inl ⟨i,f,get_take (by omega) hf,h2,h3⟩
  ·refine .inr ⟨h1,fun i f hf=>?_⟩
   obtain⟨hi,hf1⟩:=take_get hf
   by_cases hij:i=j
   ·subst hij
    rw[h] at hf1
    cases hf1
    cases hc:onP p e with
    | false=>rfl
    | true=>exact absurd hc he
   ·exact h2 i f (get_take (by omega) hf1)
theorem at_before {b:Int}{l:List Entry}(hu:UniqS l)(hb:0<b){j:Nat}{e:Entry}(h:l[j]?=some e){p:Int}(hp:0≤p)(he:onP p e=true):atS b (l.take j) p=0:=by
 symm
 refine atS_of (uniq_take hu _) hb hp (.inr ⟨rfl,fun i f hf=>?_⟩)
 obtain⟨hi,hf⟩:=take_get hf
 cases hc:onP p f with
 | false=>rfl
 | true =>
  have:=hu i j f e p hf h hp hc he
  omega
theorem eight_set {b:Int}{l:List Entry}(hu:UniqS l)(hb:0<b){j:Nat}{e:Entry}(h:l[j]?=some e){p:Nat}(hp:p<8)(he:onP (p:Int) e=true):(eightS b l j).set p (b+j)=eightS b l (j+1):=by
 apply List.ext_getElem?
 intro q
 by_cases hq:q<8
 ·by_cases hqp:q=p
  ·subst hqp
   rw[List.getElem?_set_self (by rw[eight_len];exact hq),eight_at b l _ hq,at_snoc hu hb h (by omega),if_pos he]
  ·rw[List.getElem?_set_ne (fun h=>hqp h.symm),eight_at b l _ hq,eight_at b l _ hq,at_snoc hu hb h (by omega),if_neg]
   intro hc
   have h1:=(onP_iff.1 he).2
   have h2:=(onP_iff.1 hc).2
   omega
 ·rw[List.getElem?_eq_none (by rw[List.length_set,eight_len];omega),List.getElem?_eq_none (by rw[eight_len];omega)]
theorem eight_same {b:Int}{l:List Entry}(hu:UniqS l)(hb:0<b){j:Nat}{e:Entry}(h:l[j]?=some e)(he:∀ p:Nat,onP (p:Int) e=false):eightS b l j=eightS b l (j+1):=by
 unfold eightS
 refine List.map_congr_left fun p hp=>?_
 rw[at_snoc hu hb h (by omega),if_neg]
 rw[he p]
 decide
theorem eight_over {b:Int}{l:List Entry}{j:Nat}(h:l.length≤j):eightS b l j=eightS b l (j+1):=by
 unfold eightS
 rw[List.take_of_length_le h,List.take_of_length_le (by omega)]
theorem ones_eq {w:Int}(h0:0≤w)(h1:w≤255)(l:List Op)(hl:l.length≤maxLen)(hi:∀ y∈l,OpIn y):law32_RegistryOnes_g w l=some true:=by
 unfold law32_RegistryOnes_g
 rw[head_eq,Option.bind_some,few_eq l hl,Option.bind_some,io_not]
 cases hf:fewS l with
 | false=>rfl
 | true =>
  obtain⟨hlen,hok⟩:=few_ops hf hi
  obtain⟨a,hp,hL,hA⟩:=played_eq h0 h1 l hlen hok
  have s0:=hL.sh0
  have s1:=hL.sh1
  have hb0:=hL.b0
  have hpl:=play_len (shS w) 8 (knownS l) l l.length (Nat.le_refl _)
  rw[List.take_length] at hpl
  have hlw:io.len (W eOp l)=(l.length:Int):=io_len ..
  rw[Bool.not_true,cond_false,show divG 20=some () from rfl,Option.bind_some,hp,Option.bind_some]
  generalize playS (shS w) 8 (knownS l) l=L at hL hA hpl
  have hmk:mksG 8 (0:Int)=some (eightS (baseS (shS w)) L 0):=by
   unfold mksG eightS
   rw[if_pos (by decide),List.take_zero]
   rfl
  rw[hmk,Option.bind_some]
  obtain⟨t,ht,rfl⟩:=loop_up (step:=law32_RegistryOnes_l2 l (shS w,8,ttlF (baseS (shS w)) L,a) w) (fun (s:List Int×Bool) i=>(s.1,s.2,i+1)) (l.length+1)
   (fun m s=>s=(eightS (baseS (shS w)) L m,decide (L.length<m))) (fun t=>t=.inl (eightS (baseS (shS w)) L (l.length+1),decide (L.length<l.length+1)))
   (fun j s hj hI=>by
    subst hI
    refine .inl ⟨(eightS (baseS (shS w)) L (j+1),decide (L.length<j+1)),?_,rfl⟩
    have hc:((j+1:Nat):Int)≤((l.length+1:Nat):Int):=by omega
    have hup:io.ar .add .i64 (l.length:Int) 1=((l.length+1:Nat):Int):=by rw[io_add,wr_up (k:=l.length) (by omega)]
    dsimp only
    rw[show (j:Int)+1=((j+1:Nat):Int) by omega]
    unfold law32_RegistryOnes_l2
    dsimp only
    rw[hlw,hup,io_le,decide_eq_true hc,cond_true,sh_rem h0 h1,ser_k s0 s1 j (by omega),title_eq,up_one j (by omega),Option.bind_some,Option.bind_some]
    dsimp only
    unfold titleS
    rw[lookS_at,bne_zero]
    rw[show ((j+2:Nat):Int)=((j+1:Nat):Int)+1 by omega]
    cases hLj:L[j]? with
    | none =>
     have hge:L.length≤j:=List.getElem?_eq_none_iff.1 hLj
     dsimp only
     rw[decide_eq_false (show ¬ (11:Int)=0 by decide),Bool.not_false,cond_true,orR_l,← eight_over hge,decide_eq_true (show L.length<j+1 by omega)]
    | some e =>
     have he:=hL.ent j e hLj
     have hjl:=(List.getElem?_eq_some_iff.1 hLj).1
     have q0:=he.p0
     have q1:=he.p1
     have q2:=he.g
     dsimp only
     rw[decide_eq_true rfl,Bool.not_true,cond_false,decide_eq_false (show ¬ L.length<j by omega),cond_false,io_not,io_eqi,decide_eq_true he.ser,Bool.not_true,cond_false,io_not,io_eqi,decide_eq_true he.sh,Bool.not_true,cond_false,
      io_lt,decide_eq_false (show ¬ e.Title.Place < -1 by omega),cond_false,io_le,decide_eq_false (show ¬ 8≤e.Title.Place by omega),cond_false,io_lt,decide_eq_false (show ¬ e.gone<0 by omega),Option.bind_some,cond_false,io_eqi,io_le,
      decide_eq_false (show ¬ L.length<j+1 by omega)]
     by_cases hg:e.gone=0
     ·rw[decide_eq_true hg,cond_true,Option.bind_some]
      by_cases hpl0:0≤e.Title.Place
      ·obtain⟨p,hpp⟩:∃ p:Nat,e.Title.Place=(p:Int):=⟨e.Title.Place.toNat,by omega⟩
       have hp8:p<8:=by omega
       have hon:onP (p:Int) e=true:=onP_iff.2 ⟨hg,hpp⟩
       rw[decide_eq_true hpl0,cond_true,hpp,rixG_some (by rw[eight_len];exact hp8),Option.bind_some,eight_at _ _ _ hp8,Option.bind_some,at_before hL.uniq hb0 hLj (by omega) hon,io_not,io_eqi,decide_eq_true rfl,Bool.not_true,cond_false,Option.bind_some,
        updG_set (by rw[eight_len];exact hp8),Option.bind_some,orR_l,he.ser,eight_set hL.uniq hb0 hLj hp8 hon]
      ·rw[decide_eq_false hpl0,cond_false,orR_l,eight_same hL.uniq hb0 hLj (fun p=>by
        unfold onP
        rw[decide_eq_false (show ¬ e.Title.Place=(p:Int) by omega),Bool.and_false])]
     ·rw[decide_eq_false hg,cond_false,Option.bind_some,cond_false,orR_l,eight_same hL.uniq hb0 hLj (fun p=>by
       unfold onP
       rw[decide_eq_false hg,Bool.false_and])])
   (fun s hI=>by
    subst hI
    refine⟨_,?_,rfl⟩
    have hc:¬ ((l.length+2:Nat):Int)≤((l.length+1:Nat):Int):=by omega
    have hup:io.ar .add .i64 (l.length:Int) 1=((l.length+1:Nat):Int):=by rw[io_add,wr_up (k:=l.length) (by omega)]
    dsimp only
    rw[show ((l.length+1:Nat):Int)+1=((l.length+2:Nat):Int) by omega]
    unfold law32_RegistryOnes_l2
    dsimp only
    rw[hlw,hup,io_le,decide_eq_false hc,cond_false])
   (eightS (baseS (shS w)) L 0,false) (by rw[decide_eq_false (Nat.not_lt_zero _)])
  have ht:whileG (law32_RegistryOnes_l2 l (shS w,8,ttlF (baseS (shS w)) L,a) w) (eightS (baseS (shS w)) L 0,false,1)=_:=ht
  rw[ht,orR_l]
  dsimp only
  have h8:∀ p:Nat,p<8→(eightS (baseS (shS w)) L (l.length+1))[p]?=some (atS (baseS (shS w)) L (p:Int)):=fun p hp=>by
   rw[eight_at _ _ _ hp,List.take_of_length_le (by omega)]
  have h8l:=eight_len (baseS (shS w)) L (l.length+1)
  generalize eightS (baseS (shS w)) L (l.length+1)=at8 at h8 h8l
  rw[loop_nat (step:=law32_RegistryOnes_l4 (shS w,8,ttlF (baseS (shS w)) L,a) at8) 8 (.inl ()) (fun p hp=>by
   have hc:(p:Int)<8:=by omega
   unfold law32_RegistryOnes_l4
   dsimp only
   rw[io_lt,decide_eq_true hc,cond_true,at_eq hA,Option.bind_some,rixG_some (by rw[h8l];exact hp),Option.bind_some,h8 p hp,Option.bind_some,Option.bind_some,io_not,io_eqi,decide_eq_true rfl,io_add,wr_up (k:=p) (by omega)]
   rfl) (by
   have hc:¬ ((8:Nat):Int)<8:=by omega
   unfold law32_RegistryOnes_l4
   dsimp only
   rw[io_lt,decide_eq_false hc,cond_false]),orR_l,cond_true,decide_eq_true (show L.length<l.length+1 by omega),cond_true,at_eq hA,Option.bind_some,atS_neg _ _ (by decide),io_eqi,decide_eq_true rfl,cond_true,at_eq hA,Option.bind_some,io_eqi]
  have h9:atS (baseS (shS w)) L 8=0:=by
   rcases at_is (baseS (shS w)) L (p:=8) (by decide) with ⟨i,f,hf,hon,_⟩ | ⟨hv,_⟩
   ·have q1:=(hL.ent i f hf).p1
    have q2:=(onP_iff.1 hon).2
    omega
   ·exact hv
  rw[h9]
  rfl
end Go.SX.Rg
