/- Parts of the proof. -/
import Derived.Test.YtlpempbeenpilaaGreatDoorZRgQ2
import Derived.Test.YtlpempbeenpilaaGreatDoorZRg17d
import Derived.Test.YtlpempbeenpilaaGreatDoorZRg30d
import Derived.Test.YtlpempbeenpilaaGreatDoorZRg65
import Derived.Test.YtlpempbeenpilaaGreatDoorZRg46d
import Derived.Test.YtlpempbeenpilaaGreatDoorZRgH8
import Derived.Lib.ItoaLen
import Derived.Test.YtlpempbeenpilaaGreatDoorZRg33d
set_option linter.unusedSimpArgs false
set_option linter.unusedVariables false
set_option linter.unusedSectionVars false
set_option linter.unusedVariables false
namespace Go.SX.Rg
open Go Go.SX
def refT (l:List Entry):List Title:=l.map (·.Title)
def refG (l:List Entry):List Int:=l.map (·.gone)
theorem refT_len (l:List Entry):(refT l).length=l.length:=qO ..
theorem refG_len (l:List Entry):(refG l).length=l.length:=qO ..
theorem refT_at {l:List Entry}{i:Nat}{e:Entry}(h:l[i]?=some e):(refT l)[i]?=some e.Title:=by unfold refT;rw[qI,h];rfl
theorem refG_at {l:List Entry}{i:Nat}{e:Entry}(h:l[i]?=some e):(refG l)[i]?=some e.gone:=by unfold refG;rw[qI,h];rfl
theorem rat_eq {sh pl:Int}{l:List Entry}(h:InvL sh pl l)(p:Int):ref32_Registry_At_b sh pl (refT l) (refG l) p=some (atS (baseS sh) l p):=by
 have hlen:=h.len;unfold ref32_Registry_At_b;rw[qA,io_lt];by_cases hp:p<0
 ·rw[qD hp,cond_true,atS_neg _ _ hp]
 ·rw[qE hp,cond_false];rcases loop_find (step:=ref32_Registry_At_l2 (refT l) (refG l) p) l (onP p) (fun k e=>.inr e.Title.Serial) (.inl ()) (fun k e he=>by
   have hk:=(qC.1 he).1;have h1:(k:Int)<(l.length:Int):=by omega
   unfold ref32_Registry_At_l2;dsimp only;rw[io_lt,io_len,refT_len,qD h1,cond_true,idxG_some (refG_at he),idxG_some (refT_at he)];simp only[qA,io_eqi,io_add,wr_up (k:=k) (by omega)];unfold onP;cases decide (e.gone=0)
   ·rfl
   ·cases decide (e.Title.Place=p)<;>rfl) (by
   have h1:¬ (l.length:Int)<(l.length:Int):=by omega
   unfold ref32_Registry_At_l2;dsimp only;rw[io_lt,io_len,refT_len,qE h1,cond_false]) with ⟨k,e,he,hpe,_,hw⟩ | ⟨hno,hw⟩
  ·rw[hw,orR_r];have:=(h.ent k e he).ser;rw[this];exact congrArg some (atS_of h.uniq h.b0 (by omega) (.inl ⟨k,e,he,hpe,rfl⟩))
  ·rw[hw,orR_l];exact congrArg some (atS_of h.uniq h.b0 (by omega) (.inr ⟨rfl,fun i e he=>hno e (qU he)⟩))
theorem ser_ix {sh:Int}(h0:0≤sh)(h1:sh<20){s:Int}(s0:0≤s)(s1:s≤9223372036854775807):io.ar .sub .i64 (io.ar .sub .i64 s (io.ar .mul .i64 (io.ar .add .i64 sh 1) 10000)) 1=s - baseS sh:=by
 have e1:io.ar .sub .i64 s ((sh+1) * 10000)=s - (sh+1) * 10000:=by rw[io_subi,wr64 (by omega) (by omega)]
 rw[ser_base h0 h1,e1,io_subi,wr64 (by omega) (by omega)];unfold baseS;omega
theorem fcond {sh pl:Int}{l:List Entry}(h:InvL sh pl l){s:Int}(s1:s≤9223372036854775807) :
  (bif (io.lt s 0) then some true else bif (io.lt (io.ar .sub .i64 (io.ar .sub .i64 s (io.ar .mul .i64 (io.ar .add .i64 sh 1) 10000)) 1) 0) then some true else some (io.le (io.len (W eTitle (refT l))) (io.ar .sub .i64 (io.ar .sub .i64 s (io.ar .mul .i64 (io.ar .add .i64 sh 1) 10000)) 1)))=some (lookS (baseS sh) l s).isNone:=by
 have hb:=h.b0;rw[io_lt,io_lt,io_le,io_len,refT_len];unfold lookS;by_cases h0:s<0
 ·rw[qD h0,if_neg (by omega)];rfl
 ·rw[qE h0,ser_ix h.sh0 h.sh1 (by omega) s1,cond_false];by_cases h1:s - baseS sh<0
  ·rw[qD h1,if_neg (by omega)];rfl
  ·rw[qE h1,if_pos (by omega),cond_false];by_cases h2:(l.length:Int)≤s - baseS sh
   ·rw[qD h2,qX (by omega)];rfl
   ·rw[qE h2,qK (by omega)];rfl
theorem look_pos {sh pl:Int}{l:List Entry}(h:InvL sh pl l){s:Int}{e:Entry}(hs:lookS (baseS sh) l s=some e):∃ i:Nat,s=baseS sh+i∧l[i]?=some e∧0≤s∧s≤9223372036854775807:=by
 obtain⟨i,rfl,hi⟩:=lookS_some hs;have:=(qC.1 hi).1;have:=h.len;have:=h.b0;have:=h.b1;exact⟨i,rfl,hi,by omega,by omega⟩
def findS (b:Int)(l:List Entry)(s:Int):Int×Int:=match lookS b l s with | none=>(-1,11) | some e=>(s - b,if 0<e.gone then 27 else 0)
theorem rfind_eq {sh pl:Int}{l:List Entry}(h:InvL sh pl l){s:Int}(s1:s≤9223372036854775807):ref32_Registry_find_b sh pl (refT l) (refG l) s=some (findS (baseS sh) l s):=by
 unfold ref32_Registry_find_b findS;rw[fcond h s1,qA]
 cases hs:lookS (baseS sh) l s with
 | none=>rfl
 | some e =>
  obtain⟨i,rfl,hi,h0,_⟩:=look_pos h hs;have hix:baseS sh+(i:Int) - baseS sh=i:=by omega
  rw[Option.isNone_some,cond_false,ser_ix h.sh0 h.sh1 h0 s1,hix,idxG_some (refG_at hi),qA,io_lt];dsimp only;by_cases hg:0<e.gone
  ·rw[qD hg,if_pos hg];rfl
  ·rw[qE hg,if_neg hg];rfl
theorem rtitle_eq {sh pl:Int}{l:List Entry}(h:InvL sh pl l){s:Int}(s1:s≤9223372036854775807):ref32_Registry_Title_b sh pl (refT l) (refG l) s=some (titleS (baseS sh) l s):=by
 unfold ref32_Registry_Title_b titleS;rw[fcond h s1,qA]
 cases hs:lookS (baseS sh) l s with
 | none =>
  show Option.bind (some ((-1:Int),(11:Int))) _=_;rw[qA];show (bif io.eq 11 11 then _ else _)=_;rw[io_eqi];rfl
 | some e =>
  obtain⟨i,rfl,hi,h0,_⟩:=look_pos h hs;have hix:baseS sh+(i:Int) - baseS sh=i:=by omega
  rw[Option.isNone_some,cond_false,ser_ix h.sh0 h.sh1 h0 s1,hix,idxG_some (refG_at hi),qA,io_lt];by_cases hg:0<e.gone
  ·rw[qD hg,cond_true,qA];show (bif io.eq 27 11 then _ else _)=_;rw[io_eqi,qE (by decide),cond_false,idxG_some (refT_at hi),qA,idxG_some (refG_at hi),qA]
  ·rw[qE hg,cond_false,qA];show (bif io.eq 0 11 then _ else _)=_;rw[io_eqi,qE (by decide),cond_false,idxG_some (refT_at hi),qA,idxG_some (refG_at hi),qA]
theorem updG_set {α:Type}{xs:List α}{i:Nat}{z:α}(h:i<xs.length):(updG xs i fun _=>z)=some (xs.set i z):=by
 unfold updG;rw[qK h]
theorem rixG_some {α:Type}{xs:List α}{i:Nat}(h:i<xs.length):rixG xs (i:Int)=some i:=by
 unfold rixG;rw[if_pos ⟨by omega,by omega⟩];simp
theorem rput_eq (sh pl:Int){l:List Entry}(hl:l.length≤1000){i:Nat}(hi:i<l.length)(t:Title)(g:Int):ref32_Registry_put_b sh pl (refT l) (refG l) (i:Int) t g=some (refT (l.set i ⟨t,g⟩),refG (l.set i ⟨t,g⟩)):=by
 unfold ref32_Registry_put_b;rw[qA,appG_some (by rw[refT_len];simp only[List.length_nil];omega),qA,List.nil_append,rixG_some (by rw[refT_len];exact hi),qA,
  updG_set (by rw[refT_len];exact hi),qA,qA,appG_some (by rw[refG_len];simp only[List.length_nil];omega),qA,List.nil_append,
  rixG_some (by rw[refG_len];exact hi),qA,updG_set (by rw[refG_len];exact hi),qA]
 unfold refT refG;rw[List.map_set,List.map_set]
theorem rissue_eq {sh pl:Int}{l:List Entry}(h:InvL sh pl l)(p:Int)(k:ByteArray) :
  ref32_Registry_Issue_b sh pl (refT l) (refG l) p k=some ((issueS sh pl l p k).1,(issueS sh pl l p k).2.1,refT (issueS sh pl l p k).2.2,refG (issueS sh pl l p k).2.2):=by
 have hlen:=h.len;unfold ref32_Registry_Issue_b issueS;rw[io_lt,io_le,ref02_Is_eq];by_cases h1:p<0
 ·rw[if_pos (.inl h1),qD h1];rfl
 ·rw[qE h1,cond_false];by_cases h2:pl≤p
  ·rw[if_pos (.inr (.inl h2)),qD h2];rfl
  ·rw[qE h2,cond_false,qA,io_not]
   cases hk:isS k with
   | false=>rw[if_pos (.inr (.inr rfl))];rfl
   | true =>
    have hc:¬ (p<0∨pl≤p∨true=false):=by
     rintro (h | h | h)
     ·exact h1 h
     ·exact h2 h
     ·cases h
    have h4:¬ (4000:Int)≤(l.length:Int):=by omega
    rw[if_neg hc,Bool.not_true,qA,cond_false,io_le,io_len,refT_len,qE h4,cond_false,rat_eq h,qA,io_not,io_eqi,qA];by_cases hat:atS (baseS sh) l p=0
    ·rw[qD hat,if_neg (fun h=>h hat),Bool.not_true,cond_false];rw[qA,appG_some (by rw[refT_len];simp only[List.length_nil];omega),qA,qA,List.nil_append,appG_some (by rw[refT_len,zA];omega),qA,
      qA,appG_some (by rw[refG_len];simp only[List.length_nil];omega),qA,qA,List.nil_append,appG_some (by rw[refG_len,zA];omega),qA,ser_new h.sh0 h.sh1 _ (by omega)]
     unfold refT refG;rw[List.map_append,List.map_append];rfl
    ·rw[qE hat,if_pos hat];rfl
theorem rrevoke_eq {sh pl:Int}{l:List Entry}(h:InvL sh pl l){s:Int}(s1:s≤9223372036854775807)(now:Int) :
  ref32_Registry_Revoke_b sh pl (refT l) (refG l) s now=some ((revokeS sh l s now).1,refT (revokeS sh l s now).2,refG (revokeS sh l s now).2):=by
 unfold ref32_Registry_Revoke_b revokeS;rw[io_lt,io_lt,rfind_eq h s1];by_cases h1:now<1
 ·rw[if_pos (.inl h1),qD h1];rfl
 ·rw[qE h1,cond_false,qA];by_cases h2:1000000000<now
  ·rw[if_pos (.inr h2),qD h2];rfl
  ·rw[if_neg (by omega),qE h2,cond_false,qA,qA];unfold chgS findS
   cases hs:lookS (baseS sh) l s with
   | none =>
    show Option.bind (bif io.eq 11 0 then _ else _) _=_;rw[io_eqi];rfl
   | some e =>
    obtain⟨i,rfl,hi,h0,_⟩:=look_pos h hs;have hil:=(qC.1 hi).1;have hix:baseS sh+(i:Int) - baseS sh=i:=by omega
    dsimp only;by_cases hg:0<e.gone
    ·rw[if_pos hg,if_pos hg,io_eqi];rfl
    ·rw[if_neg hg,if_neg hg,if_neg (fun h=>h rfl),io_eqi,qD rfl,cond_true,hix,idxG_some (refT_at hi),qA,rput_eq sh pl h.len hil,qA,qA,Int.toNat_natCast];rfl
theorem rmove_eq {sh pl:Int}{l:List Entry}(h:InvL sh pl l){s:Int}(s1:s≤9223372036854775807)(p:Int) :
  ref32_Registry_Move_b sh pl (refT l) (refG l) s p=some ((moveS sh pl l s p).1,refT (moveS sh pl l s p).2,refG (moveS sh pl l s p).2):=by
 unfold ref32_Registry_Move_b moveS;rw[io_lt,io_le,rfind_eq h s1];by_cases h1:p < -1
 ·rw[if_pos (.inl h1),qD h1];rfl
 ·rw[qE h1,cond_false,qA];by_cases h2:pl≤p
  ·rw[if_pos (.inr h2),qD h2];rfl
  ·rw[if_neg (by omega),qE h2,cond_false,qA,qA];unfold chgS findS
   cases hs:lookS (baseS sh) l s with
   | none =>
    show (bif io.not (io.eq 11 0) then _ else _)=_;rw[io_not,io_eqi];rfl
   | some e =>
    obtain⟨i,rfl,hi,h0,_⟩:=look_pos h hs;have hil:=(qC.1 hi).1;have hix:baseS sh+(i:Int) - baseS sh=i:=by omega
    have he:=h.ent i e hi;dsimp only;by_cases hg:0<e.gone
    ·rw[if_pos hg,if_pos hg,io_not,io_eqi];rfl
    ·have hg0:=ent_gone he hg;rw[if_neg hg,if_neg hg,io_not,io_eqi,qD rfl,Bool.not_true,cond_false,rat_eq h,qA,qA,io_not,io_eqi,io_not,io_eqi,hix,idxG_some (refT_at hi)];unfold movE;by_cases h3:atS (baseS sh) l p=0
     ·have hc:¬ (atS (baseS sh) l p≠0∧atS (baseS sh) l p≠baseS sh+i):=fun h=>h.1 h3
      rw[if_neg hc,if_neg (fun h=>h rfl),qD h3,Bool.not_true,cond_false,qA,cond_false,qA,rput_eq sh pl h.len hil,qA,Int.toNat_natCast,hg0];rfl
     ·by_cases h4:atS (baseS sh) l p=baseS sh+i
      ·have hc:¬ (atS (baseS sh) l p≠0∧atS (baseS sh) l p≠baseS sh+i):=fun h=>h.2 h4
       rw[if_neg hc,if_neg (fun h=>h rfl),qE h3,qD h4,Bool.not_true,Bool.not_false,cond_true,qA,cond_false,qA,rput_eq sh pl h.len hil,qA,Int.toNat_natCast,hg0];rfl
      ·rw[if_pos (show atS (baseS sh) l p≠0∧atS (baseS sh) l p≠baseS sh+i from⟨h3,h4⟩),if_pos (c:=((16,e):Int×Entry).1≠0) (show (16:Int)≠0 by decide),qE h3,qE h4];rfl
theorem rpass_eq {sh pl:Int}{l:List Entry}(h:InvL sh pl l){s:Int}(s1:s≤9223372036854775807)(x:Transfer) :
  ref32_Registry_Pass_b sh pl (refT l) (refG l) s x=some ((passS sh l s x).1,refT (passS sh l s x).2,refG (passS sh l s x).2):=by
 unfold ref32_Registry_Pass_b passS chgS;rw[rfind_eq h s1,qA,qA];unfold findS
 cases hs:lookS (baseS sh) l s with
 | none =>
  show (bif io.not (io.eq 11 0) then _ else _)=_;rw[io_not,io_eqi];rfl
 | some e =>
  obtain⟨i,rfl,hi,h0,_⟩:=look_pos h hs;have hil:=(qC.1 hi).1;have hix:baseS sh+(i:Int) - baseS sh=i:=by omega
  have he:=h.ent i e hi;have hn:=(valid_formed he.v).n;dsimp only;by_cases hg:0<e.gone
  ·rw[if_pos hg,if_pos hg,io_not,io_eqi];rfl
  ·have hg0:=ent_gone he hg;rw[if_neg hg,if_neg hg,io_not,io_eqi,qD rfl,Bool.not_true,cond_false,hix,idxG_some (refT_at hi),qA,io_le,io_len];unfold pasE;by_cases h50:50≤e.Title.Chain.length
   ·have h50':(50:Int)≤(e.Title.Chain.length:Int):=by omega
    rw[qD h50',if_pos h50,if_pos (c:=((3,e):Int×Entry).1≠0) (show (3:Int)≠0 by decide)];rfl
   ·have h50':¬ (50:Int)≤(e.Title.Chain.length:Int):=by omega
    have hser:=he.ser;have hb0:=h.b0;have hb1:=h.b1;have hlen:=h.len;have hval:ref30_Valid_g (pasT x e.Title)=some (validS (pasT x e.Title)):=rvalid_eq _ (by show 0≤e.Title.Serial;omega) (by show e.Title.Serial≤_;omega);have hpT:(⟨e.Title.Serial,e.Title.Show,e.Title.Place,e.Title.First,e.Title.Chain++[x]⟩:Title)=pasT x e.Title:=rfl;rw[qE h50',if_neg h50,cond_false,qA,appG_some (by simp only[List.length_nil];omega),qA,qA,List.nil_append,appG_some (by rw[zA];omega),qA,hpT,hval,qA,io_not]
    cases hv:validS (pasT x e.Title) with
    | false =>
     rw[if_neg (show ¬ (false=true) by decide),if_pos (c:=((20,e):Int×Entry).1≠0) (show (20:Int)≠0 by decide)];rfl
    | true =>
     rw[if_pos (show true=true from rfl),if_neg (fun h=>h rfl),Bool.not_true,cond_false,rput_eq sh pl h.len hil,qA,Int.toNat_natCast,hg0]
def revS (l:List Entry):List Int:=(l.filter fun e=>decide (0<e.gone)).map (·.Title.Serial)
theorem fold_rev (f:Entry→Int):∀ (l:List Entry)(s:List Int),l.foldl (fun s e=>if 0<e.gone then s++[f e] else s) s=s++(l.filter fun e=>decide (0<e.gone)).map f
 | [],s=>by simp
 | e::l,s=>by
  rw[List.foldl_cons,fold_rev f l,List.filter_cons];by_cases h:0<e.gone
  ·rw[if_pos h,qD h,if_pos rfl,qR,List.append_assoc];rfl
  ·rw[if_neg h,qE h,if_neg (by decide)]
theorem rev_len (f:Entry→Int)(l:List Entry)(k:Nat):(((l.take k).filter fun e=>decide (0<e.gone)).map f).length≤l.length:=by
 rw[qO];have h1:=List.length_filter_le (fun e:Entry=>decide (0<e.gone)) (l.take k);have h2:=List.length_take_le k l;have h3:(l.take k).length≤l.length:=by rw[qW];omega
 omega
theorem rrevoked_eq {sh pl:Int}{l:List Entry}(h:InvL sh pl l):ref32_Registry_Revoked_b sh pl (refT l) (refG l)=some (revS l):=by
 have hlen:=h.len;unfold ref32_Registry_Revoked_b;rw[loop_fold (step:=ref32_Registry_Revoked_l2 (refT l) (refG l)) (fun s i=>(s,i)) l (fun s e=>if 0<e.gone then s++[e.Title.Serial] else s) [] (revS l) (fun k e he=>by
  have hk:=(qC.1 he).1;have h1:(k:Int)<(l.length:Int):=by omega
  rw[fold_rev fun e=>e.Title.Serial];have hle:=rev_len (fun e=>e.Title.Serial) l k;generalize ((l.take k).filter fun e=>decide (0<e.gone)).map (fun e:Entry=>e.Title.Serial)=z at hle;rw[List.nil_append];unfold ref32_Registry_Revoked_l2;dsimp only;rw[io_lt,io_len,refT_len,qD h1,cond_true,idxG_some (refG_at he),idxG_some (refT_at he),qA,io_lt,io_add,wr_up (k:=k) (by omega)];by_cases hg:0<e.gone
  ·rw[qD hg,if_pos hg,cond_true,qA,qA,appG_some (by rw[zA];omega)];rfl
  ·rw[qE hg,if_neg hg];rfl) (by
  have h1:¬ (l.length:Int)<(l.length:Int):=by omega
  rw[fold_rev fun e=>e.Title.Serial,List.nil_append];unfold ref32_Registry_Revoked_l2;dsimp only;rw[io_lt,io_len,refT_len,qE h1,cond_false];rfl)]
 rfl
theorem ttlF_keys : ∀ (l:List Entry)(b:Int),(ttlF b l).map (·.1)=(List.range l.length).map fun i=>b+((i:Nat):Int)
 | [],_=>rfl
 | e::l,b=>by
  unfold ttlF;rw[qR,ttlF_keys l,qV,List.range_succ_eq_map,qR,List.map_map];congr 1
  ·simp
  ·refine List.map_congr_left fun i _=>?_
   show b+1+(i:Int)=b+((i+1:Nat):Int);omega
theorem keys_sorted (b:Int)(n:Nat):sortI ((List.range n).map fun i=>b+((i:Nat):Int))=(List.range n).map fun i=>b+((i:Nat):Int):=by
 unfold sortI;refine List.mergeSort_of_pairwise ?_;rw[List.pairwise_map];refine List.Pairwise.imp ?_ List.pairwise_lt_range;intro i j hij;exact qD (by omega)
theorem revoked_eq {sh pl:Int}{l:List Entry}(h:InvL sh pl l)(a:List (Int×Int)):registry_Registry_Revoked_b sh pl (ttlF (baseS sh) l) a=some (revS l):=by
 have hlen:=h.len;have hb0:=h.b0;have hb1:=h.b1;have hk:sortedKeys_g (ttlF (baseS sh) l)=some ((List.range l.length).map fun i=>baseS sh+((i:Nat):Int)):=by
  have hok:keysOk (ttlF (baseS sh) l)=true:=by
   unfold keysOk;rw[qJ,ttlF_len];refine⟨qD (by omega),?_⟩;rw[qL];intro x hx;have:x.1∈(ttlF (baseS sh) l).map (·.1):=List.mem_map_of_mem hx;rw[ttlF_keys] at this;obtain⟨i,hi,he⟩:=List.mem_map.1 this;have hi:=List.mem_range.1 hi;rw[← he,qJ];exact⟨qD (by omega),qD (by omega)⟩
  unfold sortedKeys_g;rw[hok,cond_true,sortZ_eq,ttlF_keys,keys_sorted]
 unfold registry_Registry_Revoked_b;rw[hk,qA];have hkey:∀ k:Nat,k<l.length→((List.range l.length).map fun i=>baseS sh+((i:Nat):Int))[k]?=some (baseS sh+(k:Int)):=fun k hk=>by
  rw[qI,List.getElem?_range hk];rfl
 have hkl:((List.range l.length).map fun i=>baseS sh+((i:Nat):Int)).length=l.length:=by rw[qO,List.length_range]
 generalize ((List.range l.length).map fun i=>baseS sh+((i:Nat):Int))=keys at hkey hkl;rw[loop_fold (step:=registry_Registry_Revoked_l2 keys (ttlF (baseS sh) l)) (fun s i=>(s,i)) l (fun s e=>if 0<e.gone then s++[e.Title.Serial] else s) [] (revS l) (fun k e he=>by
  have hk:=(qC.1 he).1;have h1:(k:Int)<(l.length:Int):=by omega
  have hser:=(h.ent k e he).ser;rw[fold_rev fun e=>e.Title.Serial];have hle:=rev_len (fun e=>e.Title.Serial) l k;generalize ((l.take k).filter fun e=>decide (0<e.gone)).map (fun e:Entry=>e.Title.Serial)=z at hle;rw[List.nil_append];unfold registry_Registry_Revoked_l2;dsimp only;rw[io_lt,io_len,hkl,qD h1,cond_true,rixG_some (by rw[hkl];exact hk),qA,hkey k hk,qA,look_eq,lookS_at,he,io_add,wr_up (k:=k) (by omega)];show Option.bind (bif io.lt 0 e.gone then _ else _) _=_;rw[io_lt];by_cases hg:0<e.gone
  ·rw[qD hg,if_pos hg,cond_true,qA,appG_some (by rw[zA];omega),hser];rfl
  ·rw[qE hg,if_neg hg];rfl) (by
  have h1:¬ (l.length:Int)<(l.length:Int):=by omega
  rw[fold_rev fun e=>e.Title.Serial,List.nil_append];unfold registry_Registry_Revoked_l2;dsimp only;rw[io_lt,io_len,hkl,qE h1,cond_false];rfl)]
 rfl
end Go.SX.Rg
set_option linter.unusedVariables false
namespace Go.SX.Rg
open Go Go.SX
def secS (s:ByteArray):ByteArray:=(⟨#[115,101,99,114,101,116,32]⟩:ByteArray)++s
def firT (p:Int):ByteArray:=(⟨#[102,105,114,115,116,32]⟩:ByteArray)++numI p
def firS (p:Int):ByteArray:=publicS (secS (firT p))
theorem app_size (a b:ByteArray):(a++b).size=a.size+b.size:=ByteArray.size_append
theorem secS_size (s:ByteArray):(secS s).size=7+s.size:=app_size _ _
theorem firT_size (p:Int)(h0:-9223372036854775808≤p)(h1:p≤9223372036854775807):(firT p).size≤27:=by
 have h2:=Lib.itoa_length_le p h0 h1;have h3:(numI p).size≤21:=by show (Lib.itoa p).toArray.size≤21;rw[List.size_toArray];exact h2
 have h4:(firT p).size=6+(numI p).size:=app_size _ _;omega
theorem secret_eq (s:ByteArray)(h:s.size≤1000):law32_secret_g s=some (secS s):=by
 unfold law32_secret_g catG;rw[if_pos (by show 7+s.size≤_;omega),qA,io_cat];rfl
theorem num_eq (p:Int)(h0:-9223372036854775808≤p)(h1:p≤9223372036854775807):ref02_Decimal_g p=some (numI p):=Decimal_eq p h0 h1
theorem fir_eq {α:Type}(p:Int)(h0:-9223372036854775808≤p)(h1:p≤9223372036854775807)(K:ByteArray→Option α) :
  (Option.bind (ref02_Decimal_g p) fun v2=>Option.bind (catG (⟨#[102,105,114,115,116,32]⟩) v2) fun _=>Option.bind (law32_secret_g (io.cat (⟨#[102,105,114,115,116,32]⟩) v2)) K)=K (secS (firT p)):=by
 have h2:=firT_size p h0 h1;have h3:(firT p).size=6+(numI p).size:=app_size _ _;have hcat:catG (⟨#[102,105,114,115,116,32]⟩:ByteArray) (numI p)=some ():=by
  unfold catG;rw[if_pos (by show 6+(numI p).size≤_;omega)]
 rw[num_eq p h0 h1,qA,hcat,qA,io_cat];show Option.bind (law32_secret_g (firT p)) K=_;rw[secret_eq _ (by omega),qA]
structure OpOk (x:Op):Prop where
 a0:-9223372036854775808≤x.At
 a1:x.At≤9223372036854775807
 s1:x.Serial≤9223372036854775807
 k:x.Key.size≤60
 g:x.Sig.length≤20
def keyS (x:Op):ByteArray:=if x.Key=⟨#[]⟩ then firS x.At else x.Key
theorem key_eq (x:Op)(h:OpOk x) :
  (bif (io.seq x.Key (⟨#[]⟩)) then (Option.bind (ref02_Decimal_g x.At) fun v2=>Option.bind (catG (⟨#[102,105,114,115,116,32]⟩) v2) fun _=>Option.bind (law32_secret_g (io.cat (⟨#[102,105,114,115,116,32]⟩) v2)) fun v3=>Option.bind (sign_Public_g v3) fun known4=>some known4) else some x.Key)=some (keyS x):=by
 rw[seq_dec];unfold keyS;by_cases hk:x.Key=⟨#[]⟩
 ·have h2:=firT_size x.At h.a0 h.a1;rw[qD hk,if_pos hk,cond_true,fir_eq x.At h.a0 h.a1,public_eq _ (by rw[secS_size];omega)];rfl
 ·rw[qE hk,if_neg hk,cond_false]
def knownS (l:List Op):List ByteArray:=l.flatMap fun x=>[secS (firT x.At),secS x.Key]
def KnownOk (known:List ByteArray):Prop:=known.length≤1000∧∀ k∈known,k.size≤100
theorem foldl_known : ∀ (l:List Op)(s:List ByteArray),l.foldl (fun s x=>s++[secS (firT x.At),secS x.Key]) s=s++knownS l
 | [],s=>by unfold knownS;simp
 | x::l,s=>by
  rw[List.foldl_cons,foldl_known l];unfold knownS;rw[List.flatMap_cons,List.append_assoc]
theorem knownS_len : ∀ l:List Op,(knownS l).length=2 * l.length
 | []=>rfl
 | x::l=>by
  have:=knownS_len l;unfold knownS at this ⊢;rw[List.flatMap_cons,qP,this,qV,qV,qV,List.length_nil];omega
theorem known_ok {l:List Op}(hl:l.length≤16)(h:∀ x∈l,OpOk x):KnownOk (knownS l):=by
 refine⟨by rw[knownS_len];omega,fun k hk=>?_⟩;unfold knownS at hk;obtain⟨x,hx,hk⟩:=List.mem_flatMap.1 hk;have ho:=h x hx;have hk1:=ho.k;have h2:=firT_size x.At ho.a0 ho.a1;simp only[List.mem_cons,List.not_mem_nil,or_false] at hk;rcases hk with rfl | rfl
 ·rw[secS_size];omega
 ·rw[secS_size];omega
theorem secrets_eq (l:List Op)(hl:l.length≤16)(h:∀ x∈l,OpOk x):law32_secrets_g l=some (knownS l):=by
 unfold law32_secrets_g;rw[loop_fold (step:=law32_secrets_l2 l) (fun s i=>(s,i)) l (fun s x=>s++[secS (firT x.At),secS x.Key]) [] (knownS l) (fun k x hx=>by
  have hk:=(qC.1 hx).1;have h1:(k:Int)<(l.length:Int):=by omega
  have ho:=h x (qU hx);have hk1:=ho.k;have hle:(knownS (l.take k)).length≤32:=by rw[knownS_len,qW];omega
  rw[foldl_known,List.nil_append];generalize knownS (l.take k)=z at hle;unfold law32_secrets_l2;dsimp only;rw[io_lt,io_len,qD h1,cond_true,idxG_some hx,qA,fir_eq x.At ho.a0 ho.a1,qA,secret_eq _ (by omega),qA,qA,
   appG_some (by simp only[qV,List.length_nil];omega),qA,io_add,wr_up (k:=k) (by omega)]) (by
  have h1:¬ (l.length:Int)<(l.length:Int):=by omega
  rw[foldl_known,List.nil_append];unfold law32_secrets_l2;dsimp only;rw[io_lt,io_len,qE h1,cond_false])]
 rfl
def transferS (x:Op)(t:Title)(known:List ByteArray):Transfer :=
 if x.Kind≠4 then ⟨x.Key,x.Sig⟩
 else match known.find? (fun k=>decide (publicS k=ownerS t)) with
  | some k=>⟨publicS (secS x.Key),signS k (msgS t (publicS (secS x.Key)))⟩
  | none=>⟨publicS (secS x.Key),[]⟩
theorem publicS_size (s:ByteArray):(publicS s).size=16:=sumS_size _
theorem publicS_is (s:ByteArray):isS (publicS s)=true:=sumS_is _
structure TitOk (t:Title):Prop where
 m:∀ to:ByteArray,to.size≤1000→MsgOk t to
 c:t.Chain.length≤1000
theorem Formed.tit {t:Title}(h:Formed t):TitOk t:=by
 refine⟨fun to ht=>?_,by have:=h.n;omega⟩;have:=h.msg t.Chain.length to ht;rw[cut_all] at this;exact this
theorem zero_tit : TitOk zeroT:=⟨fun to ht=>⟨Int.le_refl _,by decide,Int.le_refl _,by decide,by decide,fun x hx=>(by cases hx),by decide,ht⟩,by decide⟩
theorem transfer_eq (x:Op)(t:Title)(known:List ByteArray)(ho:OpOk x)(ht:TitOk t)(hk:KnownOk known):law32_transfer_g x t known=some (transferS x t known):=by
 have hk1:=ho.k;unfold law32_transfer_g transferS;rw[io_not,io_eqi];by_cases h4:x.Kind=4
 ·rw[qD h4,if_neg (fun h=>h h4),Bool.not_true,cond_false,secret_eq _ (by omega),qA,public_eq _ (by rw[secS_size];omega),qA];generalize hto:publicS (secS x.Key)=to;have hts:to.size≤1000:=by rw[← hto,publicS_size];decide
  obtain⟨hl,hs⟩:=hk;have hc:=ht.c;rcases loop_find (step:=law32_transfer_l2 known t to) known (fun k=>decide (publicS k=ownerS t)) (fun _ k=>.inr ⟨to,signS k (msgS t to)⟩) (.inl ()) (fun i k hik=>by
   have hi:=(qC.1 hik).1;have h1:(i:Int)<(known.length:Int):=by omega
   have hsz:=hs k (qU hik);unfold law32_transfer_l2;dsimp only;rw[io_lt,io_len,qD h1,cond_true,idxG_some hik,qA,public_eq k (by omega),qA,owner_eq t (by omega),qA,seq_dec];by_cases hp:publicS k=ownerS t
   ·rw[qD hp,cond_true,qA,msg_eq t to (ht.m to hts),qA,sign_eq k _ (by omega) (by rw[msgS_size];decide)];rfl
   ·rw[qE hp,cond_false,io_add,wr_up (k:=i) (by omega)];rfl) (by
   have h1:¬ (known.length:Int)<(known.length:Int):=by omega
   unfold law32_transfer_l2;dsimp only;rw[io_lt,io_len,qE h1,cond_false]) with ⟨i,k,hik,hp,hno,hw⟩ | ⟨hno,hw⟩
  ·have hf:known.find? (fun k=>decide (publicS k=ownerS t))=some k:=by
    rw[List.find?_eq_some_iff_getElem];obtain⟨hi,he⟩:=qC.1 hik;refine⟨hp,i,hi,he,fun j hj=>?_⟩;rw[hno j _ hj (qK (by omega))];rfl
   rw[hf,hw,orR_r]
  ·have hf:known.find? (fun k=>decide (publicS k=ownerS t))=none:=by
    rw[List.find?_eq_none];intro k hk;rw[hno k hk]
    decide
   rw[hf,hw,orR_l]
 ·rw[qE h4,if_pos h4];rfl
theorem transferS_sig (x:Op)(t:Title)(known:List ByteArray)(ho:OpOk x):(transferS x t known).Sig.length≤1000000:=by
 have:=ho.g;unfold transferS;split
 ·show x.Sig.length≤_;omega
 ·split
  ·show (signS _ _).length≤_;rw[signS_len];decide
  ·exact Nat.zero_le _
def doS (sh pl:Int)(l:List Entry)(x:Op)(known:List ByteArray):Int×Int×List Entry :=
 if x.Kind=0 then issueS sh pl l x.At (keyS x)
 else if x.Kind=2 then (0,(revokeS sh l x.Serial x.At).1,(revokeS sh l x.Serial x.At).2)
 else if x.Kind=3 then (0,(moveS sh pl l x.Serial x.At).1,(moveS sh pl l x.Serial x.At).2)
 else (0,(passS sh l x.Serial (transferS x (titleS (baseS sh) l x.Serial).1 known)).1,(passS sh l x.Serial (transferS x (titleS (baseS sh) l x.Serial).1 known)).2)
theorem title_tit {sh pl:Int}{l:List Entry}(h:InvL sh pl l)(s:Int):TitOk (titleS (baseS sh) l s).1:=by
 unfold titleS
 cases hs:lookS (baseS sh) l s with
 | none=>exact zero_tit
 | some e =>
  obtain⟨i,_,hi⟩:=lookS_some hs;exact(valid_formed (h.ent i e hi).v).tit
theorem title_small {sh pl:Int}{l:List Entry}(h:InvL sh pl l)(s:Int):SmallT (titleS (baseS sh) l s).1:=by
 unfold titleS
 cases hs:lookS (baseS sh) l s with
 | none=>exact zero_small
 | some e =>
  obtain⟨i,_,hi⟩:=lookS_some hs;exact(valid_formed (h.ent i e hi).v).small
theorem do_eq {sh pl:Int}{l:List Entry}{a:List (Int×Int)}(h:InvL sh pl l)(ha:InvA (baseS sh) l a)(hl:l.length<1000)(x:Op)(ho:OpOk x)(known:List ByteArray)(hk:KnownOk known) :
  ∃ a',law32_do_b sh pl (ttlF (baseS sh) l) a x known=some ((doS sh pl l x known).1,(doS sh pl l x known).2.1,ttlF (baseS sh) (doS sh pl l x known).2.2,a')∧InvL sh pl (doS sh pl l x known).2.2∧InvA (baseS sh) (doS sh pl l x known).2.2 a':=by
 unfold law32_do_b doS;rw[key_eq x ho,io_eqi,io_eqi,io_eqi];by_cases h0:x.Kind=0
 ·obtain⟨a',h1,h2⟩:=issue_eq h ha x.At (keyS x);rw[qD h0,if_pos h0,cond_true,qA,h1];exact⟨a',rfl,issue_inv h ha _ _ hl,h2⟩
 ·rw[qE h0,if_neg h0,cond_false];by_cases h2:x.Kind=2
  ·obtain⟨a',h1,h3⟩:=revoke_eq h ha x.Serial x.At;rw[qD h2,if_pos h2,cond_true,h1];exact⟨a',rfl,h3⟩
  ·rw[qE h2,if_neg h2,cond_false];by_cases h3:x.Kind=3
   ·obtain⟨a',h1,h4⟩:=move_eq h ha x.Serial x.At;rw[qD h3,if_pos h3,cond_true,h1];exact⟨a',rfl,h4⟩
   ·rw[qE h3,if_neg h3,cond_false,title_eq];have htr:=transfer_eq x (titleS (baseS sh) l x.Serial).1 known ho (title_tit h x.Serial) hk;obtain⟨a',h1,h4⟩:=pass_eq h ha x.Serial (transferS x (titleS (baseS sh) l x.Serial).1 known) (transferS_sig x _ known ho);refine⟨a',?_,h4⟩;rw[qA,qA];show Option.bind (law32_transfer_g x (titleS (baseS sh) l x.Serial).1 known) _=_;rw[htr,qA,h1];rfl
theorem chg_len (b:Int)(l:List Entry)(s:Int)(f:Entry→Int×Entry):(chgS b l s f).2.length=l.length:=by
 unfold chgS;split
 ·rfl
 ·split
  ·rfl
  ·split
   ·rfl
   ·show (l.set _ _).length=_;rw[List.length_set]
theorem do_len (sh pl:Int)(l:List Entry)(x:Op)(known:List ByteArray):(doS sh pl l x known).2.2.length≤l.length+1:=by
 unfold doS;split
 ·unfold issueS;split
  ·exact Nat.le_succ _
  ·split
   ·exact Nat.le_succ _
   ·show (l++[_]).length≤_;rw[qP,zA];omega
 ·split
  ·show (revokeS sh l x.Serial x.At).2.length≤_;unfold revokeS;split
   ·exact Nat.le_succ _
   ·rw[chg_len];exact Nat.le_succ _
  ·split
   ·show (moveS sh pl l x.Serial x.At).2.length≤_;unfold moveS;split
    ·exact Nat.le_succ _
    ·rw[chg_len];exact Nat.le_succ _
   ·show (passS sh l x.Serial _).2.length≤_;unfold passS;rw[chg_len];exact Nat.le_succ _
def shS (w:Int):Int:=w % 20
theorem new_eq {sh pl:Int}(h0:0≤sh)(h1:sh<20)(p0:0≤pl)(p1:pl≤4000):registry_New_b sh pl=some false:=by
 unfold registry_New_b;rw[io_lt,io_le,io_lt,io_lt,qE (by omega),qE (by omega),qE (by omega),qE (by omega)];rfl
theorem new_no {sh pl:Int}(h:¬ (0≤sh∧sh<20∧0≤pl∧pl≤4000)):registry_New_b sh pl=some true:=by
 unfold registry_New_b;rw[io_lt,io_le,io_lt,io_lt];by_cases h1:sh<0
 ·rw[qD h1];rfl
 ·rw[qE h1,cond_false];by_cases h2:20≤sh
  ·rw[qD h2];rfl
  ·rw[qE h2,cond_false];by_cases h3:pl<0
   ·rw[qD h3];rfl
   ·rw[qE h3,cond_false,qD (show 4000<pl by omega)];rfl
theorem rnew_new (sh pl:Int):ref32_New_b sh pl=registry_New_b sh pl:=rfl
theorem loop_one {τ:Type}{step:Int→Option (Int ⊕ τ)}(n:Nat)(t:τ)(hs:∀ k:Nat,k<n→step ((k+1:Nat):Int)=some (.inl ((k+2:Nat):Int)))(he:step ((n+1:Nat):Int)=some (.inr t)):whileG step 1=some t:=by
 obtain⟨t',h1,rfl⟩:=loop_up (step:=step) (fun (_:Unit) i=>i+1) n (fun _ _=>True) (fun t'=>t'=t)
  (fun k _ hk _=>.inl ⟨(),by
   have:=hs k hk;rw[show ((k+1:Nat):Int)=(k:Int)+1 by omega] at this;rw[this,show ((k+2:Nat):Int)=((k+1:Nat):Int)+1 by omega],trivial⟩)
  (fun _ _=>⟨t,by
   rw[show ((n+1:Nat):Int)=(n:Int)+1 by omega] at he;exact he,rfl⟩) () trivial
 exact h1
theorem loop_nat {τ:Type}{step:Int→Option (Int ⊕ τ)}(n:Nat)(t:τ)(hs:∀ k:Nat,k<n→step (k:Int)=some (.inl ((k+1:Nat):Int)))(he:step (n:Int)=some (.inr t)):whileG step 0=some t:=by
 obtain⟨t',h1,rfl⟩:=loop_up (step:=step) (fun (_:Unit) i=>i) n (fun _ _=>True) (fun t'=>t'=t)
  (fun k _ hk _=>.inl ⟨(),hs k hk,trivial⟩) (fun _ _=>⟨t,he,rfl⟩) () trivial
 exact h1
theorem rev_length (l:List Entry):(revS l).length≤l.length:=by
 unfold revS;rw[qO];exact List.length_filter_le _ _
theorem ser_k {sh:Int}(h0:0≤sh)(h1:sh<20)(k:Nat)(hk:k≤100000):io.ar .add .i64 (io.ar .mul .i64 (io.ar .add .i64 sh 1) 10000) ((k+1:Nat):Int)=baseS sh+k:=by
 rw[ser_base h0 h1,io_add,wr64 (by omega) (by omega)];unfold baseS;omega
theorem up_one (k:Nat)(h:k≤100000):io.ar .add .i64 ((k+1:Nat):Int) 1=((k+2:Nat):Int):=by
 rw[io_add,wr64 (by omega) (by omega)];omega
def fewO (x:Op):Bool:=decide (x.Key.size≤60)&&(decide (x.Sig.length≤20)&&x.Sig.all fun s=>decide (s.size≤60))
def fewS (l:List Op):Bool:=l.all fewO&&decide (l.length≤16)
theorem lt60 (n:Nat)(m:Nat):decide ((m:Int)<(n:Int))=!decide (n≤m):=by
 by_cases h:n≤m
 ·rw[qD h,qE (by omega)];rfl
 ·rw[qE h,qD (by omega)];rfl
theorem any_notZ (l:List ByteArray):(l.any fun s=>!decide (s.size≤60))=!(l.all fun s=>decide (s.size≤60)):=by
 rw[List.any_eq_not_all_not];simp only[Bool.not_not]
theorem sfew_eq (s:List ByteArray)(h:s.length≤20):ref02_Few_g s 60=some (s.all fun s=>decide (s.size≤60)):=by
 unfold ref02_Few_g;rw[loop_any (step:=ref02_Few_l2 s 60) s (fun s=>!decide (s.size≤60)) (.inr false) (.inl ()) (fun k x hx=>by
  have hk:=(qC.1 hx).1;have h1:(k:Int)<(s.length:Int):=by omega
  unfold ref02_Few_l2;dsimp only;rw[io_lt,io_len,qD h1,cond_true,idxG_some hx,qA,io_lt,io_ssz,show (60:Int)=((60:Nat):Int) from rfl,lt60,io_add,wr_up (k:=k) (by omega)];cases decide (x.size≤60)<;>rfl) (by
  have h1:¬ (s.length:Int)<(s.length:Int):=by omega
  unfold ref02_Few_l2;dsimp only;rw[io_lt,io_len,qE h1,cond_false]),any_notZ]
 cases s.all fun s=>decide (s.size≤60) with
 | false=>rfl
 | true=>rw[if_neg (by decide),orR_l,io_le,io_len,qD (by omega)]
theorem any_notF (l:List Op):(l.any fun s=>!fewO s)=!(l.all fewO):=by
 rw[List.any_eq_not_all_not];simp only[Bool.not_not]
theorem few_eq (l:List Op)(hl:l.length≤maxLen):law32_few_g l=some (fewS l):=by
 have hl:l.length≤9223372036854775807:=hl;unfold law32_few_g fewS;rw[loop_any (step:=law32_few_l2 l) l (fun x=>!fewO x) (.inr false) (.inl ()) (fun k x hx=>by
  have hk:=(qC.1 hx).1;have h1:(k:Int)<(l.length:Int):=by omega
  unfold law32_few_l2;dsimp only;rw[io_lt,io_len,qD h1,cond_true,idxG_some hx,qA,io_lt,io_ssz,show (60:Int)=((60:Nat):Int) from rfl,lt60,io_add,wr_up (k:=k) (by omega)];unfold fewO
  cases decide (x.Key.size≤60) with
  | false=>rfl
  | true =>
   rw[Bool.not_true,cond_false,qA,io_lt,io_len,show (20:Int)=((20:Nat):Int) from rfl,lt60];by_cases h20:x.Sig.length≤20
   ·rw[qD h20,Bool.not_true,cond_false,qA,show ((60:Nat):Int)=60 from rfl,sfew_eq _ h20,qA,io_not];cases x.Sig.all fun s=>decide (s.size≤60)<;>rfl
   ·rw[qE h20];rfl) (by
  have h1:¬ (l.length:Int)<(l.length:Int):=by omega
  unfold law32_few_l2;dsimp only;rw[io_lt,io_len,qE h1,cond_false]),any_notF]
 cases l.all fewO with
 | false=>rfl
 | true =>
  rw[if_neg (by decide),orR_l,io_le,io_len,Bool.true_and];congr 1;by_cases h:l.length≤16
  ·rw[qD h,qD (by omega)]
  ·rw[qE h,qE (by omega)]
structure OpIn (x:Op):Prop where
 a0:-9223372036854775808≤x.At
 a1:x.At≤9223372036854775807
 s1:x.Serial≤9223372036854775807
theorem few_ops {l:List Op}(h:fewS l=true)(hi:∀ x∈l,OpIn x):l.length≤16∧∀ x∈l,OpOk x:=by
 unfold fewS at h;rw[qJ,zB] at h;refine⟨h.2,fun x hx=>?_⟩;have h1:=qL.1 h.1 x hx;unfold fewO at h1;simp only[qJ,zB] at h1;have h2:=hi x hx;exact⟨h2.a0,h2.a1,h2.s1,h1.1,h1.2.1⟩
end Go.SX.Rg
set_option linter.unusedVariables false
namespace Go.SX.Rg
open Go Go.SX
def hx (d:Nat):Nat:=if d<10 then 48+d else 87+d
def gH (n i:Nat):Nat:=if i<16 then hx (n / 16 ^ (15 - i) % 16) else if i=16 then 1 else 0
def blkG (g:Nat→Nat)(f:Nat):Nat→Nat
 | 0=>0
 | n+1=>g f+256 * blkG g (f+1) n
def sum1 (n:Nat):Nat:=mixN (mixN (mixN (7046029254386353131 ^^^ blkG (gH n) 0 8) ^^^ blkG (gH n) 8 8) ^^^ blkG (gH n) 16 8)
def chain1 (n:Nat):Nat→Nat
 | 0=>n
 | k+1=>chain1 (sum1 n) k
def dig2 (n:Nat):List UInt8:=if n<10 then [UInt8.ofNat (48+n)] else [UInt8.ofNat (48+n / 10),UInt8.ofNat (48+n % 10)]
def txt2 (x:List UInt8):List UInt8:=dig2 x.length++[58]++x
def start2 (i:Nat):Nat:=sumN (txt2 [107]++txt2 (dig2 i))
def ends2 : List Nat:=(List.range 18).map fun i=>chain1 (start2 i) 15
theorem hexD_nat (d:Nat)(h:d<16):(hexD d).toNat=hx d:=by
 match d,h with
 | 0,_ | 1,_ | 2,_ | 3,_ | 4,_ | 5,_ | 6,_ | 7,_ | 8,_ | 9,_ | 10,_ | 11,_ | 12,_ | 13,_ | 14,_ | 15,_=>rfl
 | d+16,h=>omega
theorem byN_hex (n i:Nat):byN (hexN 16 n) i=gH n i:=by
 unfold byN gH;rw[hexN_len];by_cases h:i<16
 ·rw[if_pos h,if_pos h,hexN_eq,qY,qI,List.getElem?_range h,qS,Option.getD_some,hexD_nat _ (Nat.mod_lt _ (by decide))]
 ·rw[if_neg h,if_neg h]
theorem blkR_G (l:List UInt8)(g:Nat→Nat)(h:∀ i,byN l i=g i):∀ (n f:Nat),blkR l f n=blkG g f n
 | 0,f=>rfl
 | n+1,f=>by unfold blkR blkG;rw[h,blkR_G l g h n]
theorem sum_hex (n:Nat):sumN (hexN 16 n)=sum1 n:=by
 have hb:=blkR_G (hexN 16 n) (gH n) (byN_hex n);unfold sumN sum1;rw[hexN_len];generalize hexN 16 n=l at hb;show sumK l 3=_;unfold sumK sumK sumK sumK;rw[hb,hb,hb]
def hexT (n:Nat):ByteArray:=⟨(hexN 16 n).toArray⟩
theorem sumS_T (t:ByteArray):sumS t=hexT (sumN t.data.toList):=by unfold sumS hexT;rfl
theorem hexT_list (n:Nat):(hexT n).data.toList=hexN 16 n:=by unfold hexT;rfl
theorem sumS_hex (n:Nat):sumS (hexT n)=hexT (sum1 n):=by rw[sumS_T,hexT_list,sum_hex]
theorem chain_hex : ∀ (k n:Nat),chainS (hexT n) k=hexT (chain1 n k)
 | 0,n=>by unfold chainS chain1;rfl
 | k+1,n=>by unfold chainS chain1;rw[sumS_hex,chain_hex k]
theorem dec2 (n:Nat)(h:n<100):Lib.decDigits n=dig2 n:=by
 unfold dig2;rw[Lib.decDigits];by_cases h1:n<10
 ·rw[dif_pos h1,if_pos h1]
 ·rw[dif_neg h1,if_neg h1,Lib.decDigits,dif_pos (by omega)];rfl
theorem txtP2 (x:ByteArray)(l:List UInt8)(h:x.data.toList=l)(hl:l.length<100):txtP x=txt2 l:=by
 have hs:=size_list x;unfold txtP txt2;rw[Lib.itoa_nonneg,h,show x.size=l.length by rw[hs,h],dec2 _ hl]
theorem dig2_len (i:Nat):(dig2 i).length≤2:=by unfold dig2;split<;>simp
theorem start_hex (i:Nat)(h:i<18):startS ⟨#[107]⟩ i=hexT (start2 i):=by
 have e1:txtP ⟨#[107]⟩=txt2 [107]:=txtP2 _ _ rfl (by decide);have e2:txtP (numB i)=txt2 (dig2 i):=txtP2 _ _ (by
  show (Lib.itoa (i:Int)).toArray.toList=_;rw[Lib.itoa_nonneg,dec2 i (by omega)]) (by have:=dig2_len i;omega)
 have e3:txtZ [⟨#[107]⟩,numB i]=txt2 [107]++txt2 (dig2 i):=by
  show txtP ⟨#[107]⟩++(txtP (numB i)++[])=_;rw[e1,e2,List.append_nil]
 unfold startS listS start2;rw[e3,sumS_T]
theorem txtZ_hex : ∀ l:List Nat,txtZ (l.map hexT)=l.flatMap fun c=>txt2 (hexN 16 c)
 | []=>rfl
 | c::l=>by
  have h:txtP (hexT c)=txt2 (hexN 16 c):=txtP2 _ _ (hexT_list c) (by rw[hexN_len];decide);have e:txtZ (hexT c::l.map hexT)=txtP (hexT c)++txtZ (l.map hexT):=rfl;rw[qR,e,txtZ_hex l,h,List.flatMap_cons]
theorem ends2_at : ends2=[17097749478301538422,7792444935610094064,484633485113072241,16184741360586346554,13116567491033419891,9696879472941449527,12701650762258358918,17030068972441313919,16620053311602023154,11363979415219467447,2399200940836808147,1964724910858654181,8359500942236105560,8258835279198496336,5687348619840191273,696784791123368958,9186358852032597128,15053316188938510867]:=by decide +kernel
theorem sum2_at : sumN (([17097749478301538422,7792444935610094064,484633485113072241,16184741360586346554,13116567491033419891,9696879472941449527,12701650762258358918,17030068972441313919,16620053311602023154,11363979415219467447,2399200940836808147,1964724910858654181,8359500942236105560,8258835279198496336,5687348619840191273,696784791123368958,9186358852032597128,15053316188938510867]:List Nat).flatMap fun c=>txt2 (hexN 16 c))=12483837858412026081:=by decide +kernel
theorem public_hex : publicS ⟨#[107]⟩=hexT 12483837858412026081:=by
 have e1:((List.range 18).map fun i=>chainS (startS ⟨#[107]⟩ i) 15)=ends2.map hexT:=by
  unfold ends2;rw[List.map_map];refine List.map_congr_left fun i hi=>?_
  rw[start_hex i (List.mem_range.1 hi),chain_hex];rfl
 unfold publicS listS;rw[e1,txtZ_hex,ends2_at,sumS_T];have:=sum2_at;generalize ([17097749478301538422,7792444935610094064,484633485113072241,16184741360586346554,13116567491033419891,9696879472941449527,12701650762258358918,17030068972441313919,16620053311602023154,11363979415219467447,2399200940836808147,1964724910858654181,8359500942236105560,8258835279198496336,5687348619840191273,696784791123368958,9186358852032597128,15053316188938510867]:List Nat).flatMap (fun c=>txt2 (hexN 16 c))=z at this;show hexT (sumN z.toArray.toList)=_;rw[List.toList_toArray,this]
theorem sum_m : sumN [109]=4493593283401927581:=by decide +kernel
theorem m_hex : sumS ⟨#[109]⟩=hexT 4493593283401927581:=by
 rw[sumS_T];show hexT (sumN [109])=_;rw[sum_m]
theorem key_ne : publicS ⟨#[107]⟩≠sumS ⟨#[109]⟩:=by
 rw[public_hex,m_hex];intro h;have h2:=congrArg (fun t:ByteArray=>t.data.toList) h;rw[hexT_list,hexT_list] at h2;exact absurd h2 (by decide +kernel)
end Go.SX.Rg
set_option linter.unusedVariables false
namespace Go.SX.Rg
open Go Go.SX
section head
variable (K L M:ByteArray)
def hd0 : Entry:=⟨⟨30001,2,3,K,[]⟩,0⟩
def hd1 : Entry:=⟨⟨30001,2,4,K,[]⟩,0⟩
def hd2 (x:Transfer):Entry:=⟨⟨30001,2,4,K,[x]⟩,0⟩
def hd3 (x:Transfer):Entry:=⟨⟨30001,2,4,K,[x]⟩,100⟩
def hdf : Entry:=⟨⟨30002,2,3,L,[]⟩,0⟩
def hdg : Entry:=⟨⟨30003,2,4,M,[]⟩,0⟩
theorem hv1 (iK:isS K=true):issueS 2 5 [] 3 K=(30001,0,[hd0 K]):=by
 unfold issueS;rw[if_neg (by rw[iK];decide),if_neg (fun h=>h rfl)];rfl
theorem hv2 (iL:isS L=true):issueS 2 5 [hd0 K] 3 L=(0,16,[hd0 K]):=by
 have h:atS (baseS 2) [hd0 K] 3=30001:=rfl;unfold issueS;rw[if_neg (by rw[iL];decide),h,if_pos (by decide)]
theorem hv3 : moveS 2 5 [hd0 K] 30001 4=(0,[hd1 K]):=by
 have h:atS (baseS 2) [hd0 K] 4=0:=rfl;have hl:lookS (baseS 2) [hd0 K] 30001=some (hd0 K):=rfl;unfold moveS chgS;rw[if_neg (by decide),hl];dsimp only;rw[if_neg (show ¬ (0:Int)<(hd0 K).gone from by show ¬ (0:Int)<0;decide)];unfold movE;rw[h,if_neg (show ¬ ((0:Int)≠0∧(0:Int)≠30001) from fun h=>h.1 rfl),if_neg (fun h=>h rfl)];rfl
theorem hv4 (iL:isS L=true):issueS 2 5 [hd1 K] 3 L=(30002,0,[hd1 K,hdf L]):=by
 have h:atS (baseS 2) [hd1 K] 3=0:=rfl;unfold issueS;rw[if_neg (by rw[iL];decide),h,if_neg (fun h=>h rfl)];rfl
theorem hv6 (x:Transfer)(hv:validS (hd2 K x).Title=true):passS 2 [hd1 K,hdf L] 30001 x=(0,[hd2 K x,hdf L]):=by
 have hl:lookS (baseS 2) [hd1 K,hdf L] 30001=some (hd1 K):=rfl;have hp:pasT x (hd1 K).Title=(hd2 K x).Title:=rfl;unfold passS chgS;rw[hl];dsimp only;rw[if_neg (show ¬ (0:Int)<(hd1 K).gone from by show ¬ (0:Int)<0;decide)];unfold pasE;rw[if_neg (show ¬ 50≤(hd1 K).Title.Chain.length from by show ¬ 50≤0;decide),hp,if_pos hv,if_neg (fun h=>h rfl)];rfl
theorem hv7 (x:Transfer)(hv:validS (pasT x (hd2 K x).Title)=false):passS 2 [hd2 K x,hdf L] 30001 x=(20,[hd2 K x,hdf L]):=by
 have hl:lookS (baseS 2) [hd2 K x,hdf L] 30001=some (hd2 K x):=rfl;unfold passS chgS;rw[hl];dsimp only;rw[if_neg (show ¬ (0:Int)<(hd2 K x).gone from by show ¬ (0:Int)<0;decide)];unfold pasE;rw[if_neg (show ¬ 50≤(hd2 K x).Title.Chain.length from by show ¬ 50≤1;decide),hv,if_neg (show ¬ (false=true) by decide),if_pos (c:=((20,hd2 K x):Int×Entry).1≠0) (show (20:Int)≠0 by decide)]
theorem hv8 (x:Transfer):revokeS 2 [hd2 K x,hdf L] 30001 100=(0,[hd3 K x,hdf L]):=by
 have hl:lookS (baseS 2) [hd2 K x,hdf L] 30001=some (hd2 K x):=rfl;unfold revokeS chgS;rw[if_neg (by decide),hl];dsimp only;rw[if_neg (show ¬ (0:Int)<(hd2 K x).gone from by show ¬ (0:Int)<0;decide),if_neg (fun h=>h rfl)];rfl
theorem hv9 (x:Transfer):revokeS 2 [hd3 K x,hdf L] 30001 101=(27,[hd3 K x,hdf L]):=by
 have hl:lookS (baseS 2) [hd3 K x,hdf L] 30001=some (hd3 K x):=rfl;unfold revokeS chgS;rw[if_neg (by decide),hl];dsimp only;rw[if_pos (show (0:Int)<(hd3 K x).gone from by show (0:Int)<100;decide)]
theorem hv10 (x:Transfer)(iM:isS M=true):issueS 2 5 [hd3 K x,hdf L] 4 M=(30003,0,[hd3 K x,hdf L,hdg M]):=by
 have h:atS (baseS 2) [hd3 K x,hdf L] 4=0:=rfl;unfold issueS;rw[if_neg (by rw[iM];decide),h,if_neg (fun h=>h rfl)];rfl
theorem head_core (hK:sign_Public_g ⟨#[107]⟩=some K)(hL:digest_Sum_g ⟨#[108]⟩=some L)(hM:digest_Sum_g ⟨#[109]⟩=some M)(iK:isS K=true)(iL:isS L=true)(iM:isS M=true)(hne:K≠M)
  (hv:∀ m,verifyS K m (signS ⟨#[107]⟩ m)=true):law32_head_g=some true:=by
 have I0:InvL 2 5 []:=InvL.nil (by decide) (by decide) (by decide) (by decide);obtain⟨a1,h1,A1⟩:=issue_eq I0 (InvA.nil _) 3 K;have I1:=issue_inv I0 (InvA.nil _) 3 K (by decide);rw[hv1 K iK] at h1 A1 I1;obtain⟨a2,h2,A2⟩:=issue_eq I1 A1 3 L;rw[hv2 K L iL] at h2 A2;obtain⟨a3,h3,I3,A3⟩:=move_eq I1 A2 30001 4;rw[hv3 K] at h3 I3 A3;obtain⟨a4,h4,A4⟩:=issue_eq I3 A3 3 L;have I4:=issue_inv I3 A3 3 L (by show 1<1000;decide);rw[hv4 K L iL] at h4 A4 I4;have V4:validS (hd1 K).Title=true:=(I4.ent 0 (hd1 K) rfl).v;have F4:=valid_formed V4;obtain⟨x,hx⟩:∃ x:Transfer,x=⟨M,signS ⟨#[107]⟩ (msgS (hd1 K).Title M)⟩:=⟨_,rfl⟩;have hu:usedS (hd1 K).Title M=false:=by
  unfold usedS;show (decide (K=M)||false)=false;rw[qE hne];rfl
 have tx:trS x=true:=by
  rw[hx];unfold trS;rw[signS_len,iM,signS_is];rfl
 have V5:validS (hd2 K x).Title=true:=by
  have hf:formedS (hd2 K x).Title=true:=(formedS_iff _).2 ⟨F4.h0,F4.h1,F4.k0,F4.k1,F4.p0,F4.p1,F4.f,by show 1≤50;decide,by show ([x].all trS)=true;rw[List.all_cons,tx];rfl⟩;have hs:stepS (hd1 K).Title x=true:=by
   unfold stepS;have ho:ownerS (hd1 K).Title=K:=rfl;have hto:x.To=M:=by rw[hx]
   have hsg:x.Sig=signS ⟨#[107]⟩ (msgS (hd1 K).Title M):=by rw[hx]
   rw[hto,hsg,hu,ho,hv];rfl
  unfold validS stepsS;rw[hf]
  show (true&&((List.range 1).all fun k=>match [x][k]? with | some x'=>stepS (cutS (hd2 K x).Title k) x' | none=>true))=true;show (true&&(stepS (cutS (hd2 K x).Title 0) x&&true))=true;have hc:cutS (hd2 K x).Title 0=(hd1 K).Title:=rfl;rw[hc,hs];rfl
 have V6:validS (pasT x (hd2 K x).Title)=false:=by
  unfold validS;have hs:stepsS (pasT x (hd2 K x).Title)=false:=by
   unfold stepsS;show ((stepS (cutS (pasT x (hd2 K x).Title) 0) x)&&(stepS (cutS (pasT x (hd2 K x).Title) 1) x&&true))=false;have hc:cutS (pasT x (hd2 K x).Title) 1=(hd2 K x).Title:=rfl;have hu1:usedS (hd2 K x).Title x.To=true:=by
    unfold usedS;show (decide (K=x.To)||(decide (x.To=x.To)||false))=true;rw[qD (show x.To=x.To from rfl)];simp
   have hs1:stepS (hd2 K x).Title x=false:=by
    unfold stepS;rw[hu1];rfl
   rw[hc,hs1];simp
  rw[hs,Bool.and_false]
 have hsig:x.Sig.length≤1000000:=by rw[hx,signS_len];decide
 obtain⟨a5,h5,I5,A5⟩:=pass_eq I4 A4 30001 x hsig;rw[hv6 K L x V5] at h5 I5 A5;obtain⟨a6,h6,I6,A6⟩:=pass_eq I5 A5 30001 x hsig;rw[hv7 K L x V6] at h6 I6 A6;obtain⟨a7,h7,I7,A7⟩:=revoke_eq I6 A6 30001 100;rw[hv8 K L x] at h7 I7 A7;obtain⟨a8,h8,I8,A8⟩:=revoke_eq I7 A7 30001 101;rw[hv9 K L x] at h8 I8 A8;obtain⟨a9,h9,A9⟩:=issue_eq I8 A8 4 M;have I9:=issue_inv I8 A8 4 M (by show 2<1000;decide);rw[hv10 K L M x iM] at h9 A9 I9;have hP:title_Pass_g (hd1 K).Title M ⟨#[107]⟩=some ((hd2 K x).Title,0):=by
  have hval:title_Valid_g (hd1 K).Title=some true:=by rw[valid_eq _ (by show (0:Int)≤30001;decide) (by show (30001:Int)≤1000000000;decide),V4]
  unfold title_Pass_g;rw[hval,qA,io_not,Bool.not_true,cond_false,digest_Is_eq,iM,qA,io_not,Bool.not_true,qA,cond_false,io_eqi,io_len,
   qE (show ¬ (((hd1 K).Title.Chain.length:Nat):Int)=50 from by show ¬ (0:Int)=50;decide),cond_false,used_eq _ _ (by show 0≤_;decide),hu,qA,cond_false,hK,qA,
   owner_eq _ (by show 0≤_;decide),qA,seq_dec,show ownerS (hd1 K).Title=K from rfl,qD rfl,io_not,Bool.not_true,cond_false,clone_tr _ (by show 0≤_;decide),qA,
   msg_eq _ _ (F4.tit.m M (by rw[isS_size iM];decide)),qA,sign_eq _ _ (by decide) (by rw[msgS_size];decide),qA,qA,appG_some (by show 0+1≤_;decide),qA,← hx]
  rfl
 have ho:title_Owner_g (hd3 K x).Title=some M:=by
  rw[owner_eq _ (by show 1≤_;decide)];show some x.To=_;rw[hx]
 have hr:registry_Registry_Revoked_b 2 5 (ttlF (baseS 2) [hd3 K x,hdf L,hdg M]) a9=some [30001]:=by
  rw[revoked_eq I9];rfl
 have n1:registry_New_b 2 5=some false:=new_eq (by decide) (by decide) (by decide) (by decide);have n2:registry_New_b 20 1=some true:=new_no (by decide);have h1:registry_Registry_Issue_b 2 5 ([]:List (Int×Entry)) ([]:List (Int×Int)) 3 K=some (30001,0,ttlF (baseS 2) [hd0 K],a1):=h1;have hrn:registry_Registry_Revoke_nil_g 1 1=some 1:=by
  unfold registry_Registry_Revoke_nil_g;rw[io_lt,io_lt];rfl
 have hat:registry_Registry_At_b 2 5 (ttlF (baseS 2) [hd0 K]) a2 3=some 30001:=by
  rw[at_eq A2];rfl
 have ht5:registry_Registry_Title_b 2 5 (ttlF (baseS 2) [hd1 K,hdf L]) a4 30001=some ((hd1 K).Title,0,0):=title_eq 2 5 [hd1 K,hdf L] a4 30001;have ht9:registry_Registry_Title_b 2 5 (ttlF (baseS 2) [hd3 K x,hdf L,hdg M]) a9 30001=some ((hd3 K x).Title,100,0):=title_eq 2 5 [hd3 K x,hdf L,hdg M] a9 30001;have hi:ref11_Ints_g [30001] [30001]=some true:=ints_refl _ (by decide);have hix:idxG (hd2 K x).Title.Chain 0=some x:=rfl;unfold law32_head_g;rw[n1];show (Option.bind (sign_Public_g ⟨#[107]⟩) _)=_;dsimp only at h2 h3 h4 h5 h6 h7 h8 h9;rw[hK,qA,h1,qA,qA,hL];dsimp only;rw[qA,h2,qA,qA];dsimp only;rw[hat,qA,qA,h3,qA,qA];dsimp only;rw[qA,h4,qA,qA];dsimp only;rw[ht5,qA,qA];dsimp only;rw[hM,qA];show (Option.bind (title_Pass_g (hd1 K).Title M ⟨#[107]⟩) _)=_;rw[hP,qA];dsimp only;rw[io_eqi,io_not,qD rfl,Bool.not_true,cond_false,io_len,io_eqi,io_not,qD (show (((hd2 K x).Title.Chain.length:Nat):Int)=1 from rfl),Bool.not_true,qA,cond_false,hix,qA,h5,qA,qA];dsimp only;rw[qA,h6,qA,qA];dsimp only;rw[h7,qA,qA];dsimp only;rw[h8,qA,qA];dsimp only;rw[qA,h9,qA,qA];dsimp only;rw[ht9,qA,qA];dsimp only;simp only[io_eqi,eq_self,decide_true,cond_true,qA];show (Option.bind (title_Owner_g (hd3 K x).Title) _)=_;rw[ho,qA,seq_dec,qD rfl,cond_true,hr,qA,hi,qA,cond_true,n2];show (Option.bind (registry_Registry_Revoke_nil_g 1 1) _)=_;rw[hrn];rfl
end head
theorem head_eq : law32_head_g=some true:=by
 have hne:=key_ne;have hv:=verify_sign ⟨#[107]⟩;have iK:=publicS_is ⟨#[107]⟩;have hK:=public_eq ⟨#[107]⟩ (by decide);have hL:=digest_Sum_eq ⟨#[108]⟩ (by decide);have hM:=digest_Sum_eq ⟨#[109]⟩ (by decide);have iL:=sumS_is ⟨#[108]⟩;have iM:=sumS_is ⟨#[109]⟩;generalize publicS ⟨#[107]⟩=K at hne hv iK hK;generalize sumS ⟨#[108]⟩=L at hL iL;generalize sumS ⟨#[109]⟩=M at hM iM hne;exact head_core K L M hK hL hM iK iL iM hne hv
end Go.SX.Rg
set_option linter.unusedVariables false
namespace Go.SX.Rg
open Go Go.SX
end Go.SX.Rg
set_option linter.unusedVariables false
namespace Go.SX.Rg
open Go Go.SX
end Go.SX.Rg
set_option linter.unusedVariables false
namespace Go.SX.Rg
open Go Go.SX
theorem rdo_eq {sh pl:Int}{L:List Entry}(h:InvL sh pl L)(x:Op)(ho:OpOk x)(known:List ByteArray)(hk:KnownOk known) :
  (bif (io.eq x.Kind 0) then (
   Option.bind (
    bif (io.seq x.Key (⟨#[]⟩)) then (
     Option.bind (ref02_Decimal_g x.At) fun v31 =>
     Option.bind (catG (⟨#[102,105,114,115,116,32]⟩) v31) fun _ =>
     Option.bind (law32_secret_g (io.cat (⟨#[102,105,114,115,116,32]⟩) v31)) fun v32 =>
     Option.bind (sign_Public_g v32) fun l33 =>
     some l33
    ) else (
     some x.Key
    )
    ) fun key30 =>
   Option.bind (ref32_Registry_Issue_b sh pl (refT L) (refG L) x.At key30) fun r34 =>
   some (r34.2.2.1,r34.2.2.2,r34.1,r34.2.1)
  ) else (
   bif (io.eq x.Kind 2) then (
    Option.bind (ref32_Registry_Revoke_b sh pl (refT L) (refG L) x.Serial x.At) fun r35 =>
    some (r35.2.1,r35.2.2,0,r35.1)
   ) else (
    bif (io.eq x.Kind 3) then (
     Option.bind (ref32_Registry_Move_b sh pl (refT L) (refG L) x.Serial x.At) fun r36 =>
     some (r36.2.1,r36.2.2,0,r36.1)
    ) else (
     Option.bind (law32_transfer_g x (Title.mk (titleS (baseS sh) L x.Serial).1.Serial (titleS (baseS sh) L x.Serial).1.Show (titleS (baseS sh) L x.Serial).1.Place (titleS (baseS sh) L x.Serial).1.First (titleS (baseS sh) L x.Serial).1.Chain) known) fun v37 =>
     Option.bind (ref32_Registry_Pass_b sh pl (refT L) (refG L) x.Serial v37) fun r38 =>
     some (r38.2.1,r38.2.2,0,r38.1)
    )
   )
  ))=some (refT (doS sh pl L x known).2.2,refG (doS sh pl L x known).2.2,(doS sh pl L x known).1,(doS sh pl L x known).2.1):=by
 have s1:=ho.s1;unfold doS;rw[key_eq x ho,io_eqi,io_eqi,io_eqi];by_cases h0:x.Kind=0
 ·rw[qD h0,if_pos h0,cond_true,qA,rissue_eq h];rfl
 ·rw[qE h0,if_neg h0,cond_false];by_cases h2:x.Kind=2
  ·rw[qD h2,if_pos h2,cond_true,rrevoke_eq h s1];rfl
  ·rw[qE h2,if_neg h2,cond_false];by_cases h3:x.Kind=3
   ·rw[qD h3,if_pos h3,cond_true,rmove_eq h s1];rfl
   ·rw[qE h3,if_neg h3,cond_false];show (Option.bind (law32_transfer_g x (titleS (baseS sh) L x.Serial).1 known) _)=_;rw[transfer_eq x _ known ho (title_tit h x.Serial) hk,qA,rpass_eq h s1];rfl
theorem max_sh {sh:Int}(h:0≤sh):io.mm true sh 0=sh:=by rw[io_max];omega
theorem same_loop {sh pl:Int}{L:List Entry}{a:List (Int×Int)}(h:InvL sh pl L)(l:List Op)(hl:l.length≤16) :
  whileG (law32_RegistryMatchesReference_l14 l sh pl (ttlF (baseS sh) L) a (refT L) (refG L)) 1=some (.inl (ttlF (baseS sh) L,a,refT L,refG L)):=by
 have hlw:io.len (W eOp l)=(l.length:Int):=io_len ..;exact loop_one (step:=law32_RegistryMatchesReference_l14 l sh pl (ttlF (baseS sh) L) a (refT L) (refG L)) l.length _ (fun k hk=>by
  have c1:((k+1:Nat):Int)≤(l.length:Int):=by omega
  have hb1:=h.b1;unfold law32_RegistryMatchesReference_l14;dsimp only;rw[hlw,io_le,qD c1,cond_true,max_sh h.sh0,ser_k h.sh0 h.sh1 k (by omega),title_eq,rtitle_eq h (by omega),up_one k (by omega)];have hs:=same_refl _ (title_small h (baseS sh+(k:Int)));generalize titleS (baseS sh) L (baseS sh+(k:Int))=q at hs;obtain⟨⟨q1,q2,q3,q4,q5⟩,q6,q7⟩:=q;dsimp only at hs;simp only[qA,io_not,io_eqi,decide_true,Bool.not_true,cond_false,hs]) (by
  have c1:¬ ((l.length+1:Nat):Int)≤(l.length:Int):=by omega
  unfold law32_RegistryMatchesReference_l14;dsimp only;rw[hlw,io_le,qE c1,cond_false])
theorem match_loop {sh pl:Int}(s0:0≤sh)(s1:sh<20)(p0:0≤pl)(p1:pl≤4000)(l:List Op)(hl:l.length≤16)(hok:∀ x∈l,OpOk x)(known:List ByteArray)(hk:KnownOk known) :
  whileG (law32_RegistryMatchesReference_l12 l sh pl known) ([],[],([]:List Title),([]:List Int),0)=some (.inl ()):=by
 have hlw:io.len (W eOp l)=(l.length:Int):=io_len ..;obtain⟨t,ht,rfl⟩:=loop_up (step:=law32_RegistryMatchesReference_l12 l sh pl known) (fun (s:List (Int×Entry)×List (Int×Int)×List Title×List Int) i=>(s.1,s.2.1,s.2.2.1,s.2.2.2,i)) l.length
  (fun k s=>∃ L a,s=(ttlF (baseS sh) L,a,refT L,refG L)∧InvL sh pl L∧InvA (baseS sh) L a∧L.length≤k) (fun t=>t=.inl ())
  (fun k s hk1 hI=>by
   obtain⟨L,a,rfl,hL,hA,hle⟩:=hI;have hx:l[k]?=some l[k]:=qK hk1;have hxo:=hok _ (List.getElem_mem hk1);have c1:(k:Int)<(l.length:Int):=by omega
   generalize l[k]=x at hx hxo;obtain⟨a',hd,hL',hA'⟩:=do_eq hL hA (by omega) x hxo known hk;have hdl:=do_len sh pl L x known;have hr:=rdo_eq hL x hxo known hk;refine .inl ⟨(ttlF (baseS sh) (doS sh pl L x known).2.2,a',refT (doS sh pl L x known).2.2,refG (doS sh pl L x known).2.2),?_,_,a',rfl,hL',hA',by omega⟩;dsimp only;unfold law32_RegistryMatchesReference_l12;dsimp only;rw[hlw,io_lt,qD c1,cond_true,idxG_some hx,qA,title_eq,qA,qA];dsimp only;rw[hd,qA,qA];dsimp only;rw[hr,qA];dsimp only;have hrl:=rev_length (doS sh pl L x known).2.2;have hLl:=hL'.len;generalize (doS sh pl L x known).1=n;generalize (doS sh pl L x known).2.1=e;generalize (doS sh pl L x known).2.2=L' at hL' hA' hrl hLl;rw[io_not,io_eqi,qD rfl,Bool.not_true,cond_false,io_not,io_eqi,qD rfl,Bool.not_true,cond_false,revoked_eq hL',qA,rrevoked_eq hL',qA,ints_refl _ (by omega),qA,io_not,Bool.not_true,cond_false,
    at_eq hA',qA,rat_eq hL',qA,io_not,io_eqi,qD rfl,Bool.not_true,qA,cond_false,same_loop hL' l hl,orR_l,io_add,wr_up (k:=k) (by omega)])
  (fun s hI=>by
   obtain⟨L,a,rfl,hL,hA,hle⟩:=hI;have c1:¬ (l.length:Int)<(l.length:Int):=by omega
   refine⟨_,?_,rfl⟩;dsimp only;unfold law32_RegistryMatchesReference_l12;dsimp only;rw[hlw,io_lt,qE c1,cond_false])
  ([],[],[],[]) ⟨[],[],rfl,InvL.nil s0 s1 p0 p1,InvA.nil _,Nat.zero_le _⟩
 exact ht
theorem ntitle (s:Int):registry_Registry_Title_nil_g s=some (zeroT,0,1):=rfl
theorem nrtitle (s:Int):ref32_Registry_Title_nil_g s=some (zeroT,0,1):=rfl
theorem nrevoke (s now:Int):registry_Registry_Revoke_nil_g s now=some 1:=by
 unfold registry_Registry_Revoke_nil_g;rw[io_lt,io_lt];by_cases h1:now<1
 ·rw[qD h1];rfl
 ·rw[qE h1,cond_false,qA];cases decide (1000000000<now)<;>rfl
theorem ndo_eq (x:Op)(ho:OpOk x)(known:List ByteArray)(hk:KnownOk known):law32_do_nil_g x known=some (0,1):=by
 unfold law32_do_nil_g;rw[key_eq x ho,io_eqi,io_eqi,io_eqi];by_cases h0:x.Kind=0
 ·rw[qD h0];rfl
 ·rw[qE h0,cond_false];by_cases h2:x.Kind=2
  ·rw[qD h2,cond_true,nrevoke];rfl
  ·rw[qE h2,cond_false];by_cases h3:x.Kind=3
   ·rw[qD h3];rfl
   ·rw[qE h3,cond_false];show (Option.bind (law32_transfer_g x zeroT known) _)=_;rw[transfer_eq x _ known ho zero_tit hk];rfl
theorem nrdo_eq (x:Op)(ho:OpOk x)(known:List ByteArray)(hk:KnownOk known) :
  (bif (io.eq x.Kind 0) then (
   Option.bind (
    bif (io.seq x.Key (⟨#[]⟩)) then (
     Option.bind (ref02_Decimal_g x.At) fun v190 =>
     Option.bind (catG (⟨#[102,105,114,115,116,32]⟩) v190) fun _ =>
     Option.bind (law32_secret_g (io.cat (⟨#[102,105,114,115,116,32]⟩) v190)) fun v191 =>
     Option.bind (sign_Public_g v191) fun l192 =>
     some l192
    ) else (
     some x.Key
    )
    ) fun key189 =>
   Option.bind (ref32_Registry_Issue_nil_g x.At key189) fun v193 =>
   some (v193.1,v193.2)
  ) else (
   bif (io.eq x.Kind 2) then (
    Option.bind (ref32_Registry_Revoke_nil_g x.Serial x.At) fun f194 =>
    some (0,f194)
   ) else (
    bif (io.eq x.Kind 3) then (
     Option.bind (ref32_Registry_Move_nil_g x.Serial x.At) fun f195 =>
     some (0,f195)
    ) else (
     Option.bind (law32_transfer_g x zeroT known) fun v196 =>
     Option.bind (ref32_Registry_Pass_nil_g x.Serial v196) fun f197 =>
     some (0,f197)
    )
   )
  ))=some (0,1):=by
 rw[key_eq x ho,io_eqi,io_eqi,io_eqi];by_cases h0:x.Kind=0
 ·rw[qD h0];rfl
 ·rw[qE h0,cond_false];by_cases h2:x.Kind=2
  ·rw[qD h2];rfl
  ·rw[qE h2,cond_false];by_cases h3:x.Kind=3
   ·rw[qD h3];rfl
   ·rw[qE h3,cond_false,transfer_eq x _ known ho zero_tit hk];rfl
theorem nmatch_loop (sh:Int)(l:List Op)(hl:l.length≤16)(hok:∀ x∈l,OpOk x)(known:List ByteArray)(hk:KnownOk known) :
  whileG (law32_RegistryMatchesReference_l26 l known sh) 0=some (.inl ()):=by
 have hlw:io.len (W eOp l)=(l.length:Int):=io_len ..;have hin:whileG (law32_RegistryMatchesReference_l28 l sh) 1=some (.inl ()):=loop_one (step:=law32_RegistryMatchesReference_l28 l sh) l.length _ (fun k hk=>by
  have c1:((k+1:Nat):Int)≤(l.length:Int):=by omega
  unfold law32_RegistryMatchesReference_l28;dsimp only;have hs:ref30_Same_g (Title.mk 0 0 0 (⟨#[]⟩) []) (Title.mk 0 0 0 (⟨#[]⟩) [])=some true:=same_refl zeroT zero_small;rw[hlw,io_le,qD c1,cond_true,ntitle,nrtitle,up_one k (by omega)];unfold zeroT;simp only[qA,io_not,io_eqi,decide_true,Bool.not_true,cond_false,hs]) (by
  have c1:¬ ((l.length+1:Nat):Int)≤(l.length:Int):=by omega
  unfold law32_RegistryMatchesReference_l28;dsimp only;rw[hlw,io_le,qE c1,cond_false])
 refine loop_nat (step:=law32_RegistryMatchesReference_l26 l known sh) l.length _ (fun k hk1=>?_) ?_
 ·have hx:l[k]?=some l[k]:=qK hk1;have hxo:=hok _ (List.getElem_mem hk1);have c1:(k:Int)<(l.length:Int):=by omega
  generalize l[k]=x at hx hxo;have hr:=nrdo_eq x hxo known hk;have hi:ref11_Ints_g [] []=some true:=ints_refl _ (by decide);have hn:registry_Registry_Revoked_nil_g=some []:=rfl;have hn2:ref32_Registry_Revoked_nil_g=some []:=rfl;have ha:∀ p,registry_Registry_At_nil_g p=some 0:=fun p=>rfl
  have ha2:∀ p,ref32_Registry_At_nil_g p=some 0:=fun p=>rfl
  unfold law32_RegistryMatchesReference_l26;dsimp only;rw[hlw,io_lt,qD c1,cond_true,idxG_some hx,qA,ntitle,qA,qA,ndo_eq x hxo known hk,qA,qA];dsimp only;have hr:=hr;unfold zeroT at hr ⊢;dsimp only;rw[hr,qA];dsimp only;rw[io_not,io_eqi,qD rfl,Bool.not_true,cond_false,io_not,io_eqi,qD rfl,Bool.not_true,cond_false,hn,qA,hn2,qA,hi,qA,io_not,Bool.not_true,cond_false,
   ha,qA,ha2,qA,io_not,io_eqi,qD rfl,Bool.not_true,qA,cond_false,hin,orR_l,io_add,wr_up (k:=k) (by omega)]
 ·have c1:¬ (l.length:Int)<(l.length:Int):=by omega
  unfold law32_RegistryMatchesReference_l26;dsimp only;rw[hlw,io_lt,qE c1,cond_false]
theorem matches_eq (sh pl:Int)(l:List Op)(hl:l.length≤maxLen)(hi:∀ y∈l,OpIn y):law32_RegistryMatchesReference_g sh pl l=some true:=by
 unfold law32_RegistryMatchesReference_g;rw[head_eq,qA,few_eq l hl,qA,io_not]
 cases hf:fewS l with
 | false=>rfl
 | true =>
  obtain⟨hlen,hok⟩:=few_ops hf hi;have hkn:=known_ok hlen hok;rw[Bool.not_true,cond_false,rnew_new];by_cases hc:0≤sh∧sh<20∧0≤pl∧pl≤4000
  ·obtain⟨s0,s1,p0,p1⟩:=hc;rw[new_eq s0 s1 p0 p1];show (Option.bind (bif (io.beq true false false) then some true else some (io.lt 50 pl)) _)=_;rw[io_bne,io_lt];by_cases h50:50<pl
   ·rw[qD h50];show some (io.beq false false false)=_;rw[io_beq];rfl
   ·rw[qE h50];show (Option.bind (law32_secrets_g l) _)=_;rw[secrets_eq l hlen hok,qA,match_loop s0 s1 p0 p1 l hlen hok _ hkn];rfl
  ·rw[new_no hc];show (Option.bind (bif (io.beq true true true) then some true else some (io.lt 50 pl)) _)=_;rw[io_bne,io_lt];by_cases h50:50<pl
   ·rw[qD h50];show some (io.beq false true true)=_;rw[io_beq];rfl
   ·rw[qE h50];show (Option.bind (law32_secrets_g l) _)=_;rw[secrets_eq l hlen hok,qA,nmatch_loop sh l hlen hok _ hkn];rfl
end Go.SX.Rg
