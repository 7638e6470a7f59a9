/- Parts of the proof. -/
import Derived.Test.YtlpempbeenpilaaGreatDoorZRgP1
import Derived.Test.YtlpempbeenpilaaGreatDoorZRgH9
import Derived.Test.YtlpempbeenpilaaGreatDoorZRg30d
import Derived.Test.YtlpempbeenpilaaGreatDoorZRg44d
import Derived.Test.YtlpempbeenpilaaGreatDoorZRg17d
import Derived.Test.YtlpempbeenpilaaGreatDoorZRg65
import Derived.Test.YtlpempbeenpilaaGreatDoorZRg46d
import Derived.Test.YtlpempbeenpilaaGreatDoorZRg33d
set_option linter.unusedSimpArgs false
set_option linter.unusedVariables false
set_option linter.unusedSectionVars false
set_option linter.unusedVariables false
namespace Go.SX.Rg
open Go Go.SX
theorem orR_l {τ ρ:Type}(x:τ)(k:τ→Option ρ):orR (some (.inl x)) k=k x:=rfl
theorem orR_r {τ ρ:Type}(x:ρ)(k:τ→Option ρ):orR (some (.inr x)) k=some x:=rfl
def endS (m:ByteArray)(sig:List ByteArray)(i:Nat):ByteArray:=chainS (sig.getD i ⟨#[]⟩) (15 - dgN m i)
def verifyS (p m:ByteArray)(sig:List ByteArray):Bool:=decide (sig.length=18)&&(sig.all isS&&decide (listS ((List.range 18).map (endS m sig))=p))
theorem ends_list (f:Nat→ByteArray)(h:∀ i,i<18→(f i).size=16):room ((List.range 18).map f)≤140737488355328:=by
 rw[ends_room]
 ·rw[qO,List.length_range];omega
 ·intro x hx;obtain⟨i,hi,rfl⟩:=List.mem_map.1 hx;exact h i (List.mem_range.1 hi)
theorem endS_size {m:ByteArray}{sig:List ByteArray}(hl:sig.length=18)(h:sig.all isS=true){i:Nat}(hi:i<18):(endS m sig i).size=16:=by
 unfold endS;refine isS_size (chainS_is _ _ ?_);rw[qY,qK (by omega)];exact qL.1 h _ (List.getElem_mem _)
theorem range_snoc (f:Nat→ByteArray)(k:Nat):(List.range (k+1)).map f=(List.range k).map f++[f k]:=by rw[List.range_succ,List.map_append];rfl
theorem sig_loop {step:(List ByteArray×Int)→Option ((List ByteArray×Int) ⊕ (List ByteArray ⊕ Bool))}(m:ByteArray)(sig:List ByteArray)(hl:sig.length=18)
  (hy:∀ (k:Nat) x,k<18→sig[k]?=some x→isS x=true→step ((List.range k).map (endS m sig),(k:Int))=some (.inl ((List.range (k+1)).map (endS m sig),((k+1:Nat):Int))))
  (hn:∀ (k:Nat) x,k<18→sig[k]?=some x→isS x=false→step ((List.range k).map (endS m sig),(k:Int))=some (.inr (.inr false)))
  (he:∀ s,step (s,((18:Nat):Int))=some (.inr (.inl s))) :
  whileG step ([],0)=some (if sig.all isS then .inl ((List.range 18).map (endS m sig)) else .inr false):=by
 obtain⟨t,h1,rfl⟩:=loop_up (step:=step) (fun s i=>(s,i)) 18 (fun k s=>s=(List.range k).map (endS m sig)∧∀ (j:Nat) x,j<k→sig[j]?=some x→isS x=true)
  (fun t=>t=if sig.all isS then .inl ((List.range 18).map (endS m sig)) else .inr false)
  (fun k s hk hI=>by
   obtain⟨rfl,hI⟩:=hI;have hx:sig[k]?=some (sig[k]'(by omega)):=qK _
   cases hc:isS (sig[k]'(by omega)) with
   | true =>
    refine .inl ⟨_,hy k _ hk hx hc,rfl,fun j x hj hjx=>?_⟩;by_cases hjk:j=k
    ·subst hjk;rw[hx] at hjx;cases hjx;exact hc
    ·exact hI j x (by omega) hjx
   | false =>
    refine .inr ⟨_,hn k _ hk hx hc,?_⟩;rw[if_neg];intro h;have:=qL.1 h _ (List.getElem_mem (by omega:k<sig.length));rw[hc] at this;cases this)
  (fun s hI=>by
   obtain⟨rfl,hI⟩:=hI;refine⟨_,he _,?_⟩;rw[if_pos];rw[qL];intro x hx;obtain⟨j,hj⟩:=List.getElem?_of_mem hx;exact hI j x (by have:=(qC.1 hj).1;omega) hj) [] ⟨rfl,fun j x hj=>by omega⟩
 exact h1
theorem verify_eq (p m:ByteArray)(sig:List ByteArray)(hm:m.size<4611686018427387904):sign_Verify_g p m sig=some (verifyS p m sig):=by
 unfold sign_Verify_g verifyS;rw[io_not,io_eqi,io_len];by_cases hl:sig.length=18
 ·have hl':(sig.length:Int)=18:=by omega
  rw[qD hl',qD hl,Bool.true_and,Bool.not_true,cond_false,digits_eq2 m hm,qA];have hc:∀ k:Nat,k<18→io.ar .sub .i64 15 ((dgA (sumS m)).get k)=((15 - dgN m k:Nat):Int):=fun k hk=>by
   have:=dgN_lt m k;rw[dgA_get m hk,io_subi,wr64 (by omega) (by omega)];omega
  rw[sig_loop (step:=sign_Verify_l2 sig (dgA (sumS m))) m sig hl (fun k x hk hx hi=>by
   have h1:(k:Int)<(sig.length:Int):=by omega
   have hch:digest_Chain_g x (io.ar .sub .i64 15 ((dgA (sumS m)).get k))=some (endS m sig k):=by
    rw[hc k hk,chain_eq _ _ (by rw[isS_size hi];decide)];unfold endS;rw[qY,hx,Option.getD_some];congr 2;omega
   unfold sign_Verify_l2;simp only[io_lt,io_len,qD h1,cond_true,idxG_some hx,qA,digest_Is_eq,hi,io_not,Bool.not_true,cond_false,pixG_some hk,hch];rw[appG_some (by simp only[qO,List.length_range,qV,List.length_nil];omega),range_snoc,io_add,wr_up (k:=k) (by omega)];rfl) (fun k x hk hx hi=>by
   have h1:(k:Int)<(sig.length:Int):=by omega
   unfold sign_Verify_l2;simp only[io_lt,io_len,qD h1,cond_true,idxG_some hx,qA,digest_Is_eq,hi,io_not,Bool.not_false];rfl) (fun s=>by
   have h1:¬ ((18:Nat):Int)<(sig.length:Int):=by omega
   unfold sign_Verify_l2;simp only[io_lt,io_len,qE h1,cond_false])]
  cases ha:sig.all isS with
  | false=>rw[if_neg (by decide),orR_r,Bool.false_and]
  | true =>
   rw[if_pos rfl,Bool.true_and,orR_l];rw[list_eq _ (room_ok (ends_list _ fun i hi=>endS_size hl ha hi)),qA,seq_dec]
 ·have hl':¬ (sig.length:Int)=18:=by omega
  rw[qE hl',qE hl,Bool.false_and,Bool.not_false,cond_true]
theorem rverify_eq (p m:ByteArray)(sig:List ByteArray)(hm:m.size<4611686018427387904):ref03_Verify_g p m sig=some (verifyS p m sig):=by
 unfold ref03_Verify_g verifyS;rw[io_not,io_eqi,io_len];by_cases hl:sig.length=18
 ·have hl':(sig.length:Int)=18:=by omega
  rw[qD hl',qD hl,Bool.true_and,Bool.not_true,cond_false,ref02_Sum_eq m hm,qA,rdigits_eq,qA];have hc:∀ k:Nat,k<18→io.ar .sub .i64 15 ((dgN m k:Nat):Int)=((15 - dgN m k:Nat):Int):=fun k hk=>by
   have:=dgN_lt m k;rw[io_subi,wr64 (by omega) (by omega)];omega
  have hd:∀ k:Nat,k<18→idxG ((List.range 18).map fun k=>((dgN m k:Nat):Int)) (k:Int)=some ((dgN m k:Nat):Int):=fun k hk=>by
   refine idxG_some ?_;rw[qI,List.getElem?_range hk,qS]
  generalize ((List.range 18).map fun k=>((dgN m k:Nat):Int))=dg at hd;rw[sig_loop (step:=ref03_Verify_l2 sig dg) m sig hl (fun k x hk hx hi=>by
   have h1:(k:Int)<18:=by omega
   have hch:ref02_Chain_g x (io.ar .sub .i64 15 ((dgN m k:Nat):Int))=some (endS m sig k):=by
    rw[hc k hk,rchain_eq _ _ (by rw[isS_size hi];decide)];unfold endS;rw[qY,hx,Option.getD_some];congr 2;omega
   unfold ref03_Verify_l2;simp only[io_lt,qD h1,cond_true,idxG_some hx,qA,ref02_Is_eq,hi,io_not,Bool.not_true,cond_false,hd k hk,hch];rw[appG_some (by simp only[qO,List.length_range,qV,List.length_nil];omega),range_snoc,io_add,wr_up (k:=k) (by omega)];rfl) (fun k x hk hx hi=>by
   have h1:(k:Int)<18:=by omega
   unfold ref03_Verify_l2;simp only[io_lt,qD h1,cond_true,idxG_some hx,qA,ref02_Is_eq,hi,io_not,Bool.not_false]) (fun s=>by
   have h1:¬ ((18:Nat):Int)<18:=by omega
   unfold ref03_Verify_l2;simp only[io_lt,qE h1,cond_false])]
  cases ha:sig.all isS with
  | false=>rw[if_neg (by decide),orR_r,Bool.false_and]
  | true =>
   rw[if_pos rfl,Bool.true_and,orR_l,ref02_List_eq _ (ends_list _ fun i hi=>endS_size hl ha hi),qA,seq_dec]
 ·have hl':¬ (sig.length:Int)=18:=by omega
  rw[qE hl',qE hl,Bool.false_and,Bool.not_false,cond_true]
theorem verify_sign (s m:ByteArray):verifyS (publicS s) m (signS s m)=true:=by
 have h18:(signS s m).length=18:=by unfold signS;rw[qO,List.length_range]
 have hall:(signS s m).all isS=true:=by
  rw[qL];intro x hx;unfold signS at hx;obtain⟨i,hi,rfl⟩:=List.mem_map.1 hx;exact chainS_is _ _ (listS_is _)
 have he:(List.range 18).map (endS m (signS s m))=(List.range 18).map fun i=>chainS (startS s i) 15:=by
  refine List.map_congr_left fun i hi=>?_
  have hi:=List.mem_range.1 hi;have:=dgN_lt m i;unfold endS signS;rw[qY,qI,List.getElem?_range hi,qS,Option.getD_some,chainS_add,show dgN m i+(15 - dgN m i)=15 by omega]
 unfold verifyS;rw[qD h18,hall,he,publicS,qD rfl];rfl
theorem signS_len (s m:ByteArray):(signS s m).length=18:=by unfold signS;rw[qO,List.length_range]
theorem signS_is (s m:ByteArray):(signS s m).all isS=true:=by
 rw[qL];intro x hx;unfold signS at hx;obtain⟨i,hi,rfl⟩:=List.mem_map.1 hx;exact chainS_is _ _ (listS_is _)
def trS (x:Transfer):Bool:=decide (x.Sig.length=18)&&(isS x.To&&x.Sig.all isS)
def formedS (t:Title):Bool :=
 decide (0≤t.Show)&&(decide (t.Show<20)&&(decide (1≤t.Serial - (t.Show+1) * 10000)&&(decide (t.Serial - (t.Show+1) * 10000≤9999) &&
  (decide (-1≤t.Place)&&(decide (t.Place<4000)&&(isS t.First&&(decide (t.Chain.length≤50)&&t.Chain.all trS)))))))
theorem lt_not (a b:Int):decide (a<b)=!decide (b≤a):=by
 by_cases h:a<b
 ·rw[qD h,qE (by omega)];rfl
 ·rw[qE h,qD (by omega)];rfl
theorem le_not (a b:Int):decide (a≤b)=!decide (b<a):=by
 by_cases h:a≤b
 ·rw[qD h,qE (by omega)];rfl
 ·rw[qE h,qD (by omega)];rfl
theorem eight {a1 a2 a3 a4 a5 a6 a7 a8 z:Bool}{A:Option (Unit ⊕ Bool)}(hA:a1=true→a2=true→a8=true→A=some (if z then .inl () else .inr false)) :
  (Option.bind (bif !a1 then some true else bif !a2 then some true else bif !a3 then some true else bif !a4 then some true else bif !a5 then some true else bif !a6 then some true else Option.bind (some a7) fun v2=>bif !v2 then some true else some (!a8)) fun v1 =>
   bif v1 then some false else orR A fun _=>some true)=some (a1&&(a2&&(a3&&(a4&&(a5&&(a6&&(a7&&(a8&&z)))))))):=by
 cases a1
 ·rfl
 cases a2
 ·rfl
 cases a3
 ·rfl
 cases a4
 ·rfl
 cases a5
 ·rfl
 cases a6
 ·rfl
 cases a7
 ·rfl
 cases a8
 ·rfl
 rw[hA rfl rfl rfl];cases z<;>rfl
theorem ser_sub (t:Title)(h0:0≤t.Show)(h1:t.Show<20)(s0:0≤t.Serial)(s1:t.Serial≤1000000000):io.ar .sub .i64 t.Serial (io.ar .mul .i64 (io.ar .add .i64 t.Show 1) 10000)=t.Serial - (t.Show+1) * 10000:=by
 rw[io_add,wr64 (by omega) (by omega),io_mul,wr64 (by omega) (by omega),io_subi,wr64 (by omega) (by omega)]
theorem two_first {a1 a2:Bool}{A A':Option Bool}{B:Bool→Option Bool}(h:a1=true→a2=true→A=A') :
  (Option.bind (bif !a1 then some true else bif !a2 then some true else A) B)=(Option.bind (bif !a1 then some true else bif !a2 then some true else A') B):=by
 cases a1
 ·rfl
 cases a2
 ·rfl
 rw[h rfl rfl]
theorem sigs_loop (x:Transfer)(h:x.Sig.length≤1000000):whileG (title_formed_l26 x) 0=some (if x.Sig.any (fun s=>!isS s) then .inr true else .inl ():Unit ⊕ Bool) :=
 loop_any (step:=title_formed_l26 x) x.Sig (fun s=>!isS s) (.inr true) (.inl ()) (fun k s hs=>by
  have hk:=(qC.1 hs).1;have h1:(k:Int)<(x.Sig.length:Int):=by omega
  have h2:(0:Int)≤(k:Int):=by omega
  unfold title_formed_l26;simp only[io_lt,io_len,io_le,qD h1,cond_true,idxG_some hs,qA,digest_Is_eq,io_not,qD h2,io_add,wr_up (k:=k) (by omega)];cases isS s<;>rfl) (by
  have h1:¬ (x.Sig.length:Int)<(x.Sig.length:Int):=by omega
  unfold title_formed_l26;simp only[io_lt,io_len,qE h1,cond_false])
theorem any_not (l:List ByteArray):(l.any fun s=>!isS s)=!(l.all isS):=by
 rw[List.any_eq_not_all_not];simp only[Bool.not_not]
theorem formed_loop (t:Title)(h:t.Chain.length≤1000000):whileG (title_formed_l22 t) 0=some (if t.Chain.any (fun x=>!trS x) then .inr false else .inl ():Unit ⊕ Bool) :=
 loop_any (step:=title_formed_l22 t) t.Chain (fun x=>!trS x) (.inr false) (.inl ()) (fun k x hx=>by
  have hk:=(qC.1 hx).1;have h1:(k:Int)<(t.Chain.length:Int):=by omega
  unfold title_formed_l22;simp only[io_lt,io_len,qD h1,cond_true,idxG_some hx,qA,io_not,io_eqi,digest_Is_eq,io_add,wr_up (k:=k) (by omega),io_le];unfold trS;by_cases hl:x.Sig.length=18
  ·have hl':(x.Sig.length:Int)=18:=by omega
   rw[qD hl',qD hl,sigs_loop x (by omega),any_not];cases isS x.To
   ·rfl
   ·cases x.Sig.all isS<;>rfl
  ·have hl':¬ (x.Sig.length:Int)=18:=by omega
   rw[qE hl',qE hl];rfl) (by
  have h1:¬ (t.Chain.length:Int)<(t.Chain.length:Int):=by omega
  unfold title_formed_l22;simp only[io_lt,io_len,qE h1,cond_false])
theorem any_notT (l:List Transfer):(l.any fun s=>!trS s)=!(l.all trS):=by
 rw[List.any_eq_not_all_not];simp only[Bool.not_not]
theorem le50 (n:Nat):decide ((50:Int)<(n:Int))=!decide (n≤50):=by
 by_cases h:n≤50
 ·rw[qD h,qE (by omega)];rfl
 ·rw[qE h,qD (by omega)];rfl
theorem formed_eq (t:Title)(s0:0≤t.Serial)(s1:t.Serial≤1000000000):title_formed_g t=some (formedS t):=by
 unfold title_formed_g formedS;simp only[io_lt,io_le,io_len];rw[lt_not t.Show 0,le_not 20 t.Show,lt_not t.Place (-1),le_not 4000 t.Place,le50];rw[two_first (fun h0 h1=>by
  rw[ser_sub t (of_decide_eq_true h0) (of_decide_eq_true h1) s0 s1])]
 rw[lt_not _ 1,lt_not 9999];simp only[digest_Is_eq,io_not];refine eight fun _ _ h8=>?_
 rw[formed_loop t (by have:=of_decide_eq_true h8;omega),any_notT];cases t.Chain.all trS<;>rfl
theorem rsigs_loop (t:Title)(i:Nat)(x:Transfer)(hx:t.Chain[i]?=some x)(hl:x.Sig.length=18):whileG (ref30_Formed_l14 t (i:Int)) 0=some (if x.Sig.any (fun s=>!isS s) then .inr (.inr (.inr false)) else .inl ():Unit ⊕ (Int ⊕ (Unit ⊕ Bool))) :=
 loop_any (step:=ref30_Formed_l14 t (i:Int)) x.Sig (fun s=>!isS s) (.inr (.inr (.inr false))) (.inl ()) (fun k s hs=>by
  have hk:=(qC.1 hs).1;have h1:(k:Int)<18:=by omega
  unfold ref30_Formed_l14;simp only[io_lt,qD h1,cond_true,idxG_some hx,idxG_some hs,qA,ref02_Is_eq,io_not,io_add,wr_up (k:=k) (by omega)];cases isS s<;>rfl) (by
  have h1:¬ (x.Sig.length:Int)<18:=by omega
  unfold ref30_Formed_l14;simp only[io_lt,qE h1,cond_false])
theorem rformed_loop (t:Title)(h:t.Chain.length≤1000000):whileG (ref30_Formed_l12 t) 0=some (if t.Chain.any (fun x=>!trS x) then .inr false else .inl ():Unit ⊕ Bool) :=
 loop_any (step:=ref30_Formed_l12 t) t.Chain (fun x=>!trS x) (.inr false) (.inl ()) (fun k x hx=>by
  have hk:=(qC.1 hx).1;have h1:(k:Int)<(t.Chain.length:Int):=by omega
  unfold ref30_Formed_l12;simp only[io_lt,io_len,qD h1,cond_true,idxG_some hx,qA,io_not,io_eqi,ref02_Is_eq,io_add,wr_up (k:=k) (by omega)];unfold trS;by_cases hl:x.Sig.length=18
  ·have hl':(x.Sig.length:Int)=18:=by omega
   rw[qD hl',qD hl,rsigs_loop t k x hx hl,any_not];cases isS x.To
   ·rfl
   ·cases x.Sig.all isS<;>rfl
  ·have hl':¬ (x.Sig.length:Int)=18:=by omega
   rw[qE hl',qE hl];cases isS x.To<;>rfl) (by
  have h1:¬ (t.Chain.length:Int)<(t.Chain.length:Int):=by omega
  unfold ref30_Formed_l12;simp only[io_lt,io_len,qE h1,cond_false])
theorem rformed_eq (t:Title)(s0:0≤t.Serial)(s1:t.Serial≤1000000000):ref30_Formed_g t=some (formedS t):=by
 unfold ref30_Formed_g formedS;simp only[io_lt,io_le,io_len];rw[lt_not t.Show 0,le_not 20 t.Show,lt_not t.Place (-1),le_not 4000 t.Place,le50];rw[two_first (fun h0 h1=>by
  rw[ser_sub t (of_decide_eq_true h0) (of_decide_eq_true h1) s0 s1])]
 rw[lt_not _ 1,lt_not 9999];simp only[ref02_Is_eq,io_not];refine eight fun _ _ h8=>?_
 rw[rformed_loop t (by have:=of_decide_eq_true h8;omega),any_notT];cases t.Chain.all trS<;>rfl
def cutS (t:Title)(k:Nat):Title:={ t with Chain:=t.Chain.take k }
def stepS (t:Title)(x:Transfer):Bool:=!usedS t x.To&&verifyS (ownerS t) (msgS t x.To) x.Sig
def stepsS (t:Title):Bool:=(List.range t.Chain.length).all fun k=>match t.Chain[k]? with | some x=>stepS (cutS t k) x | none=>true
def validS (t:Title):Bool:=formedS t&&stepsS t
structure Formed (t:Title):Prop where
 h0:0≤t.Show
 h1:t.Show<20
 k0:1≤t.Serial - (t.Show+1) * 10000
 k1:t.Serial - (t.Show+1) * 10000≤9999
 p0:-1≤t.Place
 p1:t.Place<4000
 f:isS t.First=true
 n:t.Chain.length≤50
 c:t.Chain.all trS=true
theorem formedS_iff (t:Title):formedS t=true↔Formed t:=by
 unfold formedS;simp only[qJ,zB];exact⟨fun ⟨h1,h2,h3,h4,h5,h6,h7,h8,h9⟩=>⟨h1,h2,h3,h4,h5,h6,h7,h8,h9⟩,fun ⟨h1,h2,h3,h4,h5,h6,h7,h8,h9⟩=>⟨h1,h2,h3,h4,h5,h6,h7,h8,h9⟩⟩
theorem trS_to {x:Transfer}(h:trS x=true):isS x.To=true:=by
 unfold trS at h;simp only[qJ] at h;exact h.2.1
theorem Formed.msg {t:Title}(h:Formed t)(k:Nat)(to:ByteArray)(ht:to.size≤1000):MsgOk (cutS t k) to where
 s0:=by have:=h.h0;have:=h.k0;show 0≤t.Serial;omega
 s1:=by have:=h.h1;have:=h.k1;show t.Serial≤_;omega
 h0:=h.h0
 h1:=by have:=h.h1;show t.Show≤_;omega
 f:=by show t.First.size≤_;rw[isS_size h.f];decide
 c:=fun x hx=>by
  have hx:=List.mem_of_mem_take hx;rw[isS_size (trS_to (qL.1 h.c x hx))];decide
 n:=by have:=h.n;show (t.Chain.take k).length≤_;rw[qW];omega
 t:=ht
theorem cut_all (t:Title):cutS t t.Chain.length=t:=by
 unfold cutS;rw[List.take_length]
theorem msgS_size (t:Title)(to:ByteArray):(msgS t to).size=16:=sumS_size _
theorem step_eq {t:Title}(h:Formed t)(k:Nat)(x:Transfer)(hx:x.To.size≤1000):stepG (cutS t k) x=some (!stepS (cutS t k) x):=by
 have hn:=h.n;have hl:(cutS t k).Chain.length≤1000000:=by show (t.Chain.take k).length≤_;rw[qW];omega
 unfold stepG stepS;rw[used_eq _ _ hl,qA,owner_eq _ hl,msg_eq _ _ (h.msg k x.To hx),qA,qA,verify_eq _ _ _ (by rw[msgS_size];decide),qA,io_not];cases usedS (cutS t k) x.To
 ·rfl
 ·rfl
theorem allG_all2 {α:Type}(f:Nat→Option α)(g:Nat→α)(n:Nat)(h:∀ i,i<n→f i=some (g i)):allG f n=some ((List.range n).map g):=allG_all n h
theorem valid_eq (t:Title)(s0:0≤t.Serial)(s1:t.Serial≤1000000000):title_Valid_g t=some (validS t):=by
 unfold title_Valid_g validS;rw[formed_eq t s0 s1,qA]
 cases hf:formedS t with
 | false=>rfl
 | true =>
  have hF:=(formedS_iff t).1 hf;have hn:=hF.n
  rw[cond_true,if_pos (by omega),Bool.true_and,allG_all2 _ (fun k=>match t.Chain[k]? with | some x=>!stepS (cutS t k) x | none=>false) _ (fun k hk=>by
   rw[qK hk,qA];exact step_eq hF k _ (by rw[isS_size (trS_to (qL.1 hF.c _ (List.getElem_mem hk)))];decide)),qA]
  unfold stepsS;rw[List.all_map];congr 1;refine List.all_congr rfl fun k=>?_
  show (!(match t.Chain[k]? with | some x=>!stepS (cutS t k) x | none=>false))=_
  cases t.Chain[k]? with
  | none=>rfl
  | some x=>simp only[Bool.not_not]
theorem rvalid_loop {t:Title}(h:Formed t):whileG (ref30_Valid_l2 t) 0=some (if (List.range t.Chain.length).any (fun k=>match t.Chain[k]? with | some x=>!stepS (cutS t k) x | none=>false) then .inr false else .inl ():Unit ⊕ Bool) :=
 loop_all (step:=ref30_Valid_l2 t) t.Chain.length (fun k=>match t.Chain[k]? with | some x=>!stepS (cutS t k) x | none=>false) (.inr false) (.inl ()) (fun k hk=>by
  have hn:=h.n;have h1:(k:Int)<(t.Chain.length:Int):=by omega
  have hx:t.Chain[k]?=some t.Chain[k]:=qK hk;have hto:(t.Chain[k]).To.size≤1000:=by rw[isS_size (trS_to (qL.1 h.c _ (List.getElem_mem hk)))];decide
  have hcut:ref30_Cut_g t (k:Int)=some (cutS t k):=by
   unfold ref30_Cut_g subG;rw[if_pos ⟨by omega,by omega,by omega⟩,qA];rfl
  have hl:(cutS t k).Chain.length≤1000000:=by show (t.Chain.take k).length≤_;rw[qW];omega
  unfold ref30_Valid_l2;simp only[io_lt,io_len,qD h1,cond_true,hcut,idxG_some hx,qA,rused_eq _ _ hl,rowner_eq _ hl,rmsg_eq _ _ (h.msg k _ hto),rverify_eq _ _ _ (show (msgS (cutS t k) t.Chain[k].To).size<_ by rw[msgS_size];decide),io_not,io_add,wr_up (k:=k) (by omega)];rw[hx];show _=some (if (!stepS (cutS t k) t.Chain[k])=true then _ else _);unfold stepS;cases usedS (cutS t k) t.Chain[k].To
  ·cases verifyS (ownerS (cutS t k)) (msgS (cutS t k) t.Chain[k].To) t.Chain[k].Sig<;>rfl
  ·rfl) (by
  have h1:¬ (t.Chain.length:Int)<(t.Chain.length:Int):=by omega
  unfold ref30_Valid_l2;simp only[io_lt,io_len,qE h1,cond_false])
theorem rvalid_eq (t:Title)(s0:0≤t.Serial)(s1:t.Serial≤1000000000):ref30_Valid_g t=some (validS t):=by
 unfold ref30_Valid_g validS;rw[rformed_eq t s0 s1,qA,io_not]
 cases hf:formedS t with
 | false=>rfl
 | true =>
  have hF:=(formedS_iff t).1 hf;rw[Bool.not_true,cond_false,rvalid_loop hF,Bool.true_and]
  have e:(List.range t.Chain.length).any (fun k=>match t.Chain[k]? with | some x=>!stepS (cutS t k) x | none=>false)=!stepsS t:=by
   unfold stepsS;rw[List.any_eq_not_all_not];congr 1;refine List.all_congr rfl fun k=>?_
   cases t.Chain[k]? with
   | none=>rfl
   | some x=>simp only[Bool.not_not]
  rw[e];cases stepsS t<;>rfl
end Go.SX.Rg
set_option linter.unusedVariables false
namespace Go.SX.Rg
open Go Go.SX
theorem any_false {α:Type}(l:List α):(l.any fun _=>false)=false:=by
 rw[List.any_eq_false];intro x _
 decide
theorem ints_refl (a:List Int)(h:a.length≤1000000):ref11_Ints_g a a=some true:=by
 unfold ref11_Ints_g;rw[io_not,io_eqi,qD rfl,Bool.not_true,cond_false];rw[loop_any (step:=ref11_Ints_l2 a a) a (fun _=>false) (.inr false) (.inl ()) (fun k x hx=>by
  have hk:=(qC.1 hx).1;have h1:(k:Int)<(a.length:Int):=by omega
  unfold ref11_Ints_l2;simp only[io_lt,io_len,qD h1,cond_true,idxG_some hx,qA,io_not,io_eqi,decide_true,Bool.not_true,cond_false,io_add,wr_up (k:=k) (by omega)];rfl) (by
  have h1:¬ (a.length:Int)<(a.length:Int):=by omega
  unfold ref11_Ints_l2;simp only[io_lt,io_len,qE h1,cond_false]),any_false]
 rfl
theorem sigs_refl (a:List ByteArray)(h:a.length≤1000000):ref03_Same_g a a=some true:=by
 unfold ref03_Same_g;rw[io_not,io_eqi,qD rfl,Bool.not_true,cond_false];rw[loop_any (step:=ref03_Same_l2 a a) a (fun _=>false) (.inr false) (.inl ()) (fun k x hx=>by
  have hk:=(qC.1 hx).1;have h1:(k:Int)<(a.length:Int):=by omega
  unfold ref03_Same_l2;simp only[io_lt,io_len,qD h1,cond_true,idxG_some hx,qA,io_not,seq_dec,decide_true,Bool.not_true,cond_false,io_add,wr_up (k:=k) (by omega)];rfl) (by
  have h1:¬ (a.length:Int)<(a.length:Int):=by omega
  unfold ref03_Same_l2;simp only[io_lt,io_len,qE h1,cond_false]),any_false]
 rfl
def SmallT (t:Title):Prop:=t.Chain.length≤1000000∧∀ x∈t.Chain,x.Sig.length≤1000000
theorem ext_refl (s1 h1 p1 p2:Int)(f:ByteArray)(c:List Transfer)(h:SmallT ⟨s1,h1,p1,f,c⟩):ref30_Extends_g ⟨s1,h1,p1,f,c⟩ ⟨s1,h1,p2,f,c⟩=some true:=by
 obtain⟨hl,hs⟩:=h;dsimp only at hl hs;unfold ref30_Extends_g;have hlt:¬ (c.length:Int)<(c.length:Int):=by omega
 simp only[io_not,io_eqi,seq_dec,decide_true,Bool.not_true,cond_false,qA,io_lt,io_len,qE hlt];rw[loop_any (step:=ref30_Extends_l2 ⟨s1,h1,p2,f,c⟩ ⟨s1,h1,p1,f,c⟩) c (fun _=>false) (.inr false) (.inl ()) (fun k x hx=>by
  have hk:=(qC.1 hx).1;have h1:(k:Int)<(c.length:Int):=by omega
  unfold ref30_Extends_l2;simp only[io_lt,io_len,qD h1,cond_true,idxG_some hx,qA,io_not,seq_dec,decide_true,Bool.not_true,cond_false,sigs_refl x.Sig (hs x (qU hx)),io_add,wr_up (k:=k) (by omega)];rfl) (by
  unfold ref30_Extends_l2;simp only[io_lt,io_len,qE hlt,cond_false]),any_false]
 rfl
theorem same_refl (t:Title)(h:SmallT t):ref30_Same_g t t=some true:=by
 obtain⟨s1,h1,p1,f,c⟩:=t;unfold ref30_Same_g;rw[ext_refl _ _ _ _ _ _ h,qA,cond_true,qA,cond_true,io_eqi,qD rfl]
theorem Formed.small {t:Title}(h:Formed t):SmallT t:=by
 refine⟨by have:=h.n;omega,fun x hx=>?_⟩;have:=qL.1 h.c x hx;unfold trS at this;simp only[qJ,zB] at this;rw[this.1];decide
def zeroT : Title:=Title.mk 0 0 0 (⟨#[]⟩) []
theorem zero_small : SmallT zeroT:=⟨Nat.zero_le _,fun x hx=>by cases hx⟩
theorem valid_formed {t:Title}(h:validS t=true):Formed t:=by
 unfold validS at h;rw[qJ] at h;exact(formedS_iff t).1 h.1
def baseS (sh:Int):Int:=(sh+1) * 10000+1
def ttlF : Int→List Entry→List (Int×Entry)
 | _,[]=>[]
 | b,e::l=>(b,e)::ttlF (b+1) l
theorem ttlF_len : ∀ (l:List Entry)(b:Int),(ttlF b l).length=l.length
 | [],_=>rfl
 | e::l,b=>by unfold ttlF;rw[qV,ttlF_len l,qV]
theorem ttlF_lt : ∀ (l:List Entry)(b s:Int),s<b→mlook (ttlF b l) s=none
 | [],_,_,_=>rfl
 | e::l,b,s,h=>by unfold ttlF mlook;rw[if_neg (by omega),ttlF_lt l _ _ (by omega)]
theorem ttlF_at : ∀ (l:List Entry)(b:Int)(i:Nat),mlook (ttlF b l) (b+i)=l[i]?
 | [],_,_=>rfl
 | e::l,b,0=>by unfold ttlF mlook;rw[if_pos (by omega)];rfl
 | e::l,b,i+1=>by
  unfold ttlF mlook;rw[if_neg (by omega),show b+((i+1:Nat):Int)=(b+1)+(i:Int) by omega,ttlF_at l];rfl
def lookS (b:Int)(l:List Entry)(s:Int):Option Entry:=if b≤s then l[(s - b).toNat]? else none
theorem lookS_at (b:Int)(l:List Entry)(i:Nat):lookS b l (b+i)=l[i]?:=by
 unfold lookS;rw[if_pos (by omega),show (b+(i:Int) - b).toNat=i by omega]
theorem lookS_some {b:Int}{l:List Entry}{s:Int}{e:Entry}(h:lookS b l s=some e):∃ i:Nat,s=b+i∧l[i]?=some e:=by
 unfold lookS at h;split at h
 ·exact⟨(s - b).toNat,by omega,h⟩
 ·cases h
theorem look_eq (b:Int)(l:List Entry)(s:Int):mlook (ttlF b l) s=lookS b l s:=by
 by_cases h:b≤s
 ·obtain⟨i,rfl⟩:∃ i:Nat,s=b+i:=⟨(s - b).toNat,by omega⟩;rw[ttlF_at,lookS_at]
 ·rw[ttlF_lt _ _ _ (by omega)];unfold lookS;rw[if_neg h]
theorem ttlF_set : ∀ (l:List Entry)(b:Int)(i:Nat)(e:Entry),i<l.length→mputG (ttlF b l) (b+i) e=ttlF b (l.set i e)
 | [],_,_,_,h=>by simp at h
 | x::l,b,0,e,_=>by unfold ttlF mputG;rw[if_pos (by omega)];simp[ttlF]
 | x::l,b,i+1,e,h=>by
  have ih:=ttlF_set l (b+1) i e (by simpa using h);unfold ttlF mputG;rw[if_neg (by omega),show b+((i+1:Nat):Int)=(b+1)+(i:Int) by omega,ih];rfl
theorem ttlF_app : ∀ (l:List Entry)(b:Int)(e:Entry),mputG (ttlF b l) (b+l.length) e=ttlF b (l++[e])
 | [],b,e=>by simp[ttlF,mputG]
 | x::l,b,e=>by
  have ih:=ttlF_app l (b+1) e;unfold ttlF mputG;rw[if_neg (by rw[qV];omega),show b+(((x::l).length:Nat):Int)=(b+1)+(l.length:Int) by rw[qV];omega,ih];rfl
section maps
variable {α:Type}
theorem mlook_none : ∀ (m:List (Int×α))(k:Int),k ∉ m.map (·.1)→mlook m k=none
 | [],_,_=>rfl
 | (k',v)::m,k,h=>by
  rw[qR,List.mem_cons,not_or] at h;unfold mlook;rw[if_neg h.1,mlook_none m k h.2]
theorem mlook_put : ∀ (m:List (Int×α))(k:Int)(v:α)(q:Int),mlook (mputG m k v) q=if q=k then some v else mlook m q
 | [],k,v,q=>by unfold mputG mlook mlook;rfl
 | (k',v')::m,k,v,q=>by
  unfold mputG;by_cases h:k=k'
  ·rw[if_pos h];unfold mlook;subst h;by_cases hq:q=k
   ·rw[if_pos hq,if_pos hq]
   ·rw[if_neg hq,if_neg hq,if_neg hq]
  ·rw[if_neg h];unfold mlook;by_cases hq:q=k'
   ·rw[if_pos hq,if_neg (by omega),if_pos hq]
   ·rw[if_neg hq,mlook_put m k v q,if_neg hq]
theorem mput_keys : ∀ (m:List (Int×α))(k:Int)(v:α)(q:Int),q∈(mputG m k v).map (·.1)→q=k∨q∈m.map (·.1)
 | [],k,v,q,h=>by unfold mputG at h;simpa using h
 | (k',v')::m,k,v,q,h=>by
  unfold mputG at h;split at h
  ·rename_i hk;rw[qR,List.mem_cons] at h ⊢;rcases h with h | h
   ·exact .inl h
   ·exact .inr (.inr h)
  ·rw[qR,List.mem_cons] at h ⊢;rcases h with h | h
   ·exact .inr (.inl h)
   ·rcases mput_keys m k v q h with h | h
    ·exact .inl h
    ·exact .inr (.inr h)
theorem mput_nd : ∀ (m:List (Int×α))(k:Int)(v:α),(m.map (·.1)).Nodup→((mputG m k v).map (·.1)).Nodup
 | [],k,v,_=>by unfold mputG;simp
 | (k',v')::m,k,v,h=>by
  rw[qR,List.nodup_cons] at h;unfold mputG;split
  ·rename_i hk;rw[qR,List.nodup_cons];exact⟨by rw[hk];exact h.1,h.2⟩
  ·rename_i hk;rw[qR,List.nodup_cons];refine⟨fun hc=>?_,mput_nd m k v h.2⟩;rcases mput_keys m k v _ hc with hc | hc
   ·exact hk hc.symm
   ·exact h.1 hc
theorem mlook_del : ∀ (m:List (Int×α))(k q:Int),(m.map (·.1)).Nodup→mlook (mdelG m k) q=if q=k then none else mlook m q
 | [],k,q,_=>by unfold mdelG mlook;split<;>rfl
 | (k',v')::m,k,q,h=>by
  rw[qR,List.nodup_cons] at h;unfold mdelG;by_cases hk:k=k'
  ·rw[if_pos hk];by_cases hq:q=k
   ·rw[if_pos hq,hq,hk];exact mlook_none _ _ h.1
   ·rw[if_neg hq]
    conv=>rhs;unfold mlook
    rw[if_neg (by omega)]
  ·rw[if_neg hk];unfold mlook;by_cases hq:q=k'
   ·rw[if_pos hq,if_neg (by omega),if_pos hq]
   ·rw[if_neg hq,mlook_del m k q h.2,if_neg hq]
theorem mdel_keys : ∀ (m:List (Int×α))(k q:Int),q∈(mdelG m k).map (·.1)→q∈m.map (·.1)
 | [],k,q,h=>by unfold mdelG at h;exact h
 | (k',v')::m,k,q,h=>by
  unfold mdelG at h;split at h
  ·rw[qR,List.mem_cons];exact .inr h
  ·rw[qR,List.mem_cons] at h ⊢;rcases h with h | h
   ·exact .inl h
   ·exact .inr (mdel_keys m k q h)
theorem mdel_nd : ∀ (m:List (Int×α))(k:Int),(m.map (·.1)).Nodup→((mdelG m k).map (·.1)).Nodup
 | [],k,_=>by unfold mdelG;simp
 | (k',v')::m,k,h=>by
  rw[qR,List.nodup_cons] at h;unfold mdelG;split
  ·exact h.2
  ·rw[qR,List.nodup_cons];exact⟨fun hc=>h.1 (mdel_keys m k _ hc),mdel_nd m k h.2⟩
end maps
theorem lookD_put (m:List (Int×Int))(k v q:Int):mlookD (mputG m k v) q 0=if q=k then v else mlookD m q 0:=by
 unfold mlookD;rw[mlook_put];split<;>rfl
theorem lookD_del (m:List (Int×Int))(k q:Int)(h:(m.map (·.1)).Nodup):mlookD (mdelG m k) q 0=if q=k then 0 else mlookD m q 0:=by
 unfold mlookD;rw[mlook_del m k q h];split<;>rfl
def onP (p:Int)(e:Entry):Bool:=decide (e.gone=0)&&decide (e.Title.Place=p)
theorem onP_iff {p:Int}{e:Entry}:onP p e=true↔e.gone=0∧e.Title.Place=p:=by
 unfold onP;simp only[qJ,zB]
def atS (b:Int)(l:List Entry)(p:Int):Int:=if p<0 then 0 else match l.findIdx? (onP p) with | some i=>b+i | none=>0
def AtIs (b:Int)(l:List Entry)(p v:Int):Prop:=(∃ (i:Nat)(e:Entry),l[i]?=some e∧onP p e=true∧v=b+i)∨(v=0∧∀ (i:Nat)(e:Entry),l[i]?=some e→onP p e=false)
theorem at_is (b:Int)(l:List Entry){p:Int}(h:0≤p):AtIs b l p (atS b l p):=by
 unfold atS;rw[if_neg (by omega)]
 cases hf:l.findIdx? (onP p) with
 | some i =>
  rw[List.findIdx?_eq_some_iff_getElem] at hf;obtain⟨hi,h1,_⟩:=hf;exact .inl ⟨i,_,qK hi,h1,rfl⟩
 | none =>
  rw[List.findIdx?_eq_none_iff] at hf;exact .inr ⟨rfl,fun i e he=>hf e (qU he)⟩
def UniqS (l:List Entry):Prop:=∀ (i j:Nat)(e f:Entry)(p:Int),l[i]?=some e→l[j]?=some f→0≤p→onP p e=true→onP p f=true→i=j
theorem at_uniq {b:Int}{l:List Entry}(hu:UniqS l)(hb:0<b){p v w:Int}(hp:0≤p)(h1:AtIs b l p v)(h2:AtIs b l p w):v=w:=by
 rcases h1 with ⟨i,e,h1,h3,rfl⟩ | ⟨rfl,h1⟩
 ·rcases h2 with ⟨j,f,h2,h4,rfl⟩ | ⟨rfl,h2⟩
  ·rw[hu i j e f p h1 h2 hp h3 h4]
  ·have:=h2 i e h1;rw[h3] at this;cases this
 ·rcases h2 with ⟨j,f,h2,h4,rfl⟩ | ⟨rfl,h2⟩
  ·have:=h1 j f h2;rw[h4] at this;cases this
  ·rfl
theorem atS_of {b:Int}{l:List Entry}(hu:UniqS l)(hb:0<b){p v:Int}(hp:0≤p)(h1:AtIs b l p v):v=atS b l p:=at_uniq hu hb hp h1 (at_is b l hp)
theorem atS_neg (b:Int)(l:List Entry){p:Int}(h:p<0):atS b l p=0:=by unfold atS;rw[if_pos h]
structure EntOk (sh pl:Int)(i:Nat)(e:Entry):Prop where
 ser:e.Title.Serial=baseS sh+i
 sh:e.Title.Show=sh
 p0:-1≤e.Title.Place
 p1:e.Title.Place<pl
 g:0≤e.gone
 v:validS e.Title=true
structure InvL (sh pl:Int)(l:List Entry):Prop where
 sh0:0≤sh
 sh1:sh<20
 pl0:0≤pl
 pl1:pl≤4000
 len:l.length≤1000
 ent:∀ (i:Nat)(e:Entry),l[i]?=some e→EntOk sh pl i e
 uniq:UniqS l
structure InvA (b:Int)(l:List Entry)(a:List (Int×Int)):Prop where
 nd:(a.map (·.1)).Nodup
 eq:∀ p,mlookD a p 0=atS b l p
theorem InvL.b0 {sh pl:Int}{l:List Entry}(h:InvL sh pl l):0<baseS sh:=by have:=h.sh0;unfold baseS;omega
theorem InvL.b1 {sh pl:Int}{l:List Entry}(h:InvL sh pl l):baseS sh≤200001:=by have:=h.sh1;unfold baseS;omega
theorem InvL.nil {sh pl:Int}(h0:0≤sh)(h1:sh<20)(p0:0≤pl)(p1:pl≤4000):InvL sh pl [] :=
 ⟨h0,h1,p0,p1,Nat.zero_le _,fun i e h=>by simp at h,fun i j e f p h=>by simp at h⟩
theorem InvA.nil (b:Int):InvA b [] []:=⟨List.nodup_nil,fun p=>by unfold atS;split<;>rfl⟩
theorem add_at {sh pl:Int}{l:List Entry}{a:List (Int×Int)}(h:InvL sh pl l)(ha:InvA (baseS sh) l a){e:Entry}{p:Int}(hp:0≤p)(hn:atS (baseS sh) l p=0)(he:onP p e=true) :
  UniqS (l++[e])∧InvA (baseS sh) (l++[e]) (mputG a p (baseS sh+l.length)):=by
 have hb:=h.b0;have hno:∀ (i:Nat)(f:Entry),l[i]?=some f→onP p f=false:=by
  rcases at_is (baseS sh) l hp with ⟨i,f,_,_,h3⟩ | ⟨_,h2⟩
  ·omega
  ·exact h2
 have hget:∀ (i:Nat)(f:Entry),(l++[e])[i]?=some f→(i<l.length∧l[i]?=some f)∨(i=l.length∧f=e):=fun i f hf=>by
  by_cases hi:i<l.length
  ·rw[qM hi] at hf;exact .inl ⟨hi,hf⟩
  ·have h1:=(qC.1 hf).1;rw[qP,zA] at h1;have h2:i=l.length:=by omega
   subst h2;rw[qN (qQ _),Nat.sub_self] at hf;exact .inr ⟨rfl,by simpa using hf.symm⟩
 have hplace:=(onP_iff.1 he).2;have hu:UniqS (l++[e]):=by
  intro i j f g q hf hg hq hfq hgq;rcases hget i f hf with ⟨_,hf1⟩ | ⟨hi,hfe⟩
  ·rcases hget j g hg with ⟨_,hg1⟩ | ⟨hj,hge⟩
   ·exact h.uniq i j f g q hf1 hg1 hq hfq hgq
   ·have:q=p:=by rw[← hplace,← hge];exact((onP_iff.1 hgq).2).symm
    rw[this,hno i f hf1] at hfq;cases hfq
  ·rcases hget j g hg with ⟨_,hg1⟩ | ⟨hj,hge⟩
   ·have:q=p:=by rw[← hplace,← hfe];exact((onP_iff.1 hfq).2).symm
    rw[this,hno j g hg1] at hgq;cases hgq
   ·omega
 refine⟨hu,mput_nd _ _ _ ha.nd,fun q=>?_⟩;rw[lookD_put];by_cases hqp:q=p
 ·subst hqp;rw[if_pos rfl];exact atS_of hu hb hp (.inl ⟨l.length,e,by rw[qN (qQ _),Nat.sub_self];rfl,he,rfl⟩)
 ·rw[if_neg hqp,ha.eq];by_cases hq:q<0
  ·rw[atS_neg _ _ hq,atS_neg _ _ hq]
  ·refine atS_of hu hb (by omega) ?_;rcases at_is (baseS sh) l (p:=q) (by omega) with ⟨i,f,h1,h2,h3⟩ | ⟨h1,h2⟩
   ·refine .inl ⟨i,f,?_,h2,h3⟩;rw[qM (qC.1 h1).1,h1]
   ·refine .inr ⟨h1,fun i f hf=>?_⟩;rcases hget i f hf with ⟨_,hf⟩ | ⟨_,hfe⟩
    ·exact h2 i f hf
    ·unfold onP;rw[hfe,hplace,qE (show ¬ p=q from fun h=>hqp h.symm),Bool.and_false]
def chA (a:List (Int×Int))(s:Int)(e e':Entry):List (Int×Int) :=
 let a1:=if 0≤e.Title.Place then mdelG a e.Title.Place else a
 if 0≤e'.Title.Place∧e'.gone=0 then mputG a1 e'.Title.Place s else a1
theorem change_at {sh pl:Int}{l:List Entry}{a:List (Int×Int)}(h:InvL sh pl l)(ha:InvA (baseS sh) l a){i:Nat}{e e':Entry}(hi:l[i]?=some e)(hg:e.gone=0)
  (hok:0≤e'.Title.Place→e'.gone=0→atS (baseS sh) l e'.Title.Place=0∨atS (baseS sh) l e'.Title.Place=baseS sh+i) :
  UniqS (l.set i e')∧InvA (baseS sh) (l.set i e') (chA a (baseS sh+i) e e'):=by
 have hb:=h.b0;have hil:=(qC.1 hi).1;have hget:∀ (j:Nat)(f:Entry),(l.set i e')[j]?=some f→(j=i∧f=e')∨(j≠i∧l[j]?=some f):=fun j f hf=>by
  by_cases hj:j=i
  ·subst hj;rw[List.getElem?_set_self hil] at hf;exact .inl ⟨rfl,by simpa using hf.symm⟩
  ·rw[List.getElem?_set_ne (fun h=>hj h.symm)] at hf;exact .inr ⟨hj,hf⟩
 have hput:(l.set i e')[i]?=some e':=List.getElem?_set_self hil;have hkeep:∀ (j:Nat)(f:Entry),j≠i→l[j]?=some f→(l.set i e')[j]?=some f:=fun j f hj hf=>by
  rw[List.getElem?_set_ne (fun h=>hj h.symm)];exact hf
 have hoth:∀ (j:Nat)(f:Entry)(p:Int),j≠i→l[j]?=some f→0≤p→onP p e'=true→onP p f=false:=fun j f p hj hf hp hep=>by
  obtain⟨h1,rfl⟩:=onP_iff.1 hep
  cases hfp:onP e'.Title.Place f with
  | false=>rfl
  | true =>
   have hv:baseS sh+(j:Int)=atS (baseS sh) l e'.Title.Place:=atS_of h.uniq hb hp (.inl ⟨j,f,hf,hfp,rfl⟩);rcases hok hp h1 with h2 | h2<;>omega
 have hu:UniqS (l.set i e'):=by
  intro j k f g q hf hg' hq hfq hgq;rcases hget j f hf with ⟨hj,hfe⟩ | ⟨hj,hf1⟩
  ·rcases hget k g hg' with ⟨hk,hge⟩ | ⟨hk,hg1⟩
   ·omega
   ·rw[hoth k g q hk hg1 hq (by rw[← hfe];exact hfq)] at hgq;cases hgq
  ·rcases hget k g hg' with ⟨hk,hge⟩ | ⟨hk,hg1⟩
   ·rw[hoth j f q hj hf1 hq (by rw[← hge];exact hgq)] at hfq;cases hfq
   ·exact h.uniq j k f g q hf1 hg1 hq hfq hgq
 have nd1:((if 0≤e.Title.Place then mdelG a e.Title.Place else a).map (·.1)).Nodup:=by
  split
  ·exact mdel_nd _ _ ha.nd
  ·exact ha.nd
 have eq1:∀ q,0≤q→mlookD (if 0≤e.Title.Place then mdelG a e.Title.Place else a) q 0=if q=e.Title.Place then 0 else atS (baseS sh) l q:=fun q hq=>by
  split
  ·rw[lookD_del _ _ _ ha.nd,ha.eq]
  ·rw[if_neg (by omega),ha.eq]
 have eqn:∀ q,q<0→mlookD (if 0≤e.Title.Place then mdelG a e.Title.Place else a) q 0=0:=fun q hq=>by
  split
  ·rw[lookD_del _ _ _ ha.nd,if_neg (by omega),ha.eq,atS_neg _ _ hq]
  ·rw[ha.eq,atS_neg _ _ hq]
 have key:∀ q,0≤q→onP q e'=false→AtIs (baseS sh) (l.set i e') q (if q=e.Title.Place then 0 else atS (baseS sh) l q):=fun q hq hne=>by
  by_cases hqe:q=e.Title.Place
  ·rw[if_pos hqe];refine .inr ⟨rfl,fun j f hf=>?_⟩;rcases hget j f hf with ⟨_,rfl⟩ | ⟨hj,hf⟩
   ·exact hne
   ·cases hfq:onP q f with
    | false=>rfl
    | true=>exact absurd (h.uniq j i f e q hf hi hq hfq (onP_iff.2 ⟨hg,hqe.symm⟩)) hj
  ·rw[if_neg hqe];rcases at_is (baseS sh) l hq with ⟨j,f,h1,h2,h3⟩ | ⟨h1,h2⟩
   ·refine .inl ⟨j,f,hkeep j f (fun hj=>?_) h1,h2,h3⟩;subst hj;rw[hi] at h1;cases h1;exact hqe ((onP_iff.1 h2).2).symm
   ·refine .inr ⟨h1,fun j f hf=>?_⟩;rcases hget j f hf with ⟨_,rfl⟩ | ⟨_,hf⟩
    ·exact hne
    ·exact h2 j f hf
 refine⟨hu,?_⟩;unfold chA;dsimp only;by_cases hc:0≤e'.Title.Place∧e'.gone=0
 ·rw[if_pos hc];refine⟨mput_nd _ _ _ nd1,fun q=>?_⟩;rw[lookD_put];by_cases hqp:q=e'.Title.Place
  ·rw[if_pos hqp,hqp];exact atS_of hu hb hc.1 (.inl ⟨i,e',hput,onP_iff.2 ⟨hc.2,rfl⟩,rfl⟩)
  ·rw[if_neg hqp];by_cases hq:q<0
   ·rw[eqn q hq,atS_neg _ _ hq]
   ·rw[eq1 q (by omega)];refine atS_of hu hb (by omega) (key q (by omega) ?_);unfold onP;rw[qE (show ¬ e'.Title.Place=q from fun h=>hqp h.symm),Bool.and_false]
 ·rw[if_neg hc];refine⟨nd1,fun q=>?_⟩;by_cases hq:q<0
  ·rw[eqn q hq,atS_neg _ _ hq]
  ·rw[eq1 q (by omega)];refine atS_of hu hb (by omega) (key q (by omega) ?_)
   cases hfq:onP q e' with
   | false=>rfl
   | true =>
    obtain⟨h1,h2⟩:=onP_iff.1 hfq;exact absurd ⟨by omega,h1⟩ hc
end Go.SX.Rg
set_option linter.unusedVariables false
namespace Go.SX.Rg
open Go Go.SX
theorem io_lenM {κ α:Type}(kw:κ→Value)(e:α→List D)(l:List (κ×α)):io.lenM (WM kw e l)=l.length:=by
 rw[io_eq];show ((WM kw e l).length:Int)=_;rw[WM_len]
theorem ser_base {sh:Int}(h0:0≤sh)(h1:sh<20):io.ar .mul .i64 (io.ar .add .i64 sh 1) 10000=(sh+1) * 10000:=by
 have e1:io.ar .add .i64 sh 1=sh+1:=by rw[io_add,wr64 (by omega) (by omega)]
 rw[e1,io_mul,wr64 (by omega) (by omega)]
theorem ser_new {sh:Int}(h0:0≤sh)(h1:sh<20)(n:Nat)(hn:n≤1000000):io.ar .add .i64 (io.ar .add .i64 (io.ar .mul .i64 (io.ar .add .i64 sh 1) 10000) (n:Int)) 1=baseS sh+n:=by
 have e2:io.ar .add .i64 ((sh+1) * 10000) (n:Int)=(sh+1) * 10000+n:=by rw[io_add,wr64 (by omega) (by omega)]
 rw[ser_base h0 h1,e2,io_add,wr64 (by omega) (by omega)];unfold baseS;omega
def newE (sh:Int)(n:Nat)(p:Int)(k:ByteArray):Entry:=⟨⟨baseS sh+n,sh,p,k,[]⟩,0⟩
def issueS (sh pl:Int)(l:List Entry)(p:Int)(k:ByteArray):Int×Int×List Entry :=
 if p<0∨pl≤p∨isS k=false then (0,1,l)
 else if atS (baseS sh) l p≠0 then (0,16,l)
 else (baseS sh+l.length,0,l++[newE sh l.length p k])
theorem new_valid {sh pl:Int}{n:Nat}{p:Int}{k:ByteArray}(h0:0≤sh)(h1:sh<20)(hn:n<9999)(hp:0≤p)(hp1:p<4000)(hk:isS k=true):validS (newE sh n p k).Title=true:=by
 have hf:formedS (newE sh n p k).Title=true:=(formedS_iff _).2 {
  h0:=h0
  h1:=h1
  k0:=by show 1≤baseS sh+(n:Int) - (sh+1) * 10000;unfold baseS;omega
  k1:=by show baseS sh+(n:Int) - (sh+1) * 10000≤9999;unfold baseS;omega
  p0:=by show -1≤p;omega
  p1:=hp1
  f:=hk
  n:=Nat.zero_le _
  c:=rfl }
 unfold validS;rw[hf];rfl
theorem issue_inv {sh pl:Int}{l:List Entry}(h:InvL sh pl l){a:List (Int×Int)}(ha:InvA (baseS sh) l a)(p:Int)(k:ByteArray)(hl:l.length<1000):InvL sh pl (issueS sh pl l p k).2.2:=by
 unfold issueS;split
 ·exact h
 ·rename_i hc;have hp:0≤p:=by omega
  have hp1:p<pl:=by omega
  have hk:isS k=true:=by
   cases hk:isS k with
   | true=>rfl
   | false=>exact absurd (.inr (.inr hk)) hc
  split
  ·exact h
  ·rename_i hat;have hat:atS (baseS sh) l p=0:=by omega
   have hadd:=add_at h ha (e:=newE sh l.length p k) hp hat (onP_iff.2 ⟨rfl,rfl⟩);have h2:=h.pl1;exact {
    sh0:=h.sh0
    sh1:=h.sh1
    pl0:=h.pl0
    pl1:=h.pl1
    len:=by rw[qP,zA];omega
    ent:=fun i e he=>by
     by_cases hi:i<l.length
     ·rw[qM hi] at he;exact h.ent i e he
     ·have h1:=(qC.1 he).1;rw[qP,zA] at h1;obtain rfl:i=l.length:=by omega
      rw[qN (qQ _),Nat.sub_self] at he;obtain rfl:newE sh l.length p k=e:=by simpa using he
      exact⟨rfl,rfl,by show -1≤p;omega,hp1,Int.le_refl _,new_valid (pl:=pl) h.sh0 h.sh1 (by omega) hp (by omega) hk⟩
    uniq:=hadd.1 }
theorem issue_eq {sh pl:Int}{l:List Entry}{a:List (Int×Int)}(h:InvL sh pl l)(ha:InvA (baseS sh) l a)(p:Int)(k:ByteArray) :
  ∃ a',registry_Registry_Issue_b sh pl (ttlF (baseS sh) l) a p k=some ((issueS sh pl l p k).1,(issueS sh pl l p k).2.1,ttlF (baseS sh) (issueS sh pl l p k).2.2,a')∧InvA (baseS sh) (issueS sh pl l p k).2.2 a':=by
 have hlen:=h.len;unfold registry_Registry_Issue_b issueS;rw[io_lt,io_le,digest_Is_eq];by_cases h1:p<0
 ·rw[if_pos (.inl h1),qD h1];exact⟨a,rfl,ha⟩
 ·rw[qE h1,cond_false];by_cases h2:pl≤p
  ·rw[if_pos (.inr (.inl h2)),qD h2];exact⟨a,rfl,ha⟩
  ·rw[qE h2,cond_false,qA,io_not]
   cases hk:isS k with
   | false =>
    rw[if_pos (.inr (.inr rfl))];exact⟨a,rfl,ha⟩
   | true =>
    have hc:¬ (p<0∨pl≤p∨true=false):=by
     rintro (h | h | h)
     ·exact h1 h
     ·exact h2 h
     ·cases h
    rw[if_neg hc];simp only[Bool.not_true,qA,cond_false,io_lenM,ttlF_len,io_le];have h4:¬ (4000:Int)≤(l.length:Int):=by omega
    rw[qE h4,cond_false,ha.eq p,io_not,io_eqi,ser_new h.sh0 h.sh1 _ (by omega)];by_cases hat:atS (baseS sh) l p=0
    ·rw[qD hat,if_neg (by omega),Bool.not_true,cond_false];have hadd:=add_at h ha (e:=newE sh l.length p k) (by omega) hat (onP_iff.2 ⟨rfl,rfl⟩);refine⟨_,?_,hadd.2⟩;rw[← ttlF_app];rfl
    ·rw[qE hat,if_pos hat];exact⟨a,rfl,ha⟩
def chgS (b:Int)(l:List Entry)(s:Int)(f:Entry→Int×Entry):Int×List Entry :=
 match lookS b l s with
 | none=>(11,l)
 | some e=>if 0<e.gone then (27,l) else if (f e).1≠0 then ((f e).1,l) else (0,l.set (s - b).toNat (f e).2)
structure ChgOk (sh pl:Int)(l:List Entry)(i:Nat)(e e':Entry):Prop where
 ent:EntOk sh pl i e'
 at_:0≤e'.Title.Place→e'.gone=0→atS (baseS sh) l e'.Title.Place=0∨atS (baseS sh) l e'.Title.Place=baseS sh+i
theorem chg_inv {sh pl:Int}{l:List Entry}{a:List (Int×Int)}(h:InvL sh pl l)(ha:InvA (baseS sh) l a){i:Nat}{e e':Entry}(hi:l[i]?=some e)(hg:e.gone=0)(hok:ChgOk sh pl l i e e') :
  InvL sh pl (l.set i e')∧InvA (baseS sh) (l.set i e') (chA a (baseS sh+i) e e'):=by
 have hil:=(qC.1 hi).1;obtain⟨hu,hA⟩:=change_at h ha hi hg hok.at_;exact⟨{
  sh0:=h.sh0
  sh1:=h.sh1
  pl0:=h.pl0
  pl1:=h.pl1
  len:=by rw[List.length_set];exact h.len
  ent:=fun j f hf=>by
   by_cases hj:j=i
   ·subst hj;rw[List.getElem?_set_self hil] at hf;obtain rfl:e'=f:=by simpa using hf
    exact hok.ent
   ·rw[List.getElem?_set_ne (fun h=>hj h.symm)] at hf;exact h.ent j f hf
  uniq:=hu },hA⟩
theorem tail_eq (b:Int)(l:List Entry)(a:List (Int×Int))(i:Nat)(e e':Entry)(hi:l[i]?=some e) :
  (Option.bind (some (mputG (ttlF b l) (b+i) e')) fun m3 =>
   Option.bind (bif (io.le 0 e.Title.Place) then (Option.bind (some (mdelG a e.Title.Place)) fun m5=>some m5) else some a) fun own4 =>
   Option.bind (bif (io.le 0 e'.Title.Place) then some (io.eq e'.gone 0) else some false) fun v6 =>
   bif v6 then (Option.bind (some (mputG own4 e'.Title.Place (b+i))) fun m7=>some ((0:Int),m3,m7)) else some (0,m3,own4))=some (0,ttlF b (l.set i e'),chA a (b+i) e e'):=by
 have hil:=(qC.1 hi).1;rw[ttlF_set l b i e' hil,io_le,io_le,io_eqi];unfold chA;by_cases h1:0≤e.Title.Place
 ·rw[qD h1,if_pos h1];by_cases h2:0≤e'.Title.Place
  ·rw[qD h2];by_cases h3:e'.gone=0
   ·rw[qD h3,if_pos ⟨h2,h3⟩];rfl
   ·rw[qE h3,if_neg (fun h=>h3 h.2)];rfl
  ·rw[qE h2,if_neg (fun h=>h2 h.1)];rfl
 ·rw[qE h1,if_neg h1];by_cases h2:0≤e'.Title.Place
  ·rw[qD h2];by_cases h3:e'.gone=0
   ·rw[qD h3,if_pos ⟨h2,h3⟩];rfl
   ·rw[qE h3,if_neg (fun h=>h3 h.2)];rfl
  ·rw[qE h2,if_neg (fun h=>h2 h.1)];rfl
def revE (now:Int)(e:Entry):Int×Entry:=(0,⟨e.Title,now⟩)
def revokeS (sh:Int)(l:List Entry)(s now:Int):Int×List Entry:=if now<1∨1000000000<now then (1,l) else chgS (baseS sh) l s (revE now)
def movT (p:Int)(t:Title):Title:=⟨t.Serial,t.Show,p,t.First,t.Chain⟩
def movE (sh:Int)(l:List Entry)(s p:Int)(e:Entry):Int×Entry:=if atS (baseS sh) l p≠0∧atS (baseS sh) l p≠s then (16,e) else (0,⟨movT p e.Title,e.gone⟩)
def moveS (sh pl:Int)(l:List Entry)(s p:Int):Int×List Entry:=if p < -1∨pl≤p then (1,l) else chgS (baseS sh) l s (movE sh l s p)
def pasT (x:Transfer)(t:Title):Title:=⟨t.Serial,t.Show,t.Place,t.First,t.Chain++[x]⟩
def pasE (x:Transfer)(e:Entry):Int×Entry:=if 50≤e.Title.Chain.length then (3,e) else if validS (pasT x e.Title)=true then (0,⟨pasT x e.Title,e.gone⟩) else (20,e)
def passS (sh:Int)(l:List Entry)(s:Int)(x:Transfer):Int×List Entry:=chgS (baseS sh) l s (pasE x)
theorem ent_gone {sh pl:Int}{i:Nat}{e:Entry}(h:EntOk sh pl i e)(hg:¬ 0<e.gone):e.gone=0:=by have:=h.g;omega
theorem rev_ok {sh pl:Int}{l:List Entry}{i:Nat}{e:Entry}(h:EntOk sh pl i e)(now:Int)(hn:0<now):ChgOk sh pl l i e (revE now e).2 :=
 ⟨⟨h.ser,h.sh,h.p0,h.p1,Int.le_of_lt hn,h.v⟩,fun _ h2=>by have h2:now=0:=h2;omega⟩
theorem revoke_eq {sh pl:Int}{l:List Entry}{a:List (Int×Int)}(h:InvL sh pl l)(ha:InvA (baseS sh) l a)(s now:Int) :
  ∃ a',registry_Registry_Revoke_b sh pl (ttlF (baseS sh) l) a s now=some ((revokeS sh l s now).1,ttlF (baseS sh) (revokeS sh l s now).2,a')∧InvL sh pl (revokeS sh l s now).2∧InvA (baseS sh) (revokeS sh l s now).2 a':=by
 unfold registry_Registry_Revoke_b revokeS;rw[io_lt,io_lt];by_cases h1:now<1
 ·rw[if_pos (.inl h1),qD h1];exact⟨a,rfl,h,ha⟩
 ·rw[qE h1,cond_false,qA];by_cases h2:1000000000<now
  ·rw[if_pos (.inr h2),qD h2];exact⟨a,rfl,h,ha⟩
  ·rw[if_neg (by omega),qE h2,cond_false,look_eq];unfold chgS
   cases hs:lookS (baseS sh) l s with
   | none=>exact⟨a,rfl,h,ha⟩
   | some e =>
    obtain⟨i,rfl,hi⟩:=lookS_some hs;have he:=h.ent i e hi;show ∃ a',(bif io.lt 0 e.gone then _ else _)=_∧_;rw[io_lt];dsimp only;by_cases hg:0<e.gone
    ·rw[qD hg,if_pos hg];exact⟨a,rfl,h,ha⟩
    ·rw[qE hg,if_neg hg,if_neg (fun h=>h rfl),show (baseS sh+(i:Int) - baseS sh).toNat=i by omega];have hc:=chg_inv h ha hi (ent_gone he hg) (rev_ok (l:=l) he now (by omega));refine⟨_,?_,hc.1,hc.2⟩;rw[cond_false,qA,io_not,io_eqi,qD rfl,Bool.not_true,cond_false];exact tail_eq (baseS sh) l a i e (revE now e).2 hi
theorem mov_valid {t:Title}{p:Int}(h:validS t=true)(h0:-1≤p)(h1:p<4000):validS (movT p t)=true:=by
 have hf:=valid_formed h;have hm:formedS (movT p t)=true:=(formedS_iff _).2 ⟨hf.h0,hf.h1,hf.k0,hf.k1,h0,h1,hf.f,hf.n,hf.c⟩;unfold validS at h ⊢;rw[qJ] at h;rw[hm,Bool.true_and];exact h.2
theorem mov_ok {sh pl:Int}{l:List Entry}{i:Nat}{e:Entry}(h:InvL sh pl l)(he:EntOk sh pl i e){p:Int}(h0:-1≤p)(h1:p<pl)(hat:¬ (atS (baseS sh) l p≠0∧atS (baseS sh) l p≠baseS sh+i)) :
  ChgOk sh pl l i e ⟨movT p e.Title,e.gone⟩:=by
 have:=h.pl1;exact⟨⟨he.ser,he.sh,h0,h1,he.g,mov_valid he.v h0 (by omega)⟩,fun _ _=>by show atS (baseS sh) l p=0∨atS (baseS sh) l p=_;omega⟩
theorem mov_pre (v s q p:Int):(Option.bind (some v) fun y5=>Option.bind (bif (io.not (io.eq y5 0)) then some (io.not (io.eq y5 s)) else some false) fun v6=>bif v6 then some (q,(16:Int)) else some (p,0))=some (if v≠0∧v≠s then (q,16) else (p,0)):=by
 rw[qA,io_eqi,io_eqi,io_not,io_not];by_cases h1:v=0
 ·rw[qD h1,if_neg (fun h=>h.1 h1)];rfl
 ·rw[qE h1];by_cases h2:v=s
  ·rw[qD h2,if_neg (fun h=>h.2 h2)];rfl
  ·rw[qE h2,if_pos ⟨h1,h2⟩];rfl
theorem move_eq {sh pl:Int}{l:List Entry}{a:List (Int×Int)}(h:InvL sh pl l)(ha:InvA (baseS sh) l a)(s p:Int) :
  ∃ a',registry_Registry_Move_b sh pl (ttlF (baseS sh) l) a s p=some ((moveS sh pl l s p).1,ttlF (baseS sh) (moveS sh pl l s p).2,a')∧InvL sh pl (moveS sh pl l s p).2∧InvA (baseS sh) (moveS sh pl l s p).2 a':=by
 unfold registry_Registry_Move_b moveS;rw[io_lt,io_le];by_cases h1:p < -1
 ·rw[if_pos (.inl h1),qD h1];exact⟨a,rfl,h,ha⟩
 ·rw[qE h1,cond_false,qA];by_cases h2:pl≤p
  ·rw[if_pos (.inr h2),qD h2];exact⟨a,rfl,h,ha⟩
  ·rw[if_neg (by omega),qE h2,cond_false,look_eq];unfold chgS
   cases hs:lookS (baseS sh) l s with
   | none=>exact⟨a,rfl,h,ha⟩
   | some e =>
    obtain⟨i,rfl,hi⟩:=lookS_some hs;have he:=h.ent i e hi;show ∃ a',(bif io.lt 0 e.gone then _ else _)=_∧_;rw[io_lt];dsimp only;by_cases hg:0<e.gone
    ·rw[qD hg,if_pos hg];exact⟨a,rfl,h,ha⟩
    ·rw[qE hg,if_neg hg,cond_false,ha.eq p,mov_pre];unfold movE;by_cases hc:atS (baseS sh) l p≠0∧atS (baseS sh) l p≠baseS sh+i
     ·rw[if_pos hc,if_pos hc,if_pos (c:=((16,e):Int×Entry).1≠0) (show (16:Int)≠0 by decide)];refine⟨a,?_,h,ha⟩;show (bif io.not (io.eq 16 0) then _ else _)=_;rw[io_not,io_eqi];rfl
     ·rw[if_neg hc,if_neg hc,if_neg (fun h=>h rfl),show (baseS sh+(i:Int) - baseS sh).toNat=i by omega];have hk:=chg_inv h ha hi (ent_gone he hg) (mov_ok h he (by omega) (by omega) hc);refine⟨_,?_,hk.1,hk.2⟩;show (bif io.not (io.eq 0 0) then _ else _)=_;rw[io_not,io_eqi,qD rfl,Bool.not_true,cond_false];exact tail_eq (baseS sh) l a i e ⟨movT p e.Title,e.gone⟩ hi
theorem clone_sig (l:List ByteArray)(h:l.length≤1000000):slices_Clone_2_g l=some l:=by
 unfold slices_Clone_2_g nilQ
 cases l with
 | nil=>simp[appG]
 | cons x l =>
  show (Option.bind (some ([]:List ByteArray)) fun l2=>Option.bind (appG l2 (x::l)) fun l3=>some l3)=_;rw[qA,appG_some (by simp only[List.length_nil];omega)];rfl
theorem clone_tr (l:List Transfer)(h:l.length≤1000000):slices_CloneW_g l=some l:=by
 unfold slices_CloneW_g nilQ
 cases l with
 | nil=>simp[appG]
 | cons x l =>
  show (Option.bind (some ([]:List Transfer)) fun l2=>Option.bind (appG l2 (x::l)) fun l3=>some l3)=_;rw[qA,appG_some (by simp only[List.length_nil];omega)];rfl
theorem pas_ok {sh pl:Int}{l:List Entry}{i:Nat}{e:Entry}(h:InvL sh pl l)(hi:l[i]?=some e)(he:EntOk sh pl i e){x:Transfer}(hv:validS (pasT x e.Title)=true):ChgOk sh pl l i e ⟨pasT x e.Title,e.gone⟩ :=
 ⟨⟨he.ser,he.sh,he.p0,he.p1,he.g,hv⟩,fun h1 h2=>.inr (atS_of h.uniq h.b0 h1 (.inl ⟨i,e,hi,onP_iff.2 ⟨h2,rfl⟩,rfl⟩)).symm⟩
theorem pass_eq {sh pl:Int}{l:List Entry}{a:List (Int×Int)}(h:InvL sh pl l)(ha:InvA (baseS sh) l a)(s:Int)(x:Transfer)(hx:x.Sig.length≤1000000) :
  ∃ a',registry_Registry_Pass_b sh pl (ttlF (baseS sh) l) a s x=some ((passS sh l s x).1,ttlF (baseS sh) (passS sh l s x).2,a')∧InvL sh pl (passS sh l s x).2∧InvA (baseS sh) (passS sh l s x).2 a':=by
 unfold registry_Registry_Pass_b passS chgS;rw[look_eq]
 cases hs:lookS (baseS sh) l s with
 | none=>exact⟨a,rfl,h,ha⟩
 | some e =>
  obtain⟨i,rfl,hi⟩:=lookS_some hs;have he:=h.ent i e hi;have hF:=valid_formed he.v;have hn:=hF.n;show ∃ a',(bif io.lt 0 e.gone then _ else _)=_∧_;rw[io_lt];dsimp only;by_cases hg:0<e.gone
  ·rw[qD hg,if_pos hg];exact⟨a,rfl,h,ha⟩
  ·rw[qE hg,if_neg hg,cond_false,io_le,io_len];unfold pasE;by_cases h50:50≤e.Title.Chain.length
   ·have h50':(50:Int)≤(e.Title.Chain.length:Int):=by omega
    rw[qD h50',if_pos h50,if_pos (c:=((3,e):Int×Entry).1≠0) (show (3:Int)≠0 by decide)];exact⟨a,by rw[cond_true,qA,io_not,io_eqi];rfl,h,ha⟩
   ·have h50':¬ (50:Int)≤(e.Title.Chain.length:Int):=by omega
    have hcl:=clone_tr e.Title.Chain (by omega);have hser:=he.ser;have hb0:=h.b0;have hb1:=h.b1;have hil:=(qC.1 hi).1;have hlen:=h.len;have hval:title_Valid_g (pasT x e.Title)=some (validS (pasT x e.Title)):=valid_eq _ (by show 0≤e.Title.Serial;omega) (by show e.Title.Serial≤_;omega);unfold pasT at hval;rw[qE h50',if_neg h50,cond_false,clone_sig _ hx,hcl];simp only[qA];rw[appG_some (by simp only[zA];omega),qA];rw[show (Transfer.mk x.To x.Sig)=x from rfl,hval,qA,io_not];have hpT:(⟨e.Title.Serial,e.Title.Show,e.Title.Place,e.Title.First,e.Title.Chain++[x]⟩:Title)=pasT x e.Title:=rfl;rw[hpT]
    cases hv:validS (pasT x e.Title) with
    | false =>
     rw[if_neg (show ¬ (false=true) by decide),if_pos (c:=((20,e):Int×Entry).1≠0) (show (20:Int)≠0 by decide)];exact⟨a,by simp only[Bool.not_false,cond_true,qA,io_not,io_eqi];rfl,h,ha⟩
    | true =>
     rw[if_pos (show true=true from rfl),if_neg (fun h=>h rfl),Bool.not_true,cond_false,qA,show (baseS sh+(i:Int) - baseS sh).toNat=i by omega];simp only[io_not,io_eqi,decide_true,Bool.not_true,cond_false];have hc:=chg_inv h ha hi (ent_gone he hg) (pas_ok h hi he hv);refine⟨_,?_,hc.1,hc.2⟩;have:=tail_eq (baseS sh) l a i e ⟨pasT x e.Title,e.gone⟩ hi;simp only[io_eqi] at this;exact this
def titleS (b:Int)(l:List Entry)(s:Int):Title×Int×Int:=match lookS b l s with | some e=>(e.Title,e.gone,0) | none=>(zeroT,0,11)
theorem title_eq (sh pl:Int)(l:List Entry)(a:List (Int×Int))(s:Int):registry_Registry_Title_b sh pl (ttlF (baseS sh) l) a s=some (titleS (baseS sh) l s):=by
 unfold registry_Registry_Title_b titleS;rw[look_eq];cases lookS (baseS sh) l s<;>rfl
theorem at_eq {sh pl:Int}{l:List Entry}{a:List (Int×Int)}(ha:InvA (baseS sh) l a)(m:List (Int×Entry))(p:Int):registry_Registry_At_b sh pl m a p=some (atS (baseS sh) l p):=by
 unfold registry_Registry_At_b;rw[ha.eq];rfl
end Go.SX.Rg
