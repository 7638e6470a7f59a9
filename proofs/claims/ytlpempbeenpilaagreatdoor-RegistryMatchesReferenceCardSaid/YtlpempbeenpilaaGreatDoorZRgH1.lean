/- Parts of the proof. -/
import Derived.Test.YtlpempbeenpilaaGreatDoorZRgH0
import Derived.Laws.BytesString
import Derived.Laws.BytesArg
import Derived.Laws.Bits64b
import Derived.Test.YtlpempbeenpilaaGreatDoorZSyP
import Derived.Test.YtlpempbeenpilaaGreatDoorZRg46d
import Derived.Lib.ItoaMem
set_option linter.unusedSimpArgs false
set_option linter.unusedVariables false
set_option linter.unusedSectionVars false
set_option linter.unusedSimpArgs false
set_option linter.unusedVariables false
set_option linter.unusedSectionVars false
namespace Go.SX.Rg
open Go Go.SX Go.Proofs Go.RowKit
def digI (s:Int)(i:Nat):Int:=(s / 2 ^ (60 - 4 * i)) % 16
def hexI (s:Int)(i:Nat):Int:=hexTab.getD (digI s i).toNat 0
theorem dig_lt (s:Int)(i:Nat):0≤digI s i∧digI s i<16:=by unfold digI;omega
theorem dig_eq (s:Int)(h0:0≤s)(h1:s<18446744073709551616)(i:Nat):bits .and .u64 (s / 2 ^ (60 - 4 * i)) 15=digI s i:=by
 unfold digI;have hp:(0:Int)<2 ^ (60 - 4 * i):=Int.pow_pos (by omega);have k0:0≤s / 2 ^ (60 - 4 * i):=Int.ediv_nonneg h0 (by omega);have k1:s / 2 ^ (60 - 4 * i)≤s:=Int.ediv_le_self _ h0;generalize s / 2 ^ (60 - 4 * i)=x at k0 k1;obtain⟨n,rfl⟩:=Int.eq_ofNat_of_zero_le k0;have:=bits_and_u64_nat n 15 (by omega) (by omega);rw[show ((15:Nat):Int)=15 from rfl] at this;rw[this,Nat.and_two_pow_sub_one_eq_mod n 4];rfl
def bytesS (l:List Int):ByteArray:=l.foldl (fun r n=>r.push (UInt8.ofNat n.toNat)) ByteArray.empty
theorem conv_run {w1:World}{b:Nat}{t:TypeId}{h:Nat→Int}(hr:w1.rowIs b t 16 (fun q=>.int .u8 (h q))) :
  (convert 117 9 (.slice (some ⟨b,0,none⟩) 16 16)).run Tryz.prog w1=.ok (.string (bytesS ((List.range 16).map h))) w1:=by
 rw[run_convert_bytes_string w1 117 9 5 _ _ _ Tryz.underlying117 Tryz.underlying5 Tryz.underlying9];refine run_bytesToString w1 _ _ _ _ ?_;have:=run_loadCells_list (P:=Tryz.prog) w1 ⟨b,0,none⟩ (((List.range 16).map h).map (Value.int .u8)) (fun j v hv=>by
  have hj:j<16:=by have:=(List.getElem?_eq_some_iff.1 hv).1;simpa using this
  rw[add_none,Nat.zero_add,hr.cell hj];simp only[List.map_map,List.getElem?_map,List.getElem?_range hj,Option.map_some,Function.comp] at hv;exact hv)
 simpa using this
set_option maxHeartbeats 4000000 in
set_option maxRecDepth 100000 in
theorem text_walk {c:Cx}{w:World}(S:Sat c [] w)(s:Int)(h0:0≤s)(h1:s<18446744073709551616) :
  Calls Tryz.prog 81 #[.int .u64 s] w fun e w'=>e=.returned (.string (bytesS ((List.range 16).map (hexI s))))∧Below w.heap.size w w':=by
 obtain⟨hF,hx⟩:=hex_at S;have hlt0:gHex<w.heap.size:=by
  cases hq:c.F gHex with
  | none=>exact absurd hq hF
  | some o=>exact S.F_lt hq
 go_enter Tryz.func81,Tryz.ntmps81
 go_wp2_with fail
 have hr0:(w.alloc (.cells #[.int .u8 0,.int .u8 0,.int .u8 0,.int .u8 0,.int .u8 0,.int .u8 0,.int .u8 0,.int .u8 0,.int .u8 0,.int .u8 0,.int .u8 0,.int .u8 0,.int .u8 0,.int .u8 0,.int .u8 0,.int .u8 0] 140)).rowIs w.heap.size 140 16 (fun _=>.int .u8 0) :=
  World.rowIs_alloc w _ 140 _ (fun i hi=>by
   have hi':i<16:=hi;rcases (by omega:i=0∨i=1∨i=2∨i=3∨i=4∨i=5∨i=6∨i=7∨i=8∨i=9∨i=10∨i=11∨i=12∨i=13∨i=14∨i=15) with rfl | rfl | rfl | rfl | rfl | rfl | rfl | rfl | rfl | rfl | rfl | rfl | rfl | rfl | rfl | rfl<;>rfl)
 have hb0:=(Below.refl w.heap.size w).alloc (Nat.le_refl _) (.cells #[.int .u8 0,.int .u8 0,.int .u8 0,.int .u8 0,.int .u8 0,.int .u8 0,.int .u8 0,.int .u8 0,.int .u8 0,.int .u8 0,.int .u8 0,.int .u8 0,.int .u8 0,.int .u8 0,.int .u8 0,.int .u8 0] 140)
 go_loopw [5] (fun i wr=>∃ k:Nat,i=.int .i64 (k:Int)∧k≤16∧wr.rowIs w.heap.size 140 16 (fun q=>if q<k then .int .u8 (hexI s q) else .int .u8 0)∧Below w.heap.size w wr) (fun i _=>16 - (RowKit.intOf i).toNat)
 case atStart=>exact⟨0,rfl,by omega,hr0.congr (fun q _=>by simp),hb0⟩
 case round =>
  clear hr0 hb0;obtain⟨k,rfl,hk,hrow,hbel⟩:=hrel;by_cases hlt:k<16
  ·have k1:(0:Int)≤(k:Int):=by omega
   have k2:(k:Int)<16:=by omega
   have k3:IntKind.i64.wrap (4 * (k:Int))=4 * k:=by rw[wr64 (by omega) (by omega)]
   have k4:IntKind.i64.wrap (60 - 4 * (k:Int))=60 - 4 * k:=by rw[wr64 (by omega) (by omega)]
   have k5:¬ (60 - 4 * (k:Int)<0):=by omega
   have hc:=hrow.cell hlt;have hf:=hrow.frozen k;have kb:=dig_eq s h0 h1 k;have hd:=dig_lt s k;have kc:wr.cell? ⟨0,(digI s k).toNat,none⟩=some (.int .u8 (hexI s k)):=by
    refine(hbel.cell (p:=⟨gHex,(digI s k).toNat,none⟩) hlt0).trans (hx _ _ ?_);unfold hexI;have:(digI s k).toNat<16:=by omega
    rw[List.getD_eq_getElem?_getD,List.getElem?_eq_getElem (by show _<16;exact this)];rfl
   obtain⟨d,ed⟩:∃ d,digI s k=d:=⟨_,rfl⟩;rw[ed] at kb kc hd;obtain⟨hd1,hd2⟩:=hd;rw[if_neg (by omega)] at hc
   go_wp2_with fail
   go_roundw
   case rel =>
    refine⟨k+1,by go_num,by omega,(hrow.set k _).congr (fun q hq=>?_),hbel.setCell (Nat.le_refl _) _⟩;by_cases hqk:q=k
    ·subst hqk;rw[if_pos rfl,if_pos (by omega)]
    ·rw[if_neg hqk];by_cases h:q<k
     ·rw[if_pos h,if_pos (by omega)]
     ·rw[if_neg h,if_neg (by omega)]
   case measure=>simp[RowKit.intOf];omega
  ·have hke:k=16:=by omega
   subst hke;have hfin:=conv_run (hrow.congr (g:=fun q=>.int .u8 (hexI s q)) fun q hq=>by rw[if_pos hq])
   go_wp2_with (first | (rw[hfin]))
   go_ret
   exact⟨rfl,hbel⟩
theorem bytesS_eq (l:List Int):bytesS l=strOfNums l:=by
 have key:∀ (l:List Int)(b:ByteArray),(l.foldl (fun r n=>r.push (UInt8.ofNat n.toNat)) b).data.toList=b.data.toList++l.map fun n=>UInt8.ofNat n.toNat:=by
  intro l
  induction l with
  | nil=>intro b;simp
  | cons x l ih=>intro b;rw[List.foldl_cons,ih];simp[ByteArray.push]
 have h:=key l ByteArray.empty;have e:∀ b:ByteArray,b=⟨b.data.toList.toArray⟩:=fun b=>by simp
 rw[e (bytesS l)];unfold bytesS;rw[h];rfl
noncomputable def digest_state_text_g (s:Int):Option ByteArray:=if 0≤s∧s<18446744073709551616 then some (strOfNums ((List.range 16).map (hexI s))) else none
theorem digest_state_text_R {P:Program}(hP:P=Tryz.prog)(s:Int)(r:ByteArray)(h:digest_state_text_g s=some r):Fn1 P 81 [.d (.val (.int .u64 s))] (.d (.val (.string r))):=by
 subst hP;unfold digest_state_text_g at h;split at h
 ·rename_i hs;cases h;refine fn1_of (by kernel_rfl) rfl fun c w us hS hr=>?_
  obtain⟨k1,k2⟩:=hr
  match us,k1 with
  | [u],_ =>
   obtain rfl:=(k2 0 _ u rfl rfl).of_val;rw[← bytesS_eq];exact text_walk hS s hs.1 hs.2
 ·cases h
end Go.SX.Rg
set_option linter.unusedVariables false
namespace Go.SX.Rg
open Go Go.SX Go.Proofs
theorem io_cat (a b:ByteArray):io.cat a b=a++b:=by rw[io_eq];rfl
theorem wu64 {n:Int}(h0:0≤n)(h1:n<18446744073709551616):IntKind.u64.wrap n=n:=by
 show n % 18446744073709551616=n;omega
def dz (m:Nat):List UInt8:=if m=0 then [] else Lib.decDigits m
theorem dec_dz (n:Nat):Lib.decDigits n=dz (n / 10)++[UInt8.ofNat (48+n % 10)]:=by
 unfold dz;by_cases h:n<10
 ·rw[if_pos (by omega),Lib.decDigits_one h,show n % 10=n by omega];rfl
 ·rw[if_neg (by omega),Lib.decDigits,dif_neg h]
theorem dz_step {m:Nat}(h:0<m):dz m=dz (m / 10)++[UInt8.ofNat (48+m % 10)]:=by
 rw[← dec_dz];unfold dz;rw[if_neg (by omega)]
theorem sub_dig {k:Nat}(h:k<10):subS (⟨#[48,49,50,51,52,53,54,55,56,57]⟩) (k:Int) ((k:Int)+1)=some ⟨#[UInt8.ofNat (48+k)]⟩:=by
 rcases (by omega:k=0∨k=1∨k=2∨k=3∨k=4∨k=5∨k=6∨k=7∨k=8∨k=9) with rfl | rfl | rfl | rfl | rfl | rfl | rfl | rfl | rfl | rfl<;>decide +kernel
theorem dz_len (m:Nat)(h:m<18446744073709551616):(dz m).length≤20:=by
 unfold dz;split
 ·exact Nat.zero_le _
 ·rw[Lib.decDigits_length];exact Lib.nDigits_le20 m h
theorem sub_at (n:Nat)(h:n<18446744073709551616):subS (⟨#[48,49,50,51,52,53,54,55,56,57]⟩) (io.rem (n:Int) 10) (io.ar .add .u64 (io.rem (n:Int) 10) 1)=some ⟨#[UInt8.ofNat (48+n % 10)]⟩:=by
 have e:io.rem (n:Int) 10=((n % 10:Nat):Int):=by rw[io_rem,Int.tmod_eq_emod_of_nonneg (by omega)];omega
 rw[io_add,e,wu64 (by omega) (by omega),sub_dig (by omega)]
theorem quo_at (n:Nat)(h:n<18446744073709551616):io.quo .u64 (n:Int) 10=((n / 10:Nat):Int):=by
 rw[io_quo,Int.tdiv_eq_ediv_of_nonneg (by omega),wu64 (by omega) (by omega)];omega
theorem digits_loop : ∀ (n m:Nat)(s:List UInt8),m≤n→m<18446744073709551616→s.length+(dz m).length≤1000→whileG ref02_digits_l2 ((m:Int),⟨s.toArray⟩)=some ⟨(dz m++s).toArray⟩
 | n,0,s,_,_,_=>by
  rw[whileG_eq];simp[ref02_digits_l2,io_lt,dz]
 | 0,m+1,s,h,_,_=>by omega
 | n+1,m+1,s,h,hm,hs=>by
  have e:=dz_step (m:=m+1) (by omega);rw[e] at hs ⊢;simp only[List.length_append,List.length_singleton] at hs;rw[whileG_eq];have h1:(⟨#[UInt8.ofNat (48+(m+1) % 10)]⟩++⟨s.toArray⟩:ByteArray)=⟨(UInt8.ofNat (48+(m+1) % 10)::s).toArray⟩:=by
   apply ByteArray.ext;rw[ByteArray.data_append];simp
  have h2:catG (⟨#[UInt8.ofNat (48+(m+1) % 10)]⟩:ByteArray) ⟨s.toArray⟩=some ():=by
   unfold catG;rw[if_pos];simp[ByteArray.size];omega
  have h3:io.cat (⟨#[UInt8.ofNat (48+(m+1) % 10)]⟩:ByteArray) ⟨s.toArray⟩=⟨(UInt8.ofNat (48+(m+1) % 10)::s).toArray⟩:=by rw[io_cat,h1]
  simp only[ref02_digits_l2,io_lt,divG,sub_at (m+1) hm,quo_at (m+1) hm,h2,h3];simp only[show ¬ ((10:Int)=0) by decide,if_false,Option.bind_some,show decide ((0:Int)<((m+1:Nat):Int))=true from decide_eq_true (by omega),cond_true,h2,h3];have ih:=digits_loop n ((m+1) / 10) (UInt8.ofNat (48+(m+1) % 10)::s) (by omega) (by omega) (by simp;omega);rw[ih];simp
theorem digits_eq (n:Nat)(h:n<18446744073709551616):ref02_digits_g (n:Int)=some ⟨(Lib.decDigits n).toArray⟩:=by
 unfold ref02_digits_g;have hl:=digits_loop (n / 10) (n / 10) [UInt8.ofNat (48+n % 10)] (Nat.le_refl _) (by omega) (by have:=dz_len (n / 10) (by omega);simp;omega);simp only[divG,sub_at n h,quo_at n h,show ¬ ((10:Int)=0) by decide,if_false,Option.bind_some];rw[hl,dec_dz];rfl
theorem Decimal_eq (n:Int)(h0:-9223372036854775808≤n)(h1:n≤9223372036854775807):ref02_Decimal_g n=some ⟨(Lib.itoa n).toArray⟩:=by
 unfold ref02_Decimal_g;rw[io_lt];by_cases hn:n<0
 ·obtain⟨u,rfl⟩:∃ u:Nat,n=-(u:Int):=⟨n.natAbs,by omega⟩;have e1:io.ar .add .u64 (io.wrap .u64 (io.neg .i64 (io.ar .add .i64 (-(u:Int)) 1))) 1=(u:Int):=by
   have a1:io.ar .add .i64 (-(u:Int)) 1=-(u:Int)+1:=by rw[io_add,wr64 (by omega) (by omega)]
   have a2:io.neg .i64 (-(u:Int)+1)=(u:Int) - 1:=by rw[io_neg,wr64 (by omega) (by omega)];omega
   have a3:io.wrap .u64 ((u:Int) - 1)=(u:Int) - 1:=by rw[io_wrap,wu64 (by omega) (by omega)]
   rw[a1,a2,a3,io_add,wu64 (by omega) (by omega)];omega
  have hl:(Lib.decDigits u).length≤20:=by rw[Lib.decDigits_length];exact Lib.nDigits_le20 u (by omega)
  have h2:catG (⟨#[45]⟩:ByteArray) ⟨(Lib.decDigits u).toArray⟩=some ():=by
   unfold catG;rw[if_pos];simp[ByteArray.size];omega
  rw[e1,digits_eq u (by omega)];simp only[hn,decide_true,cond_true,Option.bind_some,h2];rw[Lib.itoa_neg u (by omega),io_cat];congr 1
 ·obtain⟨u,rfl⟩:∃ u:Nat,n=(u:Int):=⟨n.toNat,by omega⟩;have a3:io.wrap .u64 (u:Int)=u:=by rw[io_wrap,wu64 (by omega) (by omega)]
  rw[a3,digits_eq u (by omega),Lib.itoa_nonneg];simp[hn]
end Go.SX.Rg
