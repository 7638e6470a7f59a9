/- Parts of the proof. -/
import Derived.Test.YtlpempbeenpilaaGreatDoorZSyP
import Derived.Test.YtlpempbeenpilaaGreatDoorZRgH1
import Derived.Test.YtlpempbeenpilaaGreatDoorZRg17d
import Derived.Test.YtlpempbeenpilaaGreatDoorZRg46d
import Derived.Test.YtlpempbeenpilaaGreatDoorZRg44d
import Derived.Test.YtlpempbeenpilaaGreatDoorZRgH3
import Derived.Test.YtlpempbeenpilaaGreatDoorZRg30d
import Derived.Test.YtlpempbeenpilaaGreatDoorZRgH8
import Derived.Test.YtlpempbeenpilaaGreatDoorZRgH0
set_option linter.unusedSimpArgs false
set_option linter.unusedVariables false
set_option linter.unusedSectionVars false
set_option linter.unusedVariables false
namespace Go.SX.Rg
open Go Go.SX
abbrev M64 : Nat:=18446744073709551616
theorem wuN (n:Nat):IntKind.u64.wrap (n:Int)=((n % M64:Nat):Int):=by
 simp[IntKind.wrap,IntKind.bits,IntKind.signed]
theorem u_add (a b:Nat):io.ar .add .u64 (a:Int) (b:Int)=(((a+b) % M64:Nat):Int):=by rw[io_add,← Int.natCast_add,wuN]
theorem u_mul (a b:Nat):io.ar .mul .u64 (a:Int) (b:Int)=(((a * b) % M64:Nat):Int):=by rw[io_mul,← Int.natCast_mul,wuN]
theorem bvN (a:Nat):(BitVec.ofInt 64 (a:Int))=BitVec.ofNat 64 a:=by simp
theorem u_xor {a b:Nat}(ha:a<M64)(hb:b<M64):io.ar .xor .u64 (a:Int) (b:Int)=((a ^^^ b:Nat):Int):=by
 rw[io_eq];show IntKind.u64.wrap _=_;show IntKind.u64.wrap ((BitVec.ofInt 64 a ^^^ BitVec.ofInt 64 b).toNat:Int)=_;rw[wuN,bvN,bvN,BitVec.toNat_xor,BitVec.toNat_ofNat,BitVec.toNat_ofNat,Nat.mod_eq_of_lt ha,Nat.mod_eq_of_lt hb,Nat.mod_eq_of_lt (Nat.xor_lt_two_pow (n:=64) ha hb)]
theorem u_or {a b:Nat}(ha:a<M64)(hb:b<M64):io.ar .or .u64 (a:Int) (b:Int)=((a ||| b:Nat):Int):=by
 rw[io_eq];show IntKind.u64.wrap ((BitVec.ofInt 64 a ||| BitVec.ofInt 64 b).toNat:Int)=_;rw[wuN,bvN,bvN,BitVec.toNat_or,BitVec.toNat_ofNat,BitVec.toNat_ofNat,Nat.mod_eq_of_lt ha,Nat.mod_eq_of_lt hb,Nat.mod_eq_of_lt (Nat.or_lt_two_pow (n:=64) ha hb)]
theorem u_shr (a k:Nat)(hk:k≤64):io.shr .u64 (a:Int) (k:Int)=((a / 2 ^ k:Nat):Int):=by
 rw[io_eq];show (a:Int).fdiv (2 ^ min (k:Int).toNat 64)=_;rw[Int.toNat_natCast,Nat.min_eq_left hk,Int.fdiv_eq_ediv_of_nonneg _ (Int.le_of_lt (Int.pow_pos (by decide)))];simp[Int.natCast_ediv,Int.natCast_pow]
theorem u_shl (a k:Nat)(hk:k≤64):io.shl .u64 (a:Int) (k:Int)=(((a * 2 ^ k) % M64:Nat):Int):=by
 rw[io_eq];show IntKind.u64.wrap ((a:Int) * 2 ^ min (k:Int).toNat 64)=_;rw[Int.toNat_natCast,Nat.min_eq_left hk,← wuN];simp[Int.natCast_mul,Int.natCast_pow]
def mixN (x:Nat):Nat :=
 let a:=((x ^^^ (x / 4294967296)) * 11400714819323198485) % M64
 let b:=((a ^^^ (a / 536870912)) * 13787848793156543929) % M64
 b ^^^ (b / 4294967296)
theorem mix_lt (x:Nat):mixN x<M64:=by
 unfold mixN;have h:∀ n:Nat,n % M64<2 ^ 64:=fun n=>Nat.mod_lt _ (by decide)
 exact Nat.xor_lt_two_pow (n:=64) (h _) (Nat.lt_of_le_of_lt (Nat.div_le_self _ _) (h _))
theorem ref02_mix_eq {x:Nat}(hx:x<M64):ref02_mix_g (x:Int)=some ((mixN x:Nat):Int):=by
 have h:∀ n:Nat,n % M64<M64:=fun n=>Nat.mod_lt _ (by decide)
 have hd:∀ n k:Nat,n<M64→n / k<M64:=fun n k hn=>Nat.lt_of_le_of_lt (Nat.div_le_self _ _) hn
 have e1:io.ar .mul .u64 (io.ar .xor .u64 (x:Int) (io.shr .u64 (x:Int) (.ofNat 32))) 11400714819323198485=((((x ^^^ (x / 4294967296)) * 11400714819323198485) % M64:Nat):Int):=by
  rw[show (Int.ofNat 32)=((32:Nat):Int) from rfl,u_shr _ _ (by decide),u_xor hx (hd _ _ hx)];exact u_mul _ _
 unfold ref02_mix_g;rw[e1];generalize ha:((x ^^^ (x / 4294967296)) * 11400714819323198485) % M64=a;have hal:a<M64:=by rw[← ha];exact h _
 have e2:io.ar .mul .u64 (io.ar .xor .u64 (a:Int) (io.shr .u64 (a:Int) (.ofNat 29))) 13787848793156543929=((((a ^^^ (a / 536870912)) * 13787848793156543929) % M64:Nat):Int):=by
  rw[show (Int.ofNat 29)=((29:Nat):Int) from rfl,u_shr _ _ (by decide),u_xor hal (hd _ _ hal)];exact u_mul _ _
 rw[e2];generalize hb:((a ^^^ (a / 536870912)) * 13787848793156543929) % M64=b;have hbl:b<M64:=by rw[← hb];exact h _
 rw[show (Int.ofNat 32)=((32:Nat):Int) from rfl,u_shr _ _ (by decide),u_xor hbl (hd _ _ hbl)];unfold mixN;simp only[ha,hb]
end Go.SX.Rg
set_option linter.unusedVariables false
namespace Go.SX.Rg
open Go Go.SX
def byN (l:List UInt8)(i:Nat):Nat:=if i<l.length then (l.getD i 0).toNat else if i=l.length then 1 else 0
theorem byN_lt (l:List UInt8)(i:Nat):byN l i<256:=by
 unfold byN;split
 ·exact UInt8.toNat_lt _
 ·split<;>omega
def blkR (l:List UInt8)(f:Nat):Nat→Nat
 | 0=>0
 | n+1=>byN l f+256 * blkR l (f+1) n
theorem blkR_lt (l:List UInt8):∀ (n f:Nat),blkR l f n<256 ^ n
 | 0,f=>by simp[blkR]
 | n+1,f=>by
  have:=blkR_lt l n (f+1);have:=byN_lt l f;unfold blkR;rw[Nat.pow_succ];omega
theorem blk_lt (l:List UInt8)(f:Nat):blkR l f 8<M64:=blkR_lt l 8 f
def sumK (l:List UInt8):Nat→Nat
 | 0=>7046029254386353131
 | k+1=>mixN (sumK l k ^^^ blkR l (8 * k) 8)
theorem sumK_lt (l:List UInt8):∀ k,sumK l k<M64
 | 0=>by show 7046029254386353131<M64;decide
 | k+1=>mix_lt _
def sumN (l:List UInt8):Nat:=sumK l (l.length / 8+1)
def hexD (n:Nat):UInt8:=if n<10 then 48+n.toUInt8 else 87+n.toUInt8
def hexN : Nat→Nat→List UInt8
 | 0,_=>[]
 | n+1,x=>hexN n (x / 16)++[hexD (x % 16)]
def sumS (t:ByteArray):ByteArray:=⟨(hexN 16 (sumN t.data.toList)).toArray⟩
theorem size_list (t:ByteArray):t.size=t.data.toList.length:=Array.length_toList.symm
theorem idxStr_at {t:ByteArray}{i:Nat}(h:i<t.data.toList.length):idxStr t (i:Int)=some (((t.data.toList.getD i 0).toNat:Nat):Int):=by
 have hs:=size_list t;unfold idxStr;rw[if_pos ⟨by omega,by omega⟩];have h2:t[(i:Int).toNat]?=some (t.data.toList.getD i 0):=by
  rw[Int.toNat_natCast,qY,qK h];have:i<t.size:=by omega
  rw[getElem?_pos t i this];rfl
 rw[h2];rfl
theorem blk_loop (t:ByteArray)(f:Nat)(hb:t.size<4611686018427387904)(hf:f≤t.size):∀ j:Nat,j≤8→whileG (ref02_Sum_l26 (f:Int) t) (((blkR t.data.toList (f+j) (8 - j):Nat):Int),(j:Int) - 1)=some ((blkR t.data.toList f 8:Nat):Int):=by
 have hs:=size_list t;intro j
 induction j with
 | zero =>
  intro _;rw[whileG_eq];unfold ref02_Sum_l26;simp only[io_le];rfl
 | succ j ih =>
  intro hj;rw[whileG_eq];have e8:8 - j=(8 - (j+1))+1:=by omega
  have hB:blkR t.data.toList (f+j) (8 - j)=byN t.data.toList (f+j)+256 * blkR t.data.toList (f+(j+1)) (8 - (j+1)):=by
   rw[e8];rfl
  have hlt:blkR t.data.toList (f+j) (8 - j)<M64:=by
   have:=blkR_lt t.data.toList (8 - j) (f+j);exact zC this (Nat.pow_le_pow_right (by decide) (by omega:8 - j≤8))
  have hby:=byN_lt t.data.toList (f+j);generalize blkR t.data.toList (f+(j+1)) (8 - (j+1))=B at hB;have hB':=hB;rw[hB] at hlt;have hstep:ref02_Sum_l26 (f:Int) t ((B:Int),((j+1:Nat):Int) - 1)=some (.inl (((blkR t.data.toList (f+j) (8 - j):Nat):Int),(j:Int) - 1)):=by
   have h0:(0:Int)≤((j+1:Nat):Int) - 1:=by omega
   have hadd:io.ar .add .i64 (f:Int) (((j+1:Nat):Int) - 1)=((f+j:Nat):Int):=by
    rw[io_add,wr64 (by omega) (by omega)];omega
   have hsub:io.ar .sub .i64 (((j+1:Nat):Int) - 1) 1=(j:Int) - 1:=by
    rw[io_subi,wr64 (by omega) (by omega)];omega
   have hmul:io.ar .mul .u64 (B:Int) 256=((B * 256:Nat):Int):=by
    rw[show (256:Int)=((256:Nat):Int) from rfl,u_mul,Nat.mod_eq_of_lt (by omega)]
   unfold ref02_Sum_l26;simp only[io_le,io_lt,io_ssz,hadd,hsub,hmul,qD h0,cond_true];by_cases h1:f+j<t.size
   ·have h1':((f+j:Nat):Int)<(t.size:Int):=by omega
    have hne:((f+j:Nat):Int)≠(t.size:Int):=by omega
    have hbyv:byN t.data.toList (f+j)=(t.data.toList.getD (f+j) 0).toNat:=by unfold byN;rw[if_pos (by omega)]
    have hw:io.wrap .u64 (((t.data.toList.getD (f+j) 0).toNat:Nat):Int)=((byN t.data.toList (f+j):Nat):Int):=by
     rw[io_wrap,wuN,hbyv,Nat.mod_eq_of_lt (Nat.lt_trans (UInt8.toNat_lt _) (by decide))]
    simp only[qD h1',cond_true,idxStr_at (show f+j<t.data.toList.length by omega),qA,hw,u_add,io_eqi,qE hne,cond_false];rw[Nat.mod_eq_of_lt (by omega),hB',show B * 256+byN t.data.toList (f+j)=byN t.data.toList (f+j)+256 * B by omega]
   ·have h1':¬ ((f+j:Nat):Int)<(t.size:Int):=by omega
    simp only[qE h1',cond_false,qA,io_eqi];by_cases h2:f+j=t.size
    ·have hbyv:byN t.data.toList (f+j)=1:=by unfold byN;rw[if_neg (by omega),if_pos (by omega)]
     have h2':((f+j:Nat):Int)=(t.size:Int):=by omega
     rw[qD h2'];simp only[cond_true,qA];rw[show (1:Int)=((1:Nat):Int) from rfl,u_add,Nat.mod_eq_of_lt (by omega),hB',hbyv,show B * 256+1=1+256 * B by omega]
    ·have hbyv:byN t.data.toList (f+j)=0:=by unfold byN;rw[if_neg (by omega),if_neg (by omega)]
     have h2':((f+j:Nat):Int)≠(t.size:Int):=by omega
     rw[qE h2'];simp only[cond_false,qA];rw[hB',hbyv,show B * 256=0+256 * B by omega]
  rw[hstep];exact ih (by omega)
theorem sum_loop (t:ByteArray)(hb:t.size<4611686018427387904):∀ (d k:Nat),t.size / 8+1 - k=d→k≤t.size / 8+1→whileG (ref02_Sum_l22 t) (((sumK t.data.toList k:Nat):Int),((8 * k:Nat):Int))=some ((sumN t.data.toList:Nat):Int):=by
 have hs:=size_list t;intro d
 induction d with
 | zero =>
  intro k hd hk;obtain rfl:k=t.size / 8+1:=by omega
  rw[whileG_eq];have h1:¬ ((8 * (t.size / 8+1):Nat):Int)≤(t.size:Int):=by omega
  unfold ref02_Sum_l22;simp only[io_le,io_ssz,qE h1,cond_false];unfold sumN;rw[← hs]
 | succ d ih =>
  intro k hd hk;rw[whileG_eq];have h1:((8 * k:Nat):Int)≤(t.size:Int):=by omega
  have hB:=blk_loop t (8 * k) hb (by omega) 8 (qQ _);rw[show ((8:Nat):Int) - 1=7 from rfl,show 8 - 8=0 from rfl] at hB;have hB:whileG (ref02_Sum_l26 ((8 * k:Nat):Int) t) (0,7)=some ((blkR t.data.toList (8 * k) 8:Nat):Int):=hB;have hadd:io.ar .add .i64 ((8 * k:Nat):Int) 8=((8 * (k+1):Nat):Int):=by
   rw[io_add,wr64 (by omega) (by omega)];omega
  have hstep:ref02_Sum_l22 t (((sumK t.data.toList k:Nat):Int),((8 * k:Nat):Int))=some (.inl (((sumK t.data.toList (k+1):Nat):Int),((8 * (k+1):Nat):Int))):=by
   unfold ref02_Sum_l22;simp only[io_le,io_ssz,qD h1,cond_true,hB,qA,u_xor (sumK_lt t.data.toList k) (blk_lt t.data.toList (8 * k)),hadd];rw[ref02_mix_eq (Nat.xor_lt_two_pow (n:=64) (sumK_lt _ _) (blk_lt _ _))];rfl
  rw[hstep];exact ih (k+1) (by omega) (by omega)
theorem hex_sub (r:Nat)(h:r<16):subS (⟨#[48,49,50,51,52,53,54,55,56,57,97,98,99,100,101,102]⟩) (r:Int) ((r+1:Nat):Int)=some ⟨#[hexD r]⟩:=by
 match r,h with
 | 0,_ | 1,_ | 2,_ | 3,_ | 4,_ | 5,_ | 6,_ | 7,_ | 8,_ | 9,_ | 10,_ | 11,_ | 12,_ | 13,_ | 14,_ | 15,_=>rfl
 | r+16,h=>omega
theorem hex_loop : ∀ (n x:Nat)(s:List UInt8),n≤16→x<M64→s.length=16 - n→whileG ref02_Sum_l28 ((x:Int),⟨s.toArray⟩,((16 - n:Nat):Int))=some ⟨(hexN n x++s).toArray⟩:=by
 intro n
 induction n with
 | zero =>
  intro x s _ _ hl;rw[whileG_eq];unfold ref02_Sum_l28;simp only[io_lt];rfl
 | succ n ih =>
  intro x s hn hx hl;rw[whileG_eq];have h1:((16 - (n+1):Nat):Int)<16:=by omega
  have hr:io.rem (x:Int) 16=((x % 16:Nat):Int):=by rw[io_rem];rfl
  have hr1:io.ar .add .u64 ((x % 16:Nat):Int) 1=((x % 16+1:Nat):Int):=by
   rw[show (1:Int)=((1:Nat):Int) from rfl,u_add,Nat.mod_eq_of_lt (by show _<18446744073709551616;omega)]
  have hq:io.quo .u64 (x:Int) 16=((x / 16:Nat):Int):=by
   rw[io_quo,show ((x:Int).tdiv 16)=((x / 16:Nat):Int) from rfl,wuN,Nat.mod_eq_of_lt (Nat.lt_of_le_of_lt (Nat.div_le_self _ _) hx)]
  have hi:io.ar .add .i64 ((16 - (n+1):Nat):Int) 1=((16 - n:Nat):Int):=by
   rw[io_add,wr64 (by omega) (by omega)];omega
  have hstep:ref02_Sum_l28 ((x:Int),⟨s.toArray⟩,((16 - (n+1):Nat):Int))=some (.inl (((x / 16:Nat):Int),⟨(hexD (x % 16)::s).toArray⟩,((16 - n:Nat):Int))):=by
   have hcat:catG (⟨#[hexD (x % 16)]⟩:ByteArray) ⟨s.toArray⟩=some ():=by
    unfold catG;rw[if_pos];show 1+s.toArray.size≤_;simp;omega
   have hcc:io.cat (⟨#[hexD (x % 16)]⟩:ByteArray) ⟨s.toArray⟩=⟨(hexD (x % 16)::s).toArray⟩:=by
    rw[io_cat];apply ByteArray.ext;simp
   unfold ref02_Sum_l28;simp only[io_lt,qD h1,cond_true,hr,hr1,hq,hi,hex_sub _ (Nat.mod_lt x (by decide:0<16)),qA,hcat,hcc];rfl
  rw[hstep];have:=ih (x / 16) (hexD (x % 16)::s) (by omega) (Nat.lt_of_le_of_lt (Nat.div_le_self _ _) hx) (by simp;omega);show whileG ref02_Sum_l28 _=some ⟨(hexN n (x / 16)++[hexD (x % 16)]++s).toArray⟩;rw[this,List.append_assoc];rfl
theorem ref02_Sum_eq (t:ByteArray)(hb:t.size<4611686018427387904):ref02_Sum_g t=some (sumS t):=by
 have h1:=sum_loop t hb _ 0 rfl (Nat.zero_le _);have h1:whileG (ref02_Sum_l22 t) (7046029254386353131,0)=some ((sumN t.data.toList:Nat):Int):=h1;have h2:=hex_loop 16 (sumN t.data.toList) [] (qQ _) (sumK_lt _ _) rfl;have h2:whileG ref02_Sum_l28 (((sumN t.data.toList:Nat):Int),⟨#[]⟩,0)=some (sumS t):=by rw[List.append_nil] at h2;exact h2
 unfold ref02_Sum_g;rw[h1,qA,h2];rfl
end Go.SX.Rg
set_option linter.unusedVariables false
namespace Go.SX.Rg
open Go Go.SX
theorem mul64_lo {x y:Nat}(v:Int×Int)(h:math_bits_Mul64_g (x:Int) (y:Int)=some v):v.2=(((x * y) % M64:Nat):Int):=by
 unfold math_bits_Mul64_g at h;cases h;exact u_mul x y
theorem mul64_some (x y:Int):∃ v,math_bits_Mul64_g x y=some v:=⟨_,rfl⟩
theorem blkR_snoc (l:List UInt8):∀ (n f:Nat),blkR l f (n+1)=blkR l f n+byN l (f+n) * 256 ^ n
 | 0,f=>by simp[blkR]
 | n+1,f=>by
  have:=blkR_snoc l n (f+1);rw[blkR,this,blkR,Nat.pow_succ,show f+1+n=f+(n+1) by omega,Nat.mul_add,Nat.mul_left_comm 256,Nat.mul_comm 256 (256 ^ n),Nat.add_assoc]
theorem or_byte {a b n:Nat}(ha:a<256 ^ n):a ||| (b * 2 ^ (8 * n))=a+b * 256 ^ n:=by
 have e:(256:Nat) ^ n=2 ^ (8 * n):=by rw[show (256:Nat)=2 ^ 8 from rfl,← Nat.pow_mul]
 rw[e] at ha ⊢;have:=Nat.two_pow_add_eq_or_of_lt ha b;rw[Nat.mul_comm b,Nat.or_comm,← this,Nat.add_comm]
theorem mix_steps (step:(Int×Int)→Option ((Int×Int) ⊕ (Int))) (hs:∀ x14 v15,step (x14,v15)=bif (io.lt v15 2) then (
   Option.bind (
    Option.bind (pixG 2 v15) fun i17 =>
    some ((A2.mk (A2.mk (32:Int) 11400714819323198485) (A2.mk 29 13787848793156543929)).get i17)
    ) fun step16 =>
   Option.bind (shG step16.a0) fun _ =>
   Option.bind (math_bits_Mul64_g (io.ar .xor .u64 x14 (io.shr .u64 x14 step16.a0)) step16.a1) fun v18 =>
   some (.inl (v18.2,(io.ar .add .i64 v15 1)))
  ) else (
   some (.inr x14)
  )) {x:Nat} (hx:x<M64):(Option.bind (whileG step ((x:Int),0)) fun x13=>some (io.ar .xor .u64 x13 (io.shr .u64 x13 (.ofNat 32))))=some ((mixN x:Nat):Int):=by
 have h:∀ n:Nat,n % M64<M64:=fun n=>Nat.mod_lt _ (by decide)
 have hd:∀ n k:Nat,n<M64→n / k<M64:=fun n k hn=>Nat.lt_of_le_of_lt (Nat.div_le_self _ _) hn
 obtain⟨a,ha⟩:∃ a,a=((x ^^^ (x / 4294967296)) * 11400714819323198485) % M64:=⟨_,rfl⟩;have hal:a<M64:=by rw[ha];exact h _
 obtain⟨b,hb⟩:∃ b,b=((a ^^^ (a / 536870912)) * 13787848793156543929) % M64:=⟨_,rfl⟩;have hbl:b<M64:=by rw[hb];exact h _
 have s1:step ((x:Int),0)=some (.inl ((a:Int),1)):=by
  rw[hs];have e0:pixG 2 (0:Int)=some 0:=rfl;simp only[io_lt,e0,qA];have e1:io.ar .xor .u64 (x:Int) (io.shr .u64 (x:Int) 32)=((x ^^^ (x / 4294967296):Nat):Int):=by
   rw[show (32:Int)=((32:Nat):Int) from rfl,u_shr _ _ (by decide),u_xor hx (hd _ _ hx)]
  obtain⟨v,hv⟩:=mul64_some (io.ar .xor .u64 (x:Int) (io.shr .u64 (x:Int) 32)) 11400714819323198485;have hv':=hv;rw[e1] at hv';have h2:=mul64_lo (y:=11400714819323198485) v hv';show (Option.bind (shG 32) fun _=>Option.bind (math_bits_Mul64_g (io.ar .xor .u64 (x:Int) (io.shr .u64 (x:Int) 32)) 11400714819323198485) fun v18=>some (Sum.inl (v18.2,(io.ar .add .i64 0 1)):(Int×Int) ⊕ Int))=_;rw[hv,show shG 32=some () from rfl];simp only[qA];rw[h2,← ha,io_add];rfl
 have s2:step ((a:Int),1)=some (.inl ((b:Int),2)):=by
  rw[hs];have e0:pixG 2 (1:Int)=some 1:=rfl;simp only[io_lt,e0,qA];have e1:io.ar .xor .u64 (a:Int) (io.shr .u64 (a:Int) 29)=((a ^^^ (a / 536870912):Nat):Int):=by
   rw[show (29:Int)=((29:Nat):Int) from rfl,u_shr _ _ (by decide),u_xor hal (hd _ _ hal)]
  obtain⟨v,hv⟩:=mul64_some (io.ar .xor .u64 (a:Int) (io.shr .u64 (a:Int) 29)) 13787848793156543929;have hv':=hv;rw[e1] at hv';have h2:=mul64_lo (y:=13787848793156543929) v hv';show (Option.bind (shG 29) fun _=>Option.bind (math_bits_Mul64_g (io.ar .xor .u64 (a:Int) (io.shr .u64 (a:Int) 29)) 13787848793156543929) fun v18=>some (Sum.inl (v18.2,(io.ar .add .i64 1 1)):(Int×Int) ⊕ Int))=_;rw[hv,show shG 29=some () from rfl];simp only[qA];rw[h2,← hb,io_add];rfl
 have s3:step ((b:Int),2)=some (.inr (b:Int)):=by
  rw[hs];simp only[io_lt];rfl
 rw[whileG_eq,s1];show (Option.bind (whileG step ((a:Int),1)) _)=_;rw[whileG_eq,s2];show (Option.bind (whileG step ((b:Int),2)) _)=_;rw[whileG_eq,s3];simp only[qA];rw[show (Int.ofNat 32)=((32:Nat):Int) from rfl,u_shr _ _ (by decide),u_xor hbl (hd _ _ hbl)];unfold mixN;simp only[← ha,← hb]
theorem add_byte {a b n:Nat}(ha:a<256 ^ n)(hb:b<256)(hn:n<8):io.ar .or .u64 (a:Int) (io.shl .u64 (io.wrap .u64 (b:Int)) (io.ar .mul .i64 8 (n:Int)))=((a+b * 256 ^ n:Nat):Int)∧a+b * 256 ^ n<256 ^ (n+1):=by
 have hp:256 ^ (n+1)≤M64:=by
  rw[show M64=256 ^ 8 from rfl];exact Nat.pow_le_pow_right (by decide) (by omega)
 have hlt:a+b * 256 ^ n<256 ^ (n+1):=by
  rw[Nat.pow_succ];have:b * 256 ^ n≤255 * 256 ^ n:=Nat.mul_le_mul_right _ (by omega);omega
 have e:(2:Nat) ^ (8 * n)=256 ^ n:=by rw[show (256:Nat)=2 ^ 8 from rfl,← Nat.pow_mul]
 have hm:io.ar .mul .i64 8 (n:Int)=((8 * n:Nat):Int):=by
  rw[io_mul,wr64 (by omega) (by omega)];omega
 have hbl:b * 256 ^ n<M64:=by omega
 refine⟨?_,hlt⟩;rw[hm,io_wrap,wuN,Nat.mod_eq_of_lt (Nat.lt_trans hb (by decide)),u_shl _ _ (by omega),e,Nat.mod_eq_of_lt hbl,u_or (by omega) hbl,← or_byte ha,e]
def sumSt (l:List UInt8)(i:Nat):Int×Int×Int:=(((sumK l (i / 8):Nat):Int),((i % 8:Nat):Int),((blkR l (8 * (i / 8)) (i % 8):Nat):Int))
theorem sum_byte (l:List UInt8)(i:Nat)(step:(Int×Int)→Option ((Int×Int) ⊕ (Int)))(hs:∀ x:Nat,x<M64→(Option.bind (whileG step ((x:Int),0)) fun x13=>some (io.ar .xor .u64 x13 (io.shr .u64 x13 (.ofNat 32))))=some ((mixN x:Nat):Int)) :
  (Option.bind (shG (io.ar .mul .i64 8 (sumSt l i).2.1)) fun _ =>
   bif (io.eq (io.ar .add .i64 (sumSt l i).2.1 1) 8) then (
    Option.bind (
     Option.bind (whileG step ((io.ar .xor .u64 (sumSt l i).1 (io.ar .or .u64 (sumSt l i).2.2 (io.shl .u64 (io.wrap .u64 ((byN l i:Nat):Int)) (io.ar .mul .i64 8 (sumSt l i).2.1)))),0)) fun x13 =>
     some (io.ar .xor .u64 x13 (io.shr .u64 x13 (.ofNat 32)))) fun c12=>some (c12,0,0)
   ) else (
    some ((sumSt l i).1,(io.ar .add .i64 (sumSt l i).2.1 1),(io.ar .or .u64 (sumSt l i).2.2 (io.shl .u64 (io.wrap .u64 ((byN l i:Nat):Int)) (io.ar .mul .i64 8 (sumSt l i).2.1))))))=some (sumSt l (i+1)):=by
 have hn:i % 8<8:=Nat.mod_lt _ (by decide);obtain⟨h1,h2⟩:=add_byte (blkR_lt l (i % 8) (8 * (i / 8))) (byN_lt l i) hn;have hsn:=blkR_snoc l (i % 8) (8 * (i / 8));rw[show 8 * (i / 8)+i % 8=i by omega] at hsn;rw[← hsn] at h1 h2;have hsh:shG (io.ar .mul .i64 8 ((i % 8:Nat):Int))=some ():=by
  unfold shG;rw[io_mul,wr64 (by omega) (by omega),if_pos (by omega)]
 have hadd:io.ar .add .i64 ((i % 8:Nat):Int) 1=((i % 8+1:Nat):Int):=by rw[io_add,wr64 (by omega) (by omega)];omega
 simp only[sumSt,hsh,h1,hadd,qA,io_eqi];by_cases h8:i % 8+1=8
 ·have h8':((i % 8+1:Nat):Int)=8:=by omega
  rw[qD h8',cond_true,h8,u_xor (sumK_lt l _) (blk_lt l _),hs _ (Nat.xor_lt_two_pow (n:=64) (sumK_lt _ _) (blk_lt _ _)),show (i+1) / 8=i / 8+1 by omega,show (i+1) % 8=0 by omega];rfl
 ·have h8':((i % 8+1:Nat):Int)≠8:=by omega
  rw[qE h8',cond_false,show (i+1) / 8=i / 8 by omega,show (i+1) % 8=i % 8+1 by omega]
theorem sum_walk (t:ByteArray)(hb:t.size<4611686018427387904):∀ (d i:Nat),t.size - i=d→i≤t.size→whileG (digest_Sum_l42 t) ((sumSt t.data.toList i).1,(sumSt t.data.toList i).2.1,(sumSt t.data.toList i).2.2,(i:Int))=some (sumSt t.data.toList t.size):=by
 have hs:=size_list t;intro d
 induction d with
 | zero =>
  intro i hd hi;obtain rfl:i=t.size:=by omega
  rw[whileG_eq];have h1:¬ ((t.size:Nat):Int)<(t.size:Int):=by omega
  unfold digest_Sum_l42;simp only[io_lt,io_ssz,qE h1,cond_false]
 | succ d ih =>
  intro i hd hi;rw[whileG_eq];have h1:(i:Int)<(t.size:Int):=by omega
  have hbyv:byN t.data.toList i=(t.data.toList.getD i 0).toNat:=by unfold byN;rw[if_pos (by omega)]
  have hadd:io.ar .add .i64 (i:Int) 1=((i+1:Nat):Int):=by rw[io_add,wr64 (by omega) (by omega)];omega
  have hx:=sum_byte t.data.toList i digest_Sum_l50 (fun x hx=>mix_steps digest_Sum_l50 (fun _ _=>rfl) hx);have hstep:digest_Sum_l42 t ((sumSt t.data.toList i).1,(sumSt t.data.toList i).2.1,(sumSt t.data.toList i).2.2,(i:Int))=some (.inl ((sumSt t.data.toList (i+1)).1,(sumSt t.data.toList (i+1)).2.1,(sumSt t.data.toList (i+1)).2.2,((i+1:Nat):Int))):=by
   unfold digest_Sum_l42;simp only[io_lt,io_ssz,qD h1,cond_true,idxStr_at (show i<t.data.toList.length by omega),qA,← hbyv,hadd];rw[hx];rfl
  rw[hstep];exact ih (i+1) (by omega) (by omega)
theorem map_body {σ τ:Type}(A:Option Unit)(c:Bool)(B:Option Int)(f:Int→σ)(z:σ):(A.bind fun _=>bif c then (B.bind fun x=>some (.inl (f x):σ ⊕ τ)) else some (.inl z))=(A.bind fun _=>bif c then (B.bind fun x=>some (f x)) else some z).map .inl:=by
 cases A<;>cases c<;>cases B<;>rfl
theorem sum_zeros (l:List UInt8)(e:Nat):∀ (d i:Nat),8 * e - i=d→l.length<i→i≤8 * e→8 * e<i+8→whileG digest_Sum_l88 (sumSt l i)=some ((sumK l e:Nat):Int):=by
 intro d
 induction d with
 | zero =>
  intro i hd hi he h8;obtain rfl:i=8 * e:=by omega
  rw[whileG_eq];have e1:sumSt l (8 * e)=(((sumK l e:Nat):Int),0,0):=by
   unfold sumSt;rw[show 8 * e / 8=e by omega,show 8 * e % 8=0 by omega];rfl
  rw[e1];unfold digest_Sum_l88;simp only[io_lt];rfl
 | succ d ih =>
  intro i hd hi he h8;rw[whileG_eq];have hx:=sum_byte l i digest_Sum_l92 (fun x hx=>mix_steps digest_Sum_l92 (fun _ _=>rfl) hx);have hz:byN l i=0:=by unfold byN;rw[if_neg (by omega),if_neg (by omega)]
  rw[hz,show ((0:Nat):Int)=(0:Int) from rfl] at hx;have hpos:(0:Int)<(sumSt l i).2.1:=by
   show (0:Int)<((i % 8:Nat):Int);omega
  have hstep:digest_Sum_l88 (sumSt l i)=some (.inl (sumSt l (i+1))):=by
   rw[show sumSt l i=((sumSt l i).1,(sumSt l i).2.1,(sumSt l i).2.2) from rfl];unfold digest_Sum_l88;simp only[io_lt,qD hpos,cond_true];rw[map_body,hx];rfl
  rw[hstep];exact ih (i+1) (by omega) (by omega) (by omega) (by omega)
theorem hexN_eq (x:Nat):∀ n:Nat,hexN n x=(List.range n).map fun i=>hexD (x / 16 ^ (n - 1 - i) % 16):=by
 intro n
 induction n generalizing x with
 | zero=>rfl
 | succ n ih =>
  unfold hexN;rw[ih,List.range_succ,List.map_append];congr 1
  ·apply List.map_congr_left;intro i hi;have hi:=List.mem_range.1 hi;rw[Nat.div_div_eq_div_mul,show n+1 - 1 - i=(n - 1 - i)+1 by omega,Nat.pow_succ,Nat.mul_comm]
  ·simp
theorem hex_val (r:Nat)(h:r<16):UInt8.ofNat (hexTab.getD r 0).toNat=hexD r:=by
 match r,h with
 | 0,_ | 1,_ | 2,_ | 3,_ | 4,_ | 5,_ | 6,_ | 7,_ | 8,_ | 9,_ | 10,_ | 11,_ | 12,_ | 13,_ | 14,_ | 15,_=>rfl
 | r+16,h=>omega
theorem state_text_eq (x:Nat)(hx:x<M64):digest_state_text_g (x:Int)=some ⟨(hexN 16 x).toArray⟩:=by
 have hx':x<18446744073709551616:=hx;unfold digest_state_text_g;rw[if_pos ⟨by omega,by omega⟩,hexN_eq];unfold strOfNums;rw[List.map_map];refine congrArg (fun l:List UInt8=>some (⟨l.toArray⟩:ByteArray)) (List.map_congr_left fun i hi=>?_);have hi:=List.mem_range.1 hi;have hdig:(digI (x:Int) i).toNat=x / 16 ^ (16 - 1 - i) % 16:=by
  unfold digI;have e:(2:Int) ^ (60 - 4 * i)=(((16:Nat) ^ (16 - 1 - i):Nat):Int):=by
   rw[show (60 - 4 * i)=4 * (16 - 1 - i) by omega,Int.natCast_pow,Int.pow_mul];rfl
  rw[e];rfl
 show UInt8.ofNat (hexTab.getD (digI (x:Int) i).toNat 0).toNat=_;rw[hdig,hex_val _ (Nat.mod_lt _ (by decide))]
theorem sumSt_zero (l:List UInt8):sumSt l 0=(7046029254386353131,0,0):=by simp[sumSt,sumK,blkR]
theorem digest_Sum_eq (t:ByteArray)(hb:t.size<4611686018427387904):digest_Sum_g t=some (sumS t):=by
 have hs:=size_list t;have h1:=sum_walk t hb _ 0 rfl (Nat.zero_le _);rw[sumSt_zero] at h1;have h2:=sum_byte t.data.toList t.size digest_Sum_l79 (fun x hx=>mix_steps digest_Sum_l79 (fun _ _=>rfl) hx);have hone:byN t.data.toList t.size=1:=by unfold byN;rw[if_neg (by omega),if_pos (by omega)]
 rw[hone,show ((1:Nat):Int)=(1:Int) from rfl] at h2;have h3:=sum_zeros t.data.toList (t.size / 8+1) _ (t.size+1) rfl (by omega) (by omega) (by omega);have h4:=state_text_eq _ (sumK_lt t.data.toList (t.size / 8+1));have h5:sumS t=⟨(hexN 16 (sumK t.data.toList (t.size / 8+1))).toArray⟩:=by unfold sumS sumN;rw[← hs]
 rw[h5];generalize sumK t.data.toList (t.size / 8+1)=z at h3 h4;generalize sumSt t.data.toList (t.size+1)=st1 at h2 h3;generalize sumSt t.data.toList t.size=st at h1 h2;obtain⟨a1,a2,a3⟩:=st;obtain⟨b1,b2,b3⟩:=st1;unfold digest_Sum_g;have h1:whileG (digest_Sum_l42 t) (7046029254386353131,0,0,0)=some (a1,a2,a3):=h1;rw[h1,qA];dsimp only at h2 h3 ⊢;rw[h2,qA];dsimp only;rw[h3,qA,h4,qA]
end Go.SX.Rg
set_option linter.unusedVariables false
namespace Go.SX.Rg
open Go Go.SX
def listS (l:List ByteArray):ByteArray:=sumS ⟨(txtZ l).toArray⟩
theorem hexN_len : ∀ (n x:Nat),(hexN n x).length=n
 | 0,_=>rfl
 | n+1,x=>by unfold hexN;rw[qP,hexN_len n];rfl
theorem sumS_size (t:ByteArray):(sumS t).size=16:=by
 show (hexN 16 (sumN t.data.toList)).toArray.size=16;rw[List.size_toArray,hexN_len]
theorem list_eq (l:List ByteArray)(h:ListOk l):digest_List_g l=some (listS l):=by
 unfold digest_List_g;rw[if_pos h];refine digest_Sum_eq _ ?_;have:(txtZ l).length≤140737488355328:=h;show (txtZ l).toArray.size<_;rw[List.size_toArray];omega
theorem room_cons (x:ByteArray)(l:List ByteArray):room (x::l)=x.size+21+room l:=by simp[room]
theorem room_txt : ∀ l:List ByteArray,room l≤140737488355328→(txtZ l).length≤room l
 | [],_=>Nat.zero_le _
 | x::l,h=>by
  rw[room_cons] at h ⊢;have h1:=room_txt l (by omega);have h2:=itoa_nat_le x.size (by omega);have h3:(txtP x).length=(Lib.itoa x.size).length+1+x.size:=by
   have:=size_list x;unfold txtP;rw[qP,qP,← this];rfl
  have h4:txtZ (x::l)=txtP x++txtZ l:=rfl;rw[h4,qP];omega
theorem ref02_List_eq (l:List ByteArray)(h:room l≤140737488355328):ref02_List_g l=some (listS l):=by
 have h2:=room_txt l h;unfold ref02_List_g ref02_Joined_g;rw[if_pos h,qA,ref02_Sum_eq _ (by show (txtZ l).toArray.size<_;rw[List.size_toArray];omega)];rfl
def chainS (t:ByteArray):Nat→ByteArray
 | 0=>t
 | n+1=>chainS (sumS t) n
theorem chain_loop (n:Int):∀ (d:Nat)(i:Nat)(t:ByteArray),(min n 1000 - i).toNat=d→t.size<4611686018427387904→whileG (digest_Chain_l2 n) (t,(i:Int))=some (chainS t d):=by
 intro d
 induction d with
 | zero =>
  intro i t hd ht;rw[whileG_eq];have h1:¬ (i:Int)<max 0 (min n 1000):=by omega
  unfold digest_Chain_l2;simp only[io_lt,io_max,io_min,qE h1,cond_false];rfl
 | succ d ih =>
  intro i t hd ht;rw[whileG_eq];have h1:(i:Int)<max 0 (min n 1000):=by omega
  have hadd:io.ar .add .i64 (i:Int) 1=((i+1:Nat):Int):=by rw[io_add,wr64 (by omega) (by omega)];omega
  have hstep:digest_Chain_l2 n (t,(i:Int))=some (.inl (sumS t,((i+1:Nat):Int))):=by
   unfold digest_Chain_l2;simp only[io_lt,io_max,io_min,qD h1,cond_true,digest_Sum_eq t ht,qA,hadd]
  rw[hstep];exact ih (i+1) (sumS t) (by omega) (by rw[sumS_size];decide)
theorem chain_eq (t:ByteArray)(n:Int)(ht:t.size<4611686018427387904):digest_Chain_g t n=some (chainS t (min n 1000).toNat):=by
 have h:=chain_loop n _ 0 t rfl ht;unfold digest_Chain_g;rw[show ((0:Nat):Int)=0 from rfl] at h;rw[h,qA];simp
theorem rchain_loop (n:Int):∀ (d:Nat)(i:Nat)(t:ByteArray),(min n 1000 - i).toNat=d→t.size<4611686018427387904→whileG (ref02_Chain_l282 n) (t,(i:Int))=some (chainS t d):=by
 intro d
 induction d with
 | zero =>
  intro i t hd ht;rw[whileG_eq];have h1:¬ (i:Int)<min n 1000:=by omega
  unfold ref02_Chain_l282;simp only[io_lt,io_min,qE h1,cond_false];rfl
 | succ d ih =>
  intro i t hd ht;rw[whileG_eq];have h1:(i:Int)<min n 1000:=by omega
  have hadd:io.ar .add .i64 (i:Int) 1=((i+1:Nat):Int):=by rw[io_add,wr64 (by omega) (by omega)];omega
  have hsum:(Option.bind (whileG (ref02_Chain_l332 t) (7046029254386353131,0)) fun state5=>Option.bind (whileG (ref02_Chain_l338) (state5,⟨#[]⟩,0)) fun s16=>some s16)=some (sumS t):=by
   rw[← ref02_Sum_eq t ht];rfl
  have hstep:ref02_Chain_l282 n (t,(i:Int))=some (.inl (sumS t,((i+1:Nat):Int))):=by
   unfold ref02_Chain_l282;simp only[io_lt,io_min,qD h1,cond_true,hadd];rw[hsum];rfl
  rw[hstep];exact ih (i+1) (sumS t) (by omega) (by rw[sumS_size];decide)
theorem rchain_eq (t:ByteArray)(n:Int)(ht:t.size<4611686018427387904):ref02_Chain_g t n=some (chainS t (min n 1000).toNat):=by
 have h:=rchain_loop n _ 0 t rfl ht;unfold ref02_Chain_g;rw[show ((0:Nat):Int)=0 from rfl] at h;rw[h,qA];simp
end Go.SX.Rg
set_option linter.unusedVariables false
namespace Go.SX.Rg
open Go Go.SX
def dN (m:ByteArray)(k:Nat):Nat:=sumN m.data.toList / 16 ^ (16 - 1 - k) % 16
theorem dN_lt (m:ByteArray)(k:Nat):dN m k<16:=Nat.mod_lt _ (by decide)
theorem sumS_list (m:ByteArray):(sumS m).data.toList=hexN 16 (sumN m.data.toList):=by rw[sumS]
theorem hex_map (x:Nat)(f:Nat→UInt8)(n:Nat)(h:∀ k,hexD (x / 16 ^ (n - 1 - k) % 16)=f k):hexN n x=(List.range n).map f:=by
 rw[hexN_eq];exact List.map_congr_left fun k _=>h k
theorem sumS_bytes (m:ByteArray):(sumS m).data.toList=(List.range 16).map fun k=>hexD (dN m k):=by
 rw[sumS_list];exact hex_map _ _ _ fun k=>by rw[dN]
theorem sumS_byte (m:ByteArray){k:Nat}(h:k<16):(sumS m).data.toList.getD k 0=hexD (dN m k):=by
 rw[sumS_bytes,qY,qI,List.getElem?_range h,qS,Option.getD_some]
theorem ix_hex (r:Nat)(h:r<16):Lib.indexByte hexL (hexD r)=(r:Int):=by
 match r,h with
 | 0,_ | 1,_ | 2,_ | 3,_ | 4,_ | 5,_ | 6,_ | 7,_ | 8,_ | 9,_ | 10,_ | 11,_ | 12,_ | 13,_ | 14,_ | 15,_=>rfl
 | r+16,h=>omega
theorem dgI_eq (m:ByteArray){k:Nat}(h:k<16):dgI (sumS m) k=((dN m k:Nat):Int):=by
 unfold dgI;rw[sumS_byte m h,ix_hex _ (dN_lt m k)]
def ckN (m:ByteArray):Nat→Nat
 | 0=>0
 | k+1=>ckN m k+(15 - dN m k)
theorem ckN_le (m:ByteArray):∀ k,ckN m k≤15 * k
 | 0=>qQ _
 | k+1=>by have:=ckN_le m k;unfold ckN;omega
theorem dgSum_eq (m:ByteArray):∀ k,k≤16→dgSum (sumS m) k=((ckN m k:Nat):Int)
 | 0,_=>rfl
 | k+1,h=>by
  have:=dN_lt m k;unfold dgSum ckN;rw[dgSum_eq m k (by omega),dgI_eq m (by omega)];omega
def dgN (m:ByteArray)(k:Nat):Nat:=if k<16 then dN m k else if k=16 then ckN m 16 / 16 else ckN m 16 % 16
theorem dgN_lt (m:ByteArray)(k:Nat):dgN m k<16:=by
 unfold dgN;have:=ckN_le m 16;split
 ·exact dN_lt m k
 ·split<;>omega
theorem digits_eq2 (m:ByteArray)(hb:m.size<4611686018427387904):sign_digits_g m=some (dgA (sumS m)):=by
 unfold sign_digits_g;rw[digest_Sum_eq m hb,qA,if_pos (sumS_size m)]
theorem dgA_get0 (t:ByteArray)(f:Nat→Nat)(h0:∀ k,k<16→dgI t k=((f k:Nat):Int))(h1:dgSum t 16 / 16=((f 16:Nat):Int))(h2:dgSum t 16 % 16=((f 17:Nat):Int)){k:Nat}(h:k<18):(dgA t).get k=((f k:Nat):Int):=by
 unfold dgA;generalize dgSum t 16 / 16=a at h1;generalize dgSum t 16 % 16=b at h2;generalize dgI t=g at h0
 match k,h with
 | 0,_=>exact h0 0 (by decide)
 | 1,_=>exact h0 1 (by decide)
 | 2,_=>exact h0 2 (by decide)
 | 3,_=>exact h0 3 (by decide)
 | 4,_=>exact h0 4 (by decide)
 | 5,_=>exact h0 5 (by decide)
 | 6,_=>exact h0 6 (by decide)
 | 7,_=>exact h0 7 (by decide)
 | 8,_=>exact h0 8 (by decide)
 | 9,_=>exact h0 9 (by decide)
 | 10,_=>exact h0 10 (by decide)
 | 11,_=>exact h0 11 (by decide)
 | 12,_=>exact h0 12 (by decide)
 | 13,_=>exact h0 13 (by decide)
 | 14,_=>exact h0 14 (by decide)
 | 15,_=>exact h0 15 (by decide)
 | 16,_=>exact h1
 | 17,_=>exact h2
 | k+18,h=>omega
theorem dgN_16 (m:ByteArray):dgN m 16=ckN m 16 / 16:=by unfold dgN;rw[if_neg (by decide),if_pos rfl]
theorem dgN_17 (m:ByteArray):dgN m 17=ckN m 16 % 16:=by unfold dgN;rw[if_neg (by decide),if_neg (by decide)]
theorem dgA_get (m:ByteArray){k:Nat}(h:k<18):(dgA (sumS m)).get k=((dgN m k:Nat):Int):=by
 refine dgA_get0 _ _ (fun k hk=>?_) ?_ ?_ h
 ·rw[dgI_eq m hk];unfold dgN;rw[if_pos hk]
 ·rw[dgSum_eq m 16 (qQ _),dgN_16];omega
 ·rw[dgSum_eq m 16 (qQ _),dgN_17];omega
theorem hex_ref (r:Nat)(h:r<16):ref03_hex_g (((hexD r).toNat:Nat):Int)=some (r:Int):=by
 unfold ref03_hex_g;rw[io_eq]
 match r,h with
 | 0,_ | 1,_ | 2,_ | 3,_ | 4,_ | 5,_ | 6,_ | 7,_ | 8,_ | 9,_ | 10,_ | 11,_ | 12,_ | 13,_ | 14,_ | 15,_=>rfl
 | r+16,h=>omega
theorem rdig_loop (m:ByteArray):∀ (d i:Nat),16 - i=d→i≤16→whileG (ref03_Digits_l2 (sumS m)) ((List.range i).map (fun k=>((dN m k:Nat):Int)),((ckN m i:Nat):Int),(i:Int))=some ((List.range 16).map (fun k=>((dN m k:Nat):Int)),((ckN m 16:Nat):Int)):=by
 have hs:((sumS m).size:Int)=16:=by rw[sumS_size];rfl
 intro d
 induction d with
 | zero =>
  intro i hd hi;obtain rfl:i=16:=by omega
  rw[whileG_eq];have h1:¬ ((16:Nat):Int)<((sumS m).size:Int):=by omega
  unfold ref03_Digits_l2;simp only[io_lt,io_ssz,qE h1,cond_false]
 | succ d ih =>
  intro i hd hi;rw[whileG_eq];have h1:(i:Int)<((sumS m).size:Int):=by omega
  have hlt:=dN_lt m i;have hck:=ckN_le m i;have hadd:io.ar .add .i64 (i:Int) 1=((i+1:Nat):Int):=by rw[io_add,wr64 (by omega) (by omega)];omega
  have hck1:io.ar .add .i64 ((ckN m i:Nat):Int) (io.ar .sub .i64 15 ((dN m i:Nat):Int))=((ckN m (i+1):Nat):Int):=by
   rw[io_subi,wr64 (by omega) (by omega),io_add,wr64 (by omega) (by omega)];show _=((ckN m i+(15 - dN m i):Nat):Int);omega
  have happ:appG ((List.range i).map (fun k=>((dN m k:Nat):Int))) [((dN m i:Nat):Int)]=some ((List.range (i+1)).map (fun k=>((dN m k:Nat):Int))):=by
   rw[appG_some (by simp;omega),List.range_succ,List.map_append];rfl
  have hstep:ref03_Digits_l2 (sumS m) ((List.range i).map (fun k=>((dN m k:Nat):Int)),((ckN m i:Nat):Int),(i:Int))=some (.inl ((List.range (i+1)).map (fun k=>((dN m k:Nat):Int)),((ckN m (i+1):Nat):Int),((i+1:Nat):Int))):=by
   unfold ref03_Digits_l2;simp only[io_lt,io_ssz,qD h1,cond_true,idxStr_at (show i<(sumS m).data.toList.length by rw[← size_list,sumS_size];omega),sumS_byte m (show i<16 by omega),qA,hex_ref _ hlt,happ,hck1,hadd]
  rw[hstep];exact ih (i+1) (by omega) (by omega)
theorem rdigits_eq (m:ByteArray):ref03_Digits_g (sumS m)=some ((List.range 18).map fun k=>((dgN m k:Nat):Int)):=by
 have h:=rdig_loop m _ 0 rfl (Nat.zero_le _);have h:whileG (ref03_Digits_l2 (sumS m)) ([],0,0)=some ((List.range 16).map (fun k=>((dN m k:Nat):Int)),((ckN m 16:Nat):Int)):=h;unfold ref03_Digits_g;rw[h,qA];have hck:=ckN_le m 16;have hq:io.quo .i64 ((ckN m 16:Nat):Int) 16=((ckN m 16 / 16:Nat):Int):=by
  rw[io_quo,show (((ckN m 16:Nat):Int).tdiv 16)=((ckN m 16 / 16:Nat):Int) from rfl,wr64 (by omega) (by omega)]
 have hr:io.rem ((ckN m 16:Nat):Int) 16=((ckN m 16 % 16:Nat):Int):=by rw[io_rem];rfl
 have happ:appG ((List.range 16).map (fun k=>((dN m k:Nat):Int))) [((ckN m 16 / 16:Nat):Int),((ckN m 16 % 16:Nat):Int)]=some ((List.range 18).map fun k=>((dgN m k:Nat):Int)):=by
  have e1:(List.range 16).map (fun k=>((dN m k:Nat):Int))=(List.range 16).map (fun k=>((dgN m k:Nat):Int)):=List.map_congr_left fun k hk=>by
   unfold dgN;rw[if_pos (List.mem_range.1 hk)]
  rw[← dgN_16,← dgN_17,e1,appG_some (by simp),show (18:Nat)=16+1+1 from rfl,List.range_succ,List.range_succ,List.map_append,List.map_append,List.append_assoc];rfl
 generalize dN m=g at happ ⊢;dsimp only;rw[hq,hr,show divG 16=some () from rfl];simp only[qA];rw[happ];rfl
end Go.SX.Rg
set_option linter.unusedVariables false
namespace Go.SX.Rg
open Go Go.SX
def numB (i:Nat):ByteArray:=⟨(Lib.itoa (i:Int)).toArray⟩
def startS (s:ByteArray)(i:Nat):ByteArray:=listS [s,numB i]
def publicS (s:ByteArray):ByteArray:=listS ((List.range 18).map fun i=>chainS (startS s i) 15)
def signS (s m:ByteArray):List ByteArray:=(List.range 18).map fun i=>chainS (startS s i) (dgN m i)
theorem allG_all {α:Type}{f:Nat→Option α}{g:Nat→α}:∀ n,(∀ i,i<n→f i=some (g i))→allG f n=some ((List.range n).map g)
 | 0,_=>rfl
 | n+1,h=>by
  unfold allG;rw[allG_all n fun i hi=>h i (by omega),h n (by omega),List.range_succ,List.map_append];rfl
theorem room_ok {l:List ByteArray}(h:room l≤140737488355328):ListOk l:=Nat.le_trans (room_txt l h) h
theorem numB_size (i:Nat)(h:i≤1000000):(numB i).size≤20:=by
 have:=itoa_nat_le i (by omega);show (Lib.itoa (i:Int)).toArray.size≤20;rw[List.size_toArray];exact this
theorem start_ok (s:ByteArray)(i:Nat)(hs:s.size≤1000000)(hi:i<18):digest_List_g [s,numB i]=some (startS s i):=by
 refine list_eq _ (room_ok ?_);have:=numB_size i (by omega);rw[room_cons,room_cons];show _+(_+0)≤_;omega
theorem startS_size (s:ByteArray)(i:Nat):(startS s i).size=16:=sumS_size _
theorem chainS_size : ∀ (n:Nat)(t:ByteArray),t.size=16→(chainS t n).size=16
 | 0,_,h=>h
 | n+1,t,_=>chainS_size n _ (sumS_size t)
theorem chainS_add : ∀ (a b:Nat)(t:ByteArray),chainS (chainS t a) b=chainS t (a+b)
 | 0,b,t=>by rw[Nat.zero_add];rfl
 | a+1,b,t=>by rw[Nat.add_right_comm];exact chainS_add a b (sumS t)
theorem walk_eq (s:ByteArray)(hs:s.size≤1000000)(dg:Nat→Int)(f:Nat→Nat)(hd:∀ i,i<18→dg i=((f i:Nat):Int)∧f i≤1000):walk_g s dg=some ((List.range 18).map fun i=>chainS (startS s i) (f i)):=by
 unfold walk_g;refine allG_all _ fun i hi=>?_
 obtain⟨h1,h2⟩:=hd i hi;rw[show (⟨(Lib.itoa (i:Int)).toArray⟩:ByteArray)=numB i from rfl,start_ok s i hs hi,qA,h1,chain_eq _ _ (by rw[startS_size];decide),show (min ((f i:Nat):Int) 1000).toNat=f i by omega]
theorem ends_room : ∀ l:List ByteArray,(∀ x∈l,x.size=16)→room l=37 * l.length
 | [],_=>rfl
 | x::l,h=>by rw[room_cons,ends_room l fun y hy=>h y (List.mem_cons_of_mem _ hy),h x (List.mem_cons_self ..),qV];omega
theorem public_eq (s:ByteArray)(hs:s.size≤1000000):sign_Public_g s=some (publicS s):=by
 unfold sign_Public_g sign_walk56_g;rw[walk_eq s hs (fun _=>(15:Int)) (fun _=>15) (fun i _=>⟨by omega,by omega⟩),qA,list_eq,qA]
 ·rw[publicS]
 ·refine room_ok ?_;rw[ends_room]
  ·rw[qO,List.length_range];omega
  ·intro x hx;obtain⟨i,_,rfl⟩:=List.mem_map.1 hx;exact chainS_size _ _ (startS_size s i)
theorem sign_eq (s m:ByteArray)(hs:s.size≤1000000)(hm:m.size<4611686018427387904):sign_Sign_g s m=some (signS s m):=by
 unfold sign_Sign_g sign_walk69_g;rw[digits_eq2 m hm,qA,walk_eq s hs _ (dgN m) (fun i hi=>⟨dgA_get m hi,by have:=dgN_lt m i;omega⟩),qA];rw[signS]
end Go.SX.Rg
set_option linter.unusedVariables false
namespace Go.SX.Rg
open Go Go.SX
theorem seq_dec (a b:ByteArray):io.seq a b=decide (a=b):=by
 rw[io_seq];by_cases h:a=b
 ·simp[h]
 ·have hne:¬ a.toList=b.toList:=by
   intro e;rw[ByteArray.toList_eq,ByteArray.toList_eq] at e;exact h (ByteArray.ext (Array.toList_inj.mp e))
  rw[qE h];exact beq_eq_false_iff_ne.2 hne
def isS (t:ByteArray):Bool:=decide (t.size=16)&&t.data.toList.all (hexL.contains ·)
theorem isS_size {t:ByteArray}(h:isS t=true):t.size=16:=by
 unfold isS at h;simp only[qJ,zB] at h;exact h.1
theorem dropWhile_nil (p:UInt8→Bool):∀ l:List UInt8,l.dropWhile p=[]↔l.all p=true
 | []=>by simp
 | x::l=>by
  rw[List.dropWhile_cons,List.all_cons];cases h:p x<;>simp[dropWhile_nil p l]
theorem dropWhile_all (p:UInt8→Bool):∀ l:List UInt8,(l.dropWhile p).all p=true↔l.all p=true
 | []=>by simp
 | x::l=>by
  rw[List.dropWhile_cons];cases h:p x
  ·simp[h]
  ·rw[if_pos rfl,dropWhile_all p l,List.all_cons,h,Bool.true_and]
theorem trimS_nil (l cs:List UInt8):Lib.trimS l cs=[]↔l.all (cs.contains ·)=true:=by
 unfold Lib.trimS Lib.trimLeftS Lib.trimRightS;rw[dropWhile_nil,List.all_reverse,dropWhile_all,List.all_reverse]
theorem digest_Is_eq (t:ByteArray):digest_Is_g t=some (isS t):=by
 unfold digest_Is_g isS;rw[io_ssz,io_eqi];by_cases h:t.size=16
 ·have h':(t.size:Int)=16:=by omega
  have ht:strings_Trim_g t (⟨#[48,49,50,51,52,53,54,55,56,57,97,98,99,100,101,102]⟩)=some ⟨(Lib.trimS t.data.toList hexL).toArray⟩:=by
   unfold strings_Trim_g;rw[if_pos]
   ·rfl
   ·refine⟨by omega,by decide,fun j b hb=>?_⟩;have hb:hexL[j]?=some b:=hb;have:b∈hexL:=qU hb;simp only[hexL,List.mem_cons,List.not_mem_nil,or_false] at this;rcases this with rfl | rfl | rfl | rfl | rfl | rfl | rfl | rfl | rfl | rfl | rfl | rfl | rfl | rfl | rfl | rfl<;>decide
  rw[qD h',cond_true,ht,qA,qD h,Bool.true_and,seq_dec];congr 1;have e:=trimS_nil t.data.toList hexL;rw[Bool.eq_iff_iff,← e,zB]
  constructor
  ·intro h;have:=congrArg ByteArray.data h
   simpa using this
  ·intro h;rw[h]
 ·have h':¬ (t.size:Int)=16:=by omega
  rw[qE h',cond_false,qE h,Bool.false_and]
theorem hexL_all : ∀ n:_root_.Fin 256,hexL.contains (UInt8.ofNat n.val)=((decide (48≤n.val)&&decide (n.val≤57))||(decide (97≤n.val)&&decide (n.val≤102))):=by decide +kernel
theorem hexL_iff (b:UInt8):hexL.contains b=((decide (48≤b.toNat)&&decide (b.toNat≤57))||(decide (97≤b.toNat)&&decide (b.toNat≤102))):=by
 have:=hexL_all ⟨b.toNat,b.toNat_lt⟩;rw[show UInt8.ofNat b.toNat=b by simp] at this;exact this
theorem wr8 {n:Int}(h0:0≤n)(h1:n<256):IntKind.u8.wrap n=n:=by
 simp[IntKind.wrap,IntKind.bits,IntKind.signed];omega
theorem Digit_eq (b:UInt8):∃ d:Int,ref02_Digit_g ((b.toNat:Nat):Int)=some d∧decide (d<0)=!hexL.contains b:=by
 have hb:=b.toNat_lt;rw[hexL_iff];unfold ref02_Digit_g;simp only[io_le,io_subi,io_add,io_wrap];generalize b.toNat=n at hb;by_cases h1:48≤n
 ·have h1':(48:Int)≤(n:Int):=by omega
  by_cases h2:n≤57
  ·have h2':(n:Int)≤57:=by omega
   simp only[qD h1,qD h2,qD h1',qD h2',cond_true,qA];refine⟨_,rfl,?_⟩;rw[wr8 (by omega) (by omega),wr64 (by omega) (by omega)];simp;omega
  ·have h2':¬ (n:Int)≤57:=by omega
   simp only[qD h1,qE h2,qD h1',qE h2',cond_true,cond_false,qA];by_cases h3:97≤n
   ·have h3':(97:Int)≤(n:Int):=by omega
    by_cases h4:n≤102
    ·have h4':(n:Int)≤102:=by omega
     simp only[qD h3,qD h4,qD h3',qD h4',cond_true,qA];refine⟨_,rfl,?_⟩;rw[wr8 (by omega) (by omega),wr64 (n:=(n:Int) - 97) (by omega) (by omega),wr64 (by omega) (by omega)];simp;omega
    ·have h4':¬ (n:Int)≤102:=by omega
     simp only[qD h3,qE h4,qD h3',qE h4',cond_true,cond_false,qA];exact⟨_,rfl,rfl⟩
   ·have h3':¬ (97:Int)≤(n:Int):=by omega
    simp only[qE h3,qE h3',cond_false,qA];exact⟨_,rfl,rfl⟩
 ·have h1':¬ (48:Int)≤(n:Int):=by omega
  have h3:¬ 97≤n:=by omega
  have h3':¬ (97:Int)≤(n:Int):=by omega
  simp only[qE h1,qE h3,qE h1',qE h3',cond_false,qA];exact⟨_,rfl,rfl⟩
theorem ref02_Is_eq (t:ByteArray):ref02_Is_g t=some (isS t):=by
 have hs:=size_list t;unfold ref02_Is_g;have hl:=loop_any (step:=ref02_Is_l2 t) (t.data.toList.take 16) (fun b=>!hexL.contains b) (.inr false) (.inl ()) (fun k b hb=>by
  rw[List.getElem?_take] at hb;split at hb
  ·rename_i hk;have hkl:=(qC.1 hb).1;have h1:(k:Int)<(t.size:Int):=by omega
   have h2:(k:Int)<16:=by omega
   obtain⟨d,hd,hd2⟩:=Digit_eq b;have hget:t.data.toList.getD k 0=b:=by rw[qY,hb];rfl
   unfold ref02_Is_l2;simp only[io_lt,io_ssz,qD h1,qD h2,cond_true,qA,idxStr_at hkl,hget,hd,hd2,io_add,wr_up (k:=k) (by omega)];cases hexL.contains b<;>rfl
  ·cases hb) (by
  rw[qW];unfold ref02_Is_l2;by_cases h:t.data.toList.length≤16
  ·have h1:¬ ((min 16 t.data.toList.length:Nat):Int)<(t.size:Int):=by omega
   simp only[io_lt,io_ssz,qE h1,cond_false,qA]
  ·have h1:((min 16 t.data.toList.length:Nat):Int)<(t.size:Int):=by omega
   have h2:¬ ((min 16 t.data.toList.length:Nat):Int)<16:=by omega
   simp only[io_lt,io_ssz,qD h1,qE h2,cond_true,cond_false,qA])
 rw[hl,io_eqi,io_ssz];unfold isS;by_cases h:t.size=16
 ·have h':(t.size:Int)=16:=by omega
  rw[List.take_of_length_le (by omega),qD h,Bool.true_and,qD h'];cases ha:t.data.toList.all (hexL.contains ·)
  ·rw[if_pos]
   ·rfl
   ·rw[List.any_eq_not_all_not];simp only[Bool.not_not,ha,Bool.not_false]
  ·rw[if_neg]
   ·rfl
   ·rw[List.any_eq_not_all_not];simp only[Bool.not_not,ha,Bool.not_true]
    decide
 ·have h':¬ (t.size:Int)=16:=by omega
  rw[qE h,Bool.false_and,qE h'];split<;>rfl
theorem hexD_in (r:Nat)(h:r<16):hexL.contains (hexD r)=true:=by
 match r,h with
 | 0,_ | 1,_ | 2,_ | 3,_ | 4,_ | 5,_ | 6,_ | 7,_ | 8,_ | 9,_ | 10,_ | 11,_ | 12,_ | 13,_ | 14,_ | 15,_=>rfl
 | r+16,h=>omega
theorem all_hex (g:Nat→Nat)(hg:∀ k,g k<16):((List.range 16).map fun k=>hexD (g k)).all (hexL.contains ·)=true:=by
 rw[List.all_map,qL];intro k _;exact hexD_in _ (hg k)
theorem sumS_is (t:ByteArray):isS (sumS t)=true:=by
 unfold isS;rw[qD (sumS_size t),Bool.true_and,sumS_bytes];exact all_hex (dN t) (dN_lt t)
theorem chainS_is : ∀ (n:Nat)(t:ByteArray),isS t=true→isS (chainS t n)=true
 | 0,_,h=>h
 | n+1,t,_=>chainS_is n _ (sumS_is t)
theorem listS_is (l:List ByteArray):isS (listS l)=true:=sumS_is _
def ownerS (t:Title):ByteArray:=match t.Chain.getLast? with | some x=>x.To | none=>t.First
theorem last_at {t:Title}(h:0<t.Chain.length):∃ x,t.Chain[t.Chain.length - 1]?=some x∧ownerS t=x.To:=by
 have h1:t.Chain[t.Chain.length - 1]?=some (t.Chain[t.Chain.length - 1]'(by omega)):=qK _;refine⟨_,h1,?_⟩;unfold ownerS;rw[List.getLast?_eq_getElem?,h1]
theorem owner_nil {t:Title}(h:t.Chain.length=0):ownerS t=t.First:=by
 unfold ownerS;rw[List.eq_nil_of_length_eq_zero h];rfl
theorem len_sub {n:Nat}(h:0<n)(h2:n≤1000000):io.ar .sub .i64 (n:Int) 1=((n - 1:Nat):Int):=by
 rw[io_subi,wr64 (by omega) (by omega)];omega
theorem owner_eq (t:Title)(h:t.Chain.length≤1000000):title_Owner_g t=some (ownerS t):=by
 unfold title_Owner_g;rw[io_lt,io_len];by_cases h0:0<t.Chain.length
 ·have h1:(0:Int)<(t.Chain.length:Int):=by omega
  obtain⟨x,h2,h3⟩:=last_at h0;rw[qD h1,cond_true,len_sub h0 h,idxG_some h2,qA,h3]
 ·have h1:¬ (0:Int)<(t.Chain.length:Int):=by omega
  rw[qE h1,cond_false,owner_nil (by omega)]
theorem rowner_eq (t:Title)(h:t.Chain.length≤1000000):ref30_Owner_g t=some (ownerS t):=by
 unfold ref30_Owner_g;rw[io_eqi,io_len];by_cases h0:0<t.Chain.length
 ·have h1:¬ (t.Chain.length:Int)=0:=by omega
  obtain⟨x,h2,h3⟩:=last_at h0;rw[qE h1,cond_false,len_sub h0 h,idxG_some h2,qA,h3]
 ·have h1:(t.Chain.length:Int)=0:=by omega
  rw[qD h1,cond_true,owner_nil (by omega)]
def usedS (t:Title)(key:ByteArray):Bool:=decide (t.First=key)||t.Chain.any fun x=>decide (x.To=key)
theorem used_eq (t:Title)(key:ByteArray)(h:t.Chain.length≤1000000):title_used_g t key=some (usedS t key):=by
 unfold title_used_g usedS;rw[seq_dec];by_cases h0:t.First=key
 ·rw[qD h0,cond_true,Bool.true_or]
 ·rw[qE h0,cond_false,Bool.false_or];rw[loop_any (step:=title_used_l2 t key) t.Chain (fun x=>decide (x.To=key)) (.inr true) (.inl ()) (fun k x hx=>by
   have hk:=(qC.1 hx).1;have h1:(k:Int)<(t.Chain.length:Int):=by omega
   have h2:(0:Int)≤(k:Int):=by omega
   unfold title_used_l2;simp only[io_lt,io_len,io_le,qD h1,cond_true,idxG_some hx,qA,seq_dec,qD h2,io_add,wr_up (k:=k) (by omega)];cases decide (x.To=key)<;>rfl) (by
   have h1:¬ (t.Chain.length:Int)<(t.Chain.length:Int):=by omega
   unfold title_used_l2;simp only[io_lt,io_len,qE h1,cond_false])]
  cases t.Chain.any fun x=>decide (x.To=key)
  ·rw[if_neg (by decide),io_le];rfl
  ·rw[if_pos rfl];rfl
theorem rused_eq (t:Title)(key:ByteArray)(h:t.Chain.length≤1000000):ref30_Used_g t key=some (usedS t key):=by
 unfold ref30_Used_g usedS;rw[seq_dec];by_cases h0:t.First=key
 ·rw[qD h0,cond_true,Bool.true_or]
 ·rw[qE h0,cond_false,Bool.false_or];rw[loop_any (step:=ref30_Used_l2 t key) t.Chain (fun x=>decide (x.To=key)) (.inr true) (.inl ()) (fun k x hx=>by
   have hk:=(qC.1 hx).1;have h1:(k:Int)<(t.Chain.length:Int):=by omega
   unfold ref30_Used_l2;simp only[io_lt,io_len,qD h1,cond_true,idxG_some hx,qA,seq_dec,io_add,wr_up (k:=k) (by omega)];cases decide (x.To=key)<;>rfl) (by
   have h1:¬ (t.Chain.length:Int)<(t.Chain.length:Int):=by omega
   unfold ref30_Used_l2;simp only[io_lt,io_len,qE h1,cond_false])]
  cases t.Chain.any fun x=>decide (x.To=key)
  ·rw[if_neg (by decide)];rfl
  ·rw[if_pos rfl];rfl
def numI (n:Int):ByteArray:=⟨(Lib.itoa n).toArray⟩
theorem numI_size (n:Int)(h0:0≤n)(h1:n≤1000000000):(numI n).size≤20:=by
 obtain⟨k,rfl⟩:∃ k:Nat,n=(k:Int):=⟨n.toNat,by omega⟩;have:=itoa_nat_le k (by omega);show (Lib.itoa (k:Int)).toArray.size≤20;rw[List.size_toArray];exact this
def fieldsS (t:Title)(to:ByteArray):List ByteArray:=[numI t.Serial,numI t.Show,t.First]++t.Chain.map (·.To)++[to]
def msgS (t:Title)(to:ByteArray):ByteArray:=listS (fieldsS t to)
theorem foldl_to (c:List Transfer)(s:List ByteArray):c.foldl (fun s x=>s++[x.To]) s=s++c.map (·.To):=by
 induction c generalizing s with
 | nil=>simp
 | cons x c ih=>rw[List.foldl_cons,ih,qR,List.append_assoc];rfl
theorem room_sum (B:Nat):∀ l:List ByteArray,(∀ x∈l,x.size≤B)→room l≤l.length * (B+21)
 | [],_=>Nat.zero_le _
 | x::l,h=>by
  have h1:=room_sum B l fun y hy=>h y (List.mem_cons_of_mem _ hy)
  have h2:=h x (List.mem_cons_self ..);rw[room_cons,qV,Nat.add_mul];omega
structure MsgOk (t:Title)(to:ByteArray):Prop where
 s0:0≤t.Serial
 s1:t.Serial≤1000000000
 h0:0≤t.Show
 h1:t.Show≤1000000000
 f:t.First.size≤1000
 c:∀ x∈t.Chain,x.To.size≤1000
 n:t.Chain.length≤1000
 t:to.size≤1000
theorem MsgOk.room {t:Title}{to:ByteArray}(h:MsgOk t to):room (fieldsS t to)≤140737488355328:=by
 have h1:=room_sum 1000 (fieldsS t to) (fun x hx=>by
  unfold fieldsS at hx;simp only[qT,List.mem_cons,List.not_mem_nil,or_false,List.mem_map] at hx;rcases hx with ((rfl | rfl | rfl) | ⟨y,hy,rfl⟩) | rfl
  ·have:=numI_size _ h.s0 h.s1;omega
  ·have:=numI_size _ h.h0 h.h1;omega
  ·exact h.f
  ·exact h.c y hy
  ·exact h.t)
 have h2:(fieldsS t to).length≤1004:=by
  have:=h.n;unfold fieldsS;simp only[qP,qV,List.length_nil,qO];omega
 have h3:(fieldsS t to).length * (1000+21)≤1004 * 1021:=Nat.mul_le_mul_right _ h2;omega
theorem msg_eq (t:Title)(to:ByteArray)(h:MsgOk t to):title_Message_g t to=some (msgS t to):=by
 have hn:=h.n;have hs0:=h.s0;have hs1:=h.s1;have hh0:=h.h0;have hh1:=h.h1;have e1:strconv_Itoa_g t.Serial=some (numI t.Serial):=by unfold strconv_Itoa_g;rw[if_pos ⟨by omega,by omega⟩];rfl
 have e2:strconv_Itoa_g t.Show=some (numI t.Show):=by unfold strconv_Itoa_g;rw[if_pos ⟨by omega,by omega⟩];rfl
 unfold title_Message_g;rw[e1,e2,qA,qA,qA];rw[loop_fold (step:=title_Message_l2 t) (fun s i=>(s,i)) t.Chain (fun s x=>s++[x.To]) [numI t.Serial,numI t.Show,t.First] ([numI t.Serial,numI t.Show,t.First]++t.Chain.map (·.To)) (fun k x hx=>by
  have hk:=(qC.1 hx).1;have h1:(k:Int)<(t.Chain.length:Int):=by omega
  rw[foldl_to];unfold title_Message_l2;simp only[io_lt,io_len,qD h1,cond_true,idxG_some hx,qA,io_add,wr_up (k:=k) (by omega)];rw[appG_some (by simp only[qP,qV,List.length_nil,qO,qW];omega)];rfl) (by
  have h1:¬ (t.Chain.length:Int)<(t.Chain.length:Int):=by omega
  rw[foldl_to];unfold title_Message_l2;simp only[io_lt,io_len,qE h1,cond_false])]
 rw[qA,qA,appG_some (by simp only[qP,qV,List.length_nil,qO];omega),qA];show (digest_List_g (fieldsS t to)).bind _=_;rw[list_eq _ (room_ok h.room)];rfl
theorem sub_dig2 (n:Nat)(h:n<10):subS (⟨#[48,49,50,51,52,53,54,55,56,57]⟩) (n:Int) (io.ar .add .i64 (n:Int) 1)=some ⟨#[UInt8.ofNat (48+n)]⟩:=by
 rw[io_add,wr64 (by omega) (by omega),sub_dig h]
theorem decimal_eq : ∀ (k n:Nat),n<10 ^ (k+1)→n≤1000000000→ref30_decimal_n (k+1) (n:Int)=some ⟨(Lib.decDigits n).toArray⟩:=by
 intro k
 induction k with
 | zero =>
  intro n hn hb;have hn:n<10:=by simpa using hn
  unfold ref30_decimal_n ref30_decimal_b;have h1:¬ (n:Int)<0:=by omega
  have h2:(n:Int)<10:=by omega
  rw[io_lt,io_lt,qE h1,qD h2,cond_false,cond_true,sub_dig2 n hn,qA,dec_dz,show n / 10=0 by omega,show n % 10=n by omega];rfl
 | succ k ih =>
  intro n hn hb;have h1:¬ (n:Int)<0:=by omega
  unfold ref30_decimal_n ref30_decimal_b;by_cases h10:n<10
  ·have h2:(n:Int)<10:=by omega
   rw[io_lt,io_lt,qE h1,qD h2,cond_false,cond_true,sub_dig2 n h10,qA,dec_dz,show n / 10=0 by omega,show n % 10=n by omega];rfl
  ·have h2:¬ (n:Int)<10:=by omega
   have hq:io.quo .i64 (n:Int) 10=((n / 10:Nat):Int):=by
    rw[io_quo,show ((n:Int).tdiv 10)=((n / 10:Nat):Int) from rfl,wr64 (by omega) (by omega)]
   have hr:io.rem (n:Int) 10=((n % 10:Nat):Int):=by rw[io_rem];rfl
   have hl:(Lib.decDigits (n / 10)).length≤20:=by rw[Lib.decDigits_length];exact Lib.nDigits_le20 _ (by omega)
   have hcat:catG (⟨(Lib.decDigits (n / 10)).toArray⟩:ByteArray) ⟨#[UInt8.ofNat (48+n % 10)]⟩=some ():=by
    unfold catG;rw[if_pos];show (Lib.decDigits (n / 10)).toArray.size+1≤_;rw[List.size_toArray];omega
   have hcc:io.cat (⟨(Lib.decDigits (n / 10)).toArray⟩:ByteArray) ⟨#[UInt8.ofNat (48+n % 10)]⟩=⟨(Lib.decDigits (n / 10)++[UInt8.ofNat (48+n % 10)]).toArray⟩:=by
    rw[io_cat];apply ByteArray.ext;simp
   have hd:divG 10=some ():=rfl;rw[io_lt,io_lt,qE h1,qE h2,cond_false,cond_false,hd,qA,hq,hr,ih (n / 10) (by rw[Nat.pow_succ] at hn;omega) (by omega)];simp only[qA];rw[sub_dig2 _ (by omega),qA,hcat,qA,hcc,dec_dz n];unfold dz;rw[if_neg (by omega)]
theorem decimal_num (n:Int)(h0:0≤n)(h1:n≤1000000000):ref30_decimal_g n=some (numI n):=by
 obtain⟨k,rfl⟩:∃ k:Nat,n=(k:Int):=⟨n.toNat,by omega⟩;unfold ref30_decimal_g numI;rw[Lib.itoa_nonneg];exact decimal_eq 39 k (Nat.lt_of_le_of_lt (by omega:k≤1000000000) (by decide)) (by omega)
theorem rmsg_eq (t:Title)(to:ByteArray)(h:MsgOk t to):ref30_Message_g t to=some (msgS t to):=by
 have hn:=h.n;have hf:ref30_Fields_g t to=some (fieldsS t to):=by
  unfold ref30_Fields_g;rw[decimal_num _ h.s0 h.s1,decimal_num _ h.h0 h.h1,qA,qA,qA];rw[loop_fold (step:=ref30_Fields_l2 t) (fun s i=>(s,i)) t.Chain (fun s x=>s++[x.To]) [numI t.Serial,numI t.Show,t.First] ([numI t.Serial,numI t.Show,t.First]++t.Chain.map (·.To)) (fun k x hx=>by
   have hk:=(qC.1 hx).1;have h1:(k:Int)<(t.Chain.length:Int):=by omega
   rw[foldl_to];unfold ref30_Fields_l2;simp only[io_lt,io_len,qD h1,cond_true,idxG_some hx,qA,io_add,wr_up (k:=k) (by omega)];rw[appG_some (by simp only[qP,qV,List.length_nil,qO,qW];omega)];rfl) (by
   have h1:¬ (t.Chain.length:Int)<(t.Chain.length:Int):=by omega
   rw[foldl_to];unfold ref30_Fields_l2;simp only[io_lt,io_len,qE h1,cond_false])]
  rw[qA,qA,appG_some (by simp only[qP,qV,List.length_nil,qO];omega),qA];rfl
 have hl:=ref02_List_eq _ h.room;unfold ref02_List_g at hl;unfold ref30_Message_g;rw[hf,qA];exact hl
end Go.SX.Rg
