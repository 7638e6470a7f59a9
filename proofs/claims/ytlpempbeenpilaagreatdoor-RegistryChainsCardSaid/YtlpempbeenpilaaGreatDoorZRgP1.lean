/- Parts of the proof. -/
import Derived.Test.YtlpempbeenpilaaGreatDoorZSyP
import Derived.Test.YtlpempbeenpilaaGreatDoorZRgH1
import Derived.Test.YtlpempbeenpilaaGreatDoorZRg53
import Derived.Test.YtlpempbeenpilaaGreatDoorZRg46d
import Derived.Test.YtlpempbeenpilaaGreatDoorZRg44d
import Derived.Test.YtlpempbeenpilaaGreatDoorZRgH3
import Derived.Test.YtlpempbeenpilaaGreatDoorZRg30d
import Derived.Test.YtlpempbeenpilaaGreatDoorZRgH8
import Derived.Test.YtlpempbeenpilaaGreatDoorZRgH0
import Derived.Test.YtlpempbeenpilaaGreatDoorZRgH9
set_option linter.unusedSimpArgs false
set_option linter.unusedVariables false
set_option linter.unusedSectionVars false
set_option linter.unusedVariables false
namespace Go.SX.Rg
open Go Go.SX
abbrev M64 : Nat:=18446744073709551616
theorem wuN (n:Nat):IntKind.u64.wrap (n:Int)=((n % M64:Nat):Int):=by
 simp[IntKind.wrap,IntKind.bits,IntKind.signed]
theorem u_mul (a b:Nat):io.ar .mul .u64 (a:Int) (b:Int)=(((a * b) % M64:Nat):Int):=by rw[io_mul,← Int.natCast_mul,wuN]
theorem bvN (a:Nat):(BitVec.ofInt 64 (a:Int))=BitVec.ofNat 64 a:=by simp
theorem u_xor {a b:Nat}(ha:a<M64)(hb:b<M64):io.ar .xor .u64 (a:Int) (b:Int)=((a ^^^ b:Nat):Int):=by
 rw[io_eq]
 show IntKind.u64.wrap _=_
 show IntKind.u64.wrap ((BitVec.ofInt 64 a ^^^ BitVec.ofInt 64 b).toNat:Int)=_
 rw[wuN,bvN,bvN,BitVec.toNat_xor,BitVec.toNat_ofNat,BitVec.toNat_ofNat,Nat.mod_eq_of_lt ha,Nat.mod_eq_of_lt hb,Nat.mod_eq_of_lt (Nat.xor_lt_two_pow (n:=64) ha hb)]
theorem u_or {a b:Nat}(ha:a<M64)(hb:b<M64):io.ar .or .u64 (a:Int) (b:Int)=((a ||| b:Nat):Int):=by
 rw[io_eq]
 show IntKind.u64.wrap ((BitVec.ofInt 64 a ||| BitVec.ofInt 64 b).toNat:Int)=_
 rw[wuN,bvN,bvN,BitVec.toNat_or,BitVec.toNat_ofNat,BitVec.toNat_ofNat,Nat.mod_eq_of_lt ha,Nat.mod_eq_of_lt hb,Nat.mod_eq_of_lt (Nat.or_lt_two_pow (n:=64) ha hb)]
theorem u_shr (a k:Nat)(hk:k≤64):io.shr .u64 (a:Int) (k:Int)=((a / 2 ^ k:Nat):Int):=by
 rw[io_eq]
 show (a:Int).fdiv (2 ^ min (k:Int).toNat 64)=_
 rw[Int.toNat_natCast,Nat.min_eq_left hk,Int.fdiv_eq_ediv_of_nonneg _ (Int.le_of_lt (Int.pow_pos (by decide)))]
 simp[Int.natCast_ediv,Int.natCast_pow]
theorem u_shl (a k:Nat)(hk:k≤64):io.shl .u64 (a:Int) (k:Int)=(((a * 2 ^ k) % M64:Nat):Int):=by
 rw[io_eq]
 show IntKind.u64.wrap ((a:Int) * 2 ^ min (k:Int).toNat 64)=_
 rw[Int.toNat_natCast,Nat.min_eq_left hk,← wuN]
 simp[Int.natCast_mul,Int.natCast_pow]
def mixN (x:Nat):Nat :=
 let a:=((x ^^^ (x / 4294967296)) * 11400714819323198485) % M64
 let b:=((a ^^^ (a / 536870912)) * 13787848793156543929) % M64
 b ^^^ (b / 4294967296)
theorem mix_lt (x:Nat):mixN x<M64:=by
 unfold mixN
 have h:∀ n:Nat,n % M64<2 ^ 64:=fun n=>Nat.mod_lt _ (by decide)
 exact Nat.xor_lt_two_pow (n:=64) (h _) (Nat.lt_of_le_of_lt (Nat.div_le_self _ _) (h _))
end Go.SX.Rg
set_option linter.unusedVariables false
namespace Go.SX.Rg
open Go Go.SX
def byN (l:List UInt8)(i:Nat):Nat:=if i<l.length then (l.getD i 0).toNat else if i=l.length then 1 else 0
theorem byN_lt (l:List UInt8)(i:Nat):byN l i<256:=by
 unfold byN
 split
 ·exact UInt8.toNat_lt _
 ·split<;>omega
def blkR (l:List UInt8)(f:Nat):Nat→Nat
 | 0=>0
 | n+1=>byN l f+256 * blkR l (f+1) n
theorem blkR_lt (l:List UInt8):∀ (n f:Nat),blkR l f n<256 ^ n
 | 0,f=>by simp[blkR]
 | n+1,f=>by
  have:=blkR_lt l n (f+1)
  have:=byN_lt l f
  unfold blkR
  rw[Nat.pow_succ]
  omega
theorem blk_lt (l:List UInt8)(f:Nat):blkR l f 8<M64:=blkR_lt l 8 f
def sumK (l:List UInt8):Nat→Nat
 | 0=>7046029254386353131
 | k+1=>mixN (sumK l k ^^^ blkR l (8 * k) 8)
theorem sumK_lt (l:List UInt8):∀ k,sumK l k<M64
 | 0=>by show 7046029254386353131<M64;decide
 | k+1=>mix_lt _
def sumN (l:List UInt8):Nat:=sumK l (l.length / 8+1)
def hexD (n:Nat):UInt8:=if n<10 then 48+n.toUInt8 else 87+n.toUInt8
def hexN : Nat→Nat→List UInt8
 | 0,_=>[]
 | n+1,x=>hexN n (x / 16)++[hexD (x % 16)]
def sumS (t:ByteArray):ByteArray:=⟨(hexN 16 (sumN t.data.toList)).toArray⟩
theorem size_list (t:ByteArray):t.size=t.data.toList.length:=Array.length_toList.symm
theorem idxStr_at {t:ByteArray}{i:Nat}(h:i<t.data.toList.length):idxStr t (i:Int)=some (((t.data.toList.getD i 0).toNat:Nat):Int):=by
 have hs:=size_list t
 unfold idxStr
 rw[if_pos ⟨by omega,by omega⟩]
 have h2:t[(i:Int).toNat]?=some (t.data.toList.getD i 0):=by
  rw[Int.toNat_natCast,List.getD_eq_getElem?_getD,List.getElem?_eq_getElem h]
  have:i<t.size:=by omega
  rw[getElem?_pos t i this]
  rfl
 rw[h2]
 rfl
end Go.SX.Rg
set_option linter.unusedVariables false
namespace Go.SX.Rg
open Go Go.SX
theorem mul64_lo {x y:Nat}(v:Int×Int)(h:math_bits_Mul64_g (x:Int) (y:Int)=some v):v.2=(((x * y) % M64:Nat):Int):=by
 unfold math_bits_Mul64_g at h
 cases h
 exact u_mul x y
theorem mul64_some (x y:Int):∃ v,math_bits_Mul64_g x y=some v:=⟨_,rfl⟩
theorem blkR_snoc (l:List UInt8):∀ (n f:Nat),blkR l f (n+1)=blkR l f n+byN l (f+n) * 256 ^ n
 | 0,f=>by simp[blkR]
 | n+1,f=>by
  have:=blkR_snoc l n (f+1)
  rw[blkR,this,blkR,Nat.pow_succ,show f+1+n=f+(n+1) by omega,Nat.mul_add,Nat.mul_left_comm 256,Nat.mul_comm 256 (256 ^ n),Nat.add_assoc]
theorem or_byte {a b n:Nat}(ha:a<256 ^ n):a ||| (b * 2 ^ (8 * n))=a+b * 256 ^ n:=by
 have e:(256:Nat) ^ n=2 ^ (8 * n):=by rw[show (256:Nat)=2 ^ 8 from rfl,← Nat.pow_mul]
 rw[e] at ha ⊢
 have:=Nat.two_pow_add_eq_or_of_lt ha b
 rw[Nat.mul_comm b,Nat.or_comm,← this,Nat.add_comm]
theorem mix_steps (step:(Int×Int)→Option ((Int×Int) ⊕ (Int))) (hs:∀ x14 v15,step (x14,v15)=bif (io.lt v15 2) then (
   Option.bind (
    Option.bind (pixG 2 v15) fun i17 =>
    some ((A2.mk (A2.mk (32:Int) 11400714819323198485) (A2.mk 29 13787848793156543929)).get i17)
    ) fun step16 =>
   Option.bind (shG step16.a0) fun _ =>
   Option.bind (math_bits_Mul64_g (io.ar .xor .u64 x14 (io.shr .u64 x14 step16.a0)) step16.a1) fun v18 =>
   some (.inl (v18.2,(io.ar .add .i64 v15 1)))
  ) else (
   some (.inr x14)
  )) {x:Nat} (hx:x<M64):(Option.bind (whileG step ((x:Int),0)) fun x13=>some (io.ar .xor .u64 x13 (io.shr .u64 x13 (.ofNat 32))))=some ((mixN x:Nat):Int):=by
 have h:∀ n:Nat,n % M64<M64:=fun n=>Nat.mod_lt _ (by decide)
 have hd:∀ n k:Nat,n<M64→n / k<M64:=fun n k hn=>Nat.lt_of_le_of_lt (Nat.div_le_self _ _) hn
 obtain⟨a,ha⟩:∃ a,a=((x ^^^ (x / 4294967296)) * 11400714819323198485) % M64:=⟨_,rfl⟩
 have hal:a<M64:=by rw[ha];exact h _
 obtain⟨b,hb⟩:∃ b,b=((a ^^^ (a / 536870912)) * 13787848793156543929) % M64:=⟨_,rfl⟩
 have hbl:b<M64:=by rw[hb];exact h _
 have s1:step ((x:Int),0)=some (.inl ((a:Int),1)):=by
  rw[hs]
  have e0:pixG 2 (0:Int)=some 0:=rfl
  simp only[io_lt,e0,Option.bind_some]
  have e1:io.ar .xor .u64 (x:Int) (io.shr .u64 (x:Int) 32)=((x ^^^ (x / 4294967296):Nat):Int):=by
   rw[show (32:Int)=((32:Nat):Int) from rfl,u_shr _ _ (by decide),u_xor hx (hd _ _ hx)]
  obtain⟨v,hv⟩:=mul64_some (io.ar .xor .u64 (x:Int) (io.shr .u64 (x:Int) 32)) 11400714819323198485
  have hv':=hv
  rw[e1] at hv'
  have h2:=mul64_lo (y:=11400714819323198485) v hv'
  show (Option.bind (shG 32) fun _=>Option.bind (math_bits_Mul64_g (io.ar .xor .u64 (x:Int) (io.shr .u64 (x:Int) 32)) 11400714819323198485) fun v18=>some (Sum.inl (v18.2,(io.ar .add .i64 0 1)):(Int×Int) ⊕ Int))=_
  rw[hv,show shG 32=some () from rfl]
  simp only[Option.bind_some]
  rw[h2,← ha,io_add]
  rfl
 have s2:step ((a:Int),1)=some (.inl ((b:Int),2)):=by
  rw[hs]
  have e0:pixG 2 (1:Int)=some 1:=rfl
  simp only[io_lt,e0,Option.bind_some]
  have e1:io.ar .xor .u64 (a:Int) (io.shr .u64 (a:Int) 29)=((a ^^^ (a / 536870912):Nat):Int):=by
   rw[show (29:Int)=((29:Nat):Int) from rfl,u_shr _ _ (by decide),u_xor hal (hd _ _ hal)]
  obtain⟨v,hv⟩:=mul64_some (io.ar .xor .u64 (a:Int) (io.shr .u64 (a:Int) 29)) 13787848793156543929
  have hv':=hv
  rw[e1] at hv'
  have h2:=mul64_lo (y:=13787848793156543929) v hv'
  show (Option.bind (shG 29) fun _=>Option.bind (math_bits_Mul64_g (io.ar .xor .u64 (a:Int) (io.shr .u64 (a:Int) 29)) 13787848793156543929) fun v18=>some (Sum.inl (v18.2,(io.ar .add .i64 1 1)):(Int×Int) ⊕ Int))=_
  rw[hv,show shG 29=some () from rfl]
  simp only[Option.bind_some]
  rw[h2,← hb,io_add]
  rfl
 have s3:step ((b:Int),2)=some (.inr (b:Int)):=by
  rw[hs]
  simp only[io_lt]
  rfl
 rw[whileG_eq,s1]
 show (Option.bind (whileG step ((a:Int),1)) _)=_
 rw[whileG_eq,s2]
 show (Option.bind (whileG step ((b:Int),2)) _)=_
 rw[whileG_eq,s3]
 simp only[Option.bind_some]
 rw[show (Int.ofNat 32)=((32:Nat):Int) from rfl,u_shr _ _ (by decide),u_xor hbl (hd _ _ hbl)]
 unfold mixN
 simp only[← ha,← hb]
theorem add_byte {a b n:Nat}(ha:a<256 ^ n)(hb:b<256)(hn:n<8):io.ar .or .u64 (a:Int) (io.shl .u64 (io.wrap .u64 (b:Int)) (io.ar .mul .i64 8 (n:Int)))=((a+b * 256 ^ n:Nat):Int)∧a+b * 256 ^ n<256 ^ (n+1):=by
 have hp:256 ^ (n+1)≤M64:=by
  rw[show M64=256 ^ 8 from rfl];exact Nat.pow_le_pow_right (by decide) (by omega)
 have hlt:a+b * 256 ^ n<256 ^ (n+1):=by
  rw[Nat.pow_succ]
  have:b * 256 ^ n≤255 * 256 ^ n:=Nat.mul_le_mul_right _ (by omega)
  omega
 have e:(2:Nat) ^ (8 * n)=256 ^ n:=by rw[show (256:Nat)=2 ^ 8 from rfl,← Nat.pow_mul]
 have hm:io.ar .mul .i64 8 (n:Int)=((8 * n:Nat):Int):=by
  rw[io_mul,wr64 (by omega) (by omega)];omega
 have hbl:b * 256 ^ n<M64:=by omega
 refine⟨?_,hlt⟩
 rw[hm,io_wrap,wuN,Nat.mod_eq_of_lt (Nat.lt_trans hb (by decide)),u_shl _ _ (by omega),e,Nat.mod_eq_of_lt hbl,u_or (by omega) hbl,← or_byte ha,e]
def sumSt (l:List UInt8)(i:Nat):Int×Int×Int:=(((sumK l (i / 8):Nat):Int),((i % 8:Nat):Int),((blkR l (8 * (i / 8)) (i % 8):Nat):Int))
theorem sum_byte (l:List UInt8)(i:Nat)(step:(Int×Int)→Option ((Int×Int) ⊕ (Int)))(hs:∀ x:Nat,x<M64→(Option.bind (whileG step ((x:Int),0)) fun x13=>some (io.ar .xor .u64 x13 (io.shr .u64 x13 (.ofNat 32))))=some ((mixN x:Nat):Int)) :
  (Option.bind (shG (io.ar .mul .i64 8 (sumSt l i).2.1)) fun _ =>
   bif (io.eq (io.ar .add .i64 (sumSt l i).2.1 1) 8) then (
    Option.bind (
     Option.bind (whileG step ((io.ar .xor .u64 (sumSt l i).1 (io.ar .or .u64 (sumSt l i).2.2 (io.shl .u64 (io.wrap .u64 ((byN l i:Nat):Int)) (io.ar .mul .i64 8 (sumSt l i).2.1)))),0)) fun x13 =>
     some (io.ar .xor .u64 x13 (io.shr .u64 x13 (.ofNat 32)))) fun c12=>some (c12,0,0)
   ) else (
    some ((sumSt l i).1,(io.ar .add .i64 (sumSt l i).2.1 1),(io.ar .or .u64 (sumSt l i).2.2 (io.shl .u64 (io.wrap .u64 ((byN l i:Nat):Int)) (io.ar .mul .i64 8 (sumSt l i).2.1))))))=some (sumSt l (i+1)):=by
 have hn:i % 8<8:=Nat.mod_lt _ (by decide)
 obtain⟨h1,h2⟩:=add_byte (blkR_lt l (i % 8) (8 * (i / 8))) (byN_lt l i) hn
 have hsn:=blkR_snoc l (i % 8) (8 * (i / 8))
 rw[show 8 * (i / 8)+i % 8=i by omega] at hsn
 rw[← hsn] at h1 h2
 have hsh:shG (io.ar .mul .i64 8 ((i % 8:Nat):Int))=some ():=by
  unfold shG;rw[io_mul,wr64 (by omega) (by omega),if_pos (by omega)]
 have hadd:io.ar .add .i64 ((i % 8:Nat):Int) 1=((i % 8+1:Nat):Int):=by rw[io_add,wr64 (by omega) (by omega)];omega
 simp only[sumSt,hsh,h1,hadd,Option.bind_some,io_eqi]
 by_cases h8:i % 8+1=8
 ·have h8':((i % 8+1:Nat):Int)=8:=by omega
  rw[decide_eq_true h8',cond_true,h8,u_xor (sumK_lt l _) (blk_lt l _),hs _ (Nat.xor_lt_two_pow (n:=64) (sumK_lt _ _) (blk_lt _ _)),show (i+1) / 8=i / 8+1 by omega,show (i+1) % 8=0 by omega]
  rfl
 ·have h8':((i % 8+1:Nat):Int)≠8:=by omega
  rw[decide_eq_false h8',cond_false,show (i+1) / 8=i / 8 by omega,show (i+1) % 8=i % 8+1 by omega]
theorem sum_walk (t:ByteArray)(hb:t.size<4611686018427387904):∀ (d i:Nat),t.size - i=d→i≤t.size→whileG (digest_Sum_l42 t) ((sumSt t.data.toList i).1,(sumSt t.data.toList i).2.1,(sumSt t.data.toList i).2.2,(i:Int))=some (sumSt t.data.toList t.size):=by
 have hs:=size_list t
 intro d
 induction d with
 | zero =>
  intro i hd hi
  obtain rfl:i=t.size:=by omega
  rw[whileG_eq]
  have h1:¬ ((t.size:Nat):Int)<(t.size:Int):=by omega
  unfold digest_Sum_l42
  simp only[io_lt,io_ssz,decide_eq_false h1,cond_false]
 | succ d ih =>
  intro i hd hi
  rw[whileG_eq]
  have h1:(i:Int)<(t.size:Int):=by omega
  have hbyv:byN t.data.toList i=(t.data.toList.getD i 0).toNat:=by unfold byN;rw[if_pos (by omega)]
  have hadd:io.ar .add .i64 (i:Int) 1=((i+1:Nat):Int):=by rw[io_add,wr64 (by omega) (by omega)];omega
  have hx:=sum_byte t.data.toList i digest_Sum_l50 (fun x hx=>mix_steps digest_Sum_l50 (fun _ _=>rfl) hx)
  have hstep:digest_Sum_l42 t ((sumSt t.data.toList i).1,(sumSt t.data.toList i).2.1,(sumSt t.data.toList i).2.2,(i:Int))=some (.inl ((sumSt t.data.toList (i+1)).1,(sumSt t.data.toList (i+1)).2.1,(sumSt t.data.toList (i+1)).2.2,((i+1:Nat):Int))):=by
   unfold digest_Sum_l42
   simp only[io_lt,io_ssz,decide_eq_true h1,cond_true,idxStr_at (show i<t.data.toList.length by omega),Option.bind_some,← hbyv,hadd]
   rw[hx]
   rfl
  rw[hstep]
  exact ih (i+1) (by omega) (by omega)
theorem map_body {σ τ:Type}(A:Option Unit)(c:Bool)(B:Option Int)(f:Int→σ)(z:σ):(A.bind fun _=>bif c then (B.bind fun x=>some (.inl (f x):σ ⊕ τ)) else some (.inl z))=(A.bind fun _=>bif c then (B.bind fun x=>some (f x)) else some z).map .inl:=by
 cases A<;>cases c<;>cases B<;>rfl
theorem sum_zeros (l:List UInt8)(e:Nat):∀ (d i:Nat),8 * e - i=d→l.length<i→i≤8 * e→8 * e<i+8→whileG digest_Sum_l88 (sumSt l i)=some ((sumK l e:Nat):Int):=by
 intro d
 induction d with
 | zero =>
  intro i hd hi he h8
  obtain rfl:i=8 * e:=by omega
  rw[whileG_eq]
  have e1:sumSt l (8 * e)=(((sumK l e:Nat):Int),0,0):=by
   unfold sumSt
   rw[show 8 * e / 8=e by omega,show 8 * e % 8=0 by omega]
   rfl
  rw[e1]
  unfold digest_Sum_l88
  simp only[io_lt]
  rfl
 | succ d ih =>
  intro i hd hi he h8
  rw[whileG_eq]
  have hx:=sum_byte l i digest_Sum_l92 (fun x hx=>mix_steps digest_Sum_l92 (fun _ _=>rfl) hx)
  have hz:byN l i=0:=by unfold byN;rw[if_neg (by omega),if_neg (by omega)]
  rw[hz,show ((0:Nat):Int)=(0:Int) from rfl] at hx
  have hpos:(0:Int)<(sumSt l i).2.1:=by
   show (0:Int)<((i % 8:Nat):Int)
   omega
  have hstep:digest_Sum_l88 (sumSt l i)=some (.inl (sumSt l (i+1))):=by
   rw[show sumSt l i=((sumSt l i).1,(sumSt l i).2.1,(sumSt l i).2.2) from rfl]
   unfold digest_Sum_l88
   simp only[io_lt,decide_eq_true hpos,cond_true]
   rw[map_body,hx]
   rfl
  rw[hstep]
  exact ih (i+1) (by omega) (by omega) (by omega) (by omega)
theorem hexN_eq (x:Nat):∀ n:Nat,hexN n x=(List.range n).map fun i=>hexD (x / 16 ^ (n - 1 - i) % 16):=by
 intro n
 induction n generalizing x with
 | zero=>rfl
 | succ n ih =>
  unfold hexN
  rw[ih,List.range_succ,List.map_append]
  congr 1
  ·apply List.map_congr_left
   intro i hi
   have hi:=List.mem_range.1 hi
   rw[Nat.div_div_eq_div_mul,show n+1 - 1 - i=(n - 1 - i)+1 by omega,Nat.pow_succ,Nat.mul_comm]
  ·simp
theorem hex_val (r:Nat)(h:r<16):UInt8.ofNat (hexTab.getD r 0).toNat=hexD r:=by
 match r,h with
 | 0,_ | 1,_ | 2,_ | 3,_ | 4,_ | 5,_ | 6,_ | 7,_ | 8,_ | 9,_ | 10,_ | 11,_ | 12,_ | 13,_ | 14,_ | 15,_=>rfl
 | r+16,h=>omega
theorem state_text_eq (x:Nat)(hx:x<M64):digest_state_text_g (x:Int)=some ⟨(hexN 16 x).toArray⟩:=by
 have hx':x<18446744073709551616:=hx
 unfold digest_state_text_g
 rw[if_pos ⟨by omega,by omega⟩,hexN_eq]
 unfold strOfNums
 rw[List.map_map]
 refine congrArg (fun l:List UInt8=>some (⟨l.toArray⟩:ByteArray)) (List.map_congr_left fun i hi=>?_)
 have hi:=List.mem_range.1 hi
 have hdig:(digI (x:Int) i).toNat=x / 16 ^ (16 - 1 - i) % 16:=by
  unfold digI
  have e:(2:Int) ^ (60 - 4 * i)=(((16:Nat) ^ (16 - 1 - i):Nat):Int):=by
   rw[show (60 - 4 * i)=4 * (16 - 1 - i) by omega,Int.natCast_pow,Int.pow_mul]
   rfl
  rw[e]
  rfl
 show UInt8.ofNat (hexTab.getD (digI (x:Int) i).toNat 0).toNat=_
 rw[hdig,hex_val _ (Nat.mod_lt _ (by decide))]
theorem sumSt_zero (l:List UInt8):sumSt l 0=(7046029254386353131,0,0):=by simp[sumSt,sumK,blkR]
theorem digest_Sum_eq (t:ByteArray)(hb:t.size<4611686018427387904):digest_Sum_g t=some (sumS t):=by
 have hs:=size_list t
 have h1:=sum_walk t hb _ 0 rfl (Nat.zero_le _)
 rw[sumSt_zero] at h1
 have h2:=sum_byte t.data.toList t.size digest_Sum_l79 (fun x hx=>mix_steps digest_Sum_l79 (fun _ _=>rfl) hx)
 have hone:byN t.data.toList t.size=1:=by unfold byN;rw[if_neg (by omega),if_pos (by omega)]
 rw[hone,show ((1:Nat):Int)=(1:Int) from rfl] at h2
 have h3:=sum_zeros t.data.toList (t.size / 8+1) _ (t.size+1) rfl (by omega) (by omega) (by omega)
 have h4:=state_text_eq _ (sumK_lt t.data.toList (t.size / 8+1))
 have h5:sumS t=⟨(hexN 16 (sumK t.data.toList (t.size / 8+1))).toArray⟩:=by unfold sumS sumN;rw[← hs]
 rw[h5]
 generalize sumK t.data.toList (t.size / 8+1)=z at h3 h4
 generalize sumSt t.data.toList (t.size+1)=st1 at h2 h3
 generalize sumSt t.data.toList t.size=st at h1 h2
 obtain⟨a1,a2,a3⟩:=st
 obtain⟨b1,b2,b3⟩:=st1
 unfold digest_Sum_g
 have h1:whileG (digest_Sum_l42 t) (7046029254386353131,0,0,0)=some (a1,a2,a3):=h1
 rw[h1,Option.bind_some]
 dsimp only at h2 h3 ⊢
 rw[h2,Option.bind_some]
 dsimp only
 rw[h3,Option.bind_some,h4,Option.bind_some]
end Go.SX.Rg
set_option linter.unusedVariables false
namespace Go.SX.Rg
open Go Go.SX
def listS (l:List ByteArray):ByteArray:=sumS ⟨(txtZ l).toArray⟩
theorem hexN_len : ∀ (n x:Nat),(hexN n x).length=n
 | 0,_=>rfl
 | n+1,x=>by unfold hexN;rw[List.length_append,hexN_len n];rfl
theorem sumS_size (t:ByteArray):(sumS t).size=16:=by
 show (hexN 16 (sumN t.data.toList)).toArray.size=16
 rw[List.size_toArray,hexN_len]
theorem list_eq (l:List ByteArray)(h:ListOk l):digest_List_g l=some (listS l):=by
 unfold digest_List_g
 rw[if_pos h]
 refine digest_Sum_eq _ ?_
 have:(txtZ l).length≤140737488355328:=h
 show (txtZ l).toArray.size<_
 rw[List.size_toArray];omega
theorem room_cons (x:ByteArray)(l:List ByteArray):room (x::l)=x.size+21+room l:=by simp[room]
theorem room_txt : ∀ l:List ByteArray,room l≤140737488355328→(txtZ l).length≤room l
 | [],_=>Nat.zero_le _
 | x::l,h=>by
  rw[room_cons] at h ⊢
  have h1:=room_txt l (by omega)
  have h2:=itoa_nat_le x.size (by omega)
  have h3:(txtP x).length=(Lib.itoa x.size).length+1+x.size:=by
   have:=size_list x
   unfold txtP
   rw[List.length_append,List.length_append,← this]
   rfl
  have h4:txtZ (x::l)=txtP x++txtZ l:=rfl
  rw[h4,List.length_append]
  omega
def chainS (t:ByteArray):Nat→ByteArray
 | 0=>t
 | n+1=>chainS (sumS t) n
theorem chain_loop (n:Int):∀ (d:Nat)(i:Nat)(t:ByteArray),(min n 1000 - i).toNat=d→t.size<4611686018427387904→whileG (digest_Chain_l2 n) (t,(i:Int))=some (chainS t d):=by
 intro d
 induction d with
 | zero =>
  intro i t hd ht
  rw[whileG_eq]
  have h1:¬ (i:Int)<max 0 (min n 1000):=by omega
  unfold digest_Chain_l2
  simp only[io_lt,io_max,io_min,decide_eq_false h1,cond_false]
  rfl
 | succ d ih =>
  intro i t hd ht
  rw[whileG_eq]
  have h1:(i:Int)<max 0 (min n 1000):=by omega
  have hadd:io.ar .add .i64 (i:Int) 1=((i+1:Nat):Int):=by rw[io_add,wr64 (by omega) (by omega)];omega
  have hstep:digest_Chain_l2 n (t,(i:Int))=some (.inl (sumS t,((i+1:Nat):Int))):=by
   unfold digest_Chain_l2
   simp only[io_lt,io_max,io_min,decide_eq_true h1,cond_true,digest_Sum_eq t ht,Option.bind_some,hadd]
  rw[hstep]
  exact ih (i+1) (sumS t) (by omega) (by rw[sumS_size];decide)
theorem chain_eq (t:ByteArray)(n:Int)(ht:t.size<4611686018427387904):digest_Chain_g t n=some (chainS t (min n 1000).toNat):=by
 have h:=chain_loop n _ 0 t rfl ht
 unfold digest_Chain_g
 rw[show ((0:Nat):Int)=0 from rfl] at h
 rw[h,Option.bind_some]
 simp
end Go.SX.Rg
set_option linter.unusedVariables false
namespace Go.SX.Rg
open Go Go.SX
def dN (m:ByteArray)(k:Nat):Nat:=sumN m.data.toList / 16 ^ (16 - 1 - k) % 16
theorem dN_lt (m:ByteArray)(k:Nat):dN m k<16:=Nat.mod_lt _ (by decide)
theorem sumS_list (m:ByteArray):(sumS m).data.toList=hexN 16 (sumN m.data.toList):=by rw[sumS]
theorem hex_map (x:Nat)(f:Nat→UInt8)(n:Nat)(h:∀ k,hexD (x / 16 ^ (n - 1 - k) % 16)=f k):hexN n x=(List.range n).map f:=by
 rw[hexN_eq]
 exact List.map_congr_left fun k _=>h k
theorem sumS_bytes (m:ByteArray):(sumS m).data.toList=(List.range 16).map fun k=>hexD (dN m k):=by
 rw[sumS_list]
 exact hex_map _ _ _ fun k=>by rw[dN]
theorem sumS_byte (m:ByteArray){k:Nat}(h:k<16):(sumS m).data.toList.getD k 0=hexD (dN m k):=by
 rw[sumS_bytes,List.getD_eq_getElem?_getD,List.getElem?_map,List.getElem?_range h,Option.map_some,Option.getD_some]
theorem ix_hex (r:Nat)(h:r<16):Lib.indexByte hexL (hexD r)=(r:Int):=by
 match r,h with
 | 0,_ | 1,_ | 2,_ | 3,_ | 4,_ | 5,_ | 6,_ | 7,_ | 8,_ | 9,_ | 10,_ | 11,_ | 12,_ | 13,_ | 14,_ | 15,_=>rfl
 | r+16,h=>omega
theorem dgI_eq (m:ByteArray){k:Nat}(h:k<16):dgI (sumS m) k=((dN m k:Nat):Int):=by
 unfold dgI
 rw[sumS_byte m h,ix_hex _ (dN_lt m k)]
def ckN (m:ByteArray):Nat→Nat
 | 0=>0
 | k+1=>ckN m k+(15 - dN m k)
theorem ckN_le (m:ByteArray):∀ k,ckN m k≤15 * k
 | 0=>Nat.le_refl _
 | k+1=>by have:=ckN_le m k;unfold ckN;omega
theorem dgSum_eq (m:ByteArray):∀ k,k≤16→dgSum (sumS m) k=((ckN m k:Nat):Int)
 | 0,_=>rfl
 | k+1,h=>by
  have:=dN_lt m k
  unfold dgSum ckN
  rw[dgSum_eq m k (by omega),dgI_eq m (by omega)]
  omega
def dgN (m:ByteArray)(k:Nat):Nat:=if k<16 then dN m k else if k=16 then ckN m 16 / 16 else ckN m 16 % 16
theorem dgN_lt (m:ByteArray)(k:Nat):dgN m k<16:=by
 unfold dgN
 have:=ckN_le m 16
 split
 ·exact dN_lt m k
 ·split<;>omega
theorem digits_eq2 (m:ByteArray)(hb:m.size<4611686018427387904):sign_digits_g m=some (dgA (sumS m)):=by
 unfold sign_digits_g
 rw[digest_Sum_eq m hb,Option.bind_some,if_pos (sumS_size m)]
theorem dgA_get0 (t:ByteArray)(f:Nat→Nat)(h0:∀ k,k<16→dgI t k=((f k:Nat):Int))(h1:dgSum t 16 / 16=((f 16:Nat):Int))(h2:dgSum t 16 % 16=((f 17:Nat):Int)){k:Nat}(h:k<18):(dgA t).get k=((f k:Nat):Int):=by
 unfold dgA
 generalize dgSum t 16 / 16=a at h1
 generalize dgSum t 16 % 16=b at h2
 generalize dgI t=g at h0
 match k,h with
 | 0,_=>exact h0 0 (by decide)
 | 1,_=>exact h0 1 (by decide)
 | 2,_=>exact h0 2 (by decide)
 | 3,_=>exact h0 3 (by decide)
 | 4,_=>exact h0 4 (by decide)
 | 5,_=>exact h0 5 (by decide)
 | 6,_=>exact h0 6 (by decide)
 | 7,_=>exact h0 7 (by decide)
 | 8,_=>exact h0 8 (by decide)
 | 9,_=>exact h0 9 (by decide)
 | 10,_=>exact h0 10 (by decide)
 | 11,_=>exact h0 11 (by decide)
 | 12,_=>exact h0 12 (by decide)
 | 13,_=>exact h0 13 (by decide)
 | 14,_=>exact h0 14 (by decide)
 | 15,_=>exact h0 15 (by decide)
 | 16,_=>exact h1
 | 17,_=>exact h2
 | k+18,h=>omega
theorem dgN_16 (m:ByteArray):dgN m 16=ckN m 16 / 16:=by unfold dgN;rw[if_neg (by decide),if_pos rfl]
theorem dgN_17 (m:ByteArray):dgN m 17=ckN m 16 % 16:=by unfold dgN;rw[if_neg (by decide),if_neg (by decide)]
theorem dgA_get (m:ByteArray){k:Nat}(h:k<18):(dgA (sumS m)).get k=((dgN m k:Nat):Int):=by
 refine dgA_get0 _ _ (fun k hk=>?_) ?_ ?_ h
 ·rw[dgI_eq m hk];unfold dgN;rw[if_pos hk]
 ·rw[dgSum_eq m 16 (Nat.le_refl _),dgN_16];omega
 ·rw[dgSum_eq m 16 (Nat.le_refl _),dgN_17];omega
end Go.SX.Rg
set_option linter.unusedVariables false
namespace Go.SX.Rg
open Go Go.SX
def numB (i:Nat):ByteArray:=⟨(Lib.itoa (i:Int)).toArray⟩
def startS (s:ByteArray)(i:Nat):ByteArray:=listS [s,numB i]
def publicS (s:ByteArray):ByteArray:=listS ((List.range 18).map fun i=>chainS (startS s i) 15)
def signS (s m:ByteArray):List ByteArray:=(List.range 18).map fun i=>chainS (startS s i) (dgN m i)
theorem allG_all {α:Type}{f:Nat→Option α}{g:Nat→α}:∀ n,(∀ i,i<n→f i=some (g i))→allG f n=some ((List.range n).map g)
 | 0,_=>rfl
 | n+1,h=>by
  unfold allG
  rw[allG_all n fun i hi=>h i (by omega),h n (by omega),List.range_succ,List.map_append]
  rfl
theorem room_ok {l:List ByteArray}(h:room l≤140737488355328):ListOk l:=Nat.le_trans (room_txt l h) h
theorem numB_size (i:Nat)(h:i≤1000000):(numB i).size≤20:=by
 have:=itoa_nat_le i (by omega)
 show (Lib.itoa (i:Int)).toArray.size≤20
 rw[List.size_toArray];exact this
theorem start_ok (s:ByteArray)(i:Nat)(hs:s.size≤1000000)(hi:i<18):digest_List_g [s,numB i]=some (startS s i):=by
 refine list_eq _ (room_ok ?_)
 have:=numB_size i (by omega)
 rw[room_cons,room_cons]
 show _+(_+0)≤_
 omega
theorem startS_size (s:ByteArray)(i:Nat):(startS s i).size=16:=sumS_size _
theorem chainS_size : ∀ (n:Nat)(t:ByteArray),t.size=16→(chainS t n).size=16
 | 0,_,h=>h
 | n+1,t,_=>chainS_size n _ (sumS_size t)
theorem chainS_add : ∀ (a b:Nat)(t:ByteArray),chainS (chainS t a) b=chainS t (a+b)
 | 0,b,t=>by rw[Nat.zero_add];rfl
 | a+1,b,t=>by rw[Nat.add_right_comm];exact chainS_add a b (sumS t)
theorem walk_eq (s:ByteArray)(hs:s.size≤1000000)(dg:Nat→Int)(f:Nat→Nat)(hd:∀ i,i<18→dg i=((f i:Nat):Int)∧f i≤1000):walk_g s dg=some ((List.range 18).map fun i=>chainS (startS s i) (f i)):=by
 unfold walk_g
 refine allG_all _ fun i hi=>?_
 obtain⟨h1,h2⟩:=hd i hi
 rw[show (⟨(Lib.itoa (i:Int)).toArray⟩:ByteArray)=numB i from rfl,start_ok s i hs hi,Option.bind_some,h1,chain_eq _ _ (by rw[startS_size];decide),show (min ((f i:Nat):Int) 1000).toNat=f i by omega]
theorem ends_room : ∀ l:List ByteArray,(∀ x∈l,x.size=16)→room l=37 * l.length
 | [],_=>rfl
 | x::l,h=>by rw[room_cons,ends_room l fun y hy=>h y (List.mem_cons_of_mem _ hy),h x (List.mem_cons_self ..),List.length_cons];omega
theorem public_eq (s:ByteArray)(hs:s.size≤1000000):sign_Public_g s=some (publicS s):=by
 unfold sign_Public_g sign_walk56_g
 rw[walk_eq s hs (fun _=>(15:Int)) (fun _=>15) (fun i _=>⟨by omega,by omega⟩),Option.bind_some,list_eq,Option.bind_some]
 ·rw[publicS]
 ·refine room_ok ?_
  rw[ends_room]
  ·rw[List.length_map,List.length_range];omega
  ·intro x hx
   obtain⟨i,_,rfl⟩:=List.mem_map.1 hx
   exact chainS_size _ _ (startS_size s i)
theorem sign_eq (s m:ByteArray)(hs:s.size≤1000000)(hm:m.size<4611686018427387904):sign_Sign_g s m=some (signS s m):=by
 unfold sign_Sign_g sign_walk69_g
 rw[digits_eq2 m hm,Option.bind_some,walk_eq s hs _ (dgN m) (fun i hi=>⟨dgA_get m hi,by have:=dgN_lt m i;omega⟩),Option.bind_some]
 rw[signS]
end Go.SX.Rg
set_option linter.unusedVariables false
namespace Go.SX.Rg
open Go Go.SX
theorem seq_dec (a b:ByteArray):io.seq a b=decide (a=b):=by
 rw[io_seq]
 by_cases h:a=b
 ·simp[h]
 ·have hne:¬ a.toList=b.toList:=by
   intro e
   rw[ByteArray.toList_eq,ByteArray.toList_eq] at e
   exact h (ByteArray.ext (Array.toList_inj.mp e))
  rw[decide_eq_false h]
  exact beq_eq_false_iff_ne.2 hne
def isS (t:ByteArray):Bool:=decide (t.size=16)&&t.data.toList.all (hexL.contains ·)
theorem isS_size {t:ByteArray}(h:isS t=true):t.size=16:=by
 unfold isS at h
 simp only[Bool.and_eq_true,decide_eq_true_eq] at h
 exact h.1
theorem dropWhile_nil (p:UInt8→Bool):∀ l:List UInt8,l.dropWhile p=[]↔l.all p=true
 | []=>by simp
 | x::l=>by
  rw[List.dropWhile_cons,List.all_cons]
  cases h:p x<;>simp[dropWhile_nil p l]
theorem dropWhile_all (p:UInt8→Bool):∀ l:List UInt8,(l.dropWhile p).all p=true↔l.all p=true
 | []=>by simp
 | x::l=>by
  rw[List.dropWhile_cons]
  cases h:p x
  ·simp[h]
  ·rw[if_pos rfl,dropWhile_all p l,List.all_cons,h,Bool.true_and]
theorem trimS_nil (l cs:List UInt8):Lib.trimS l cs=[]↔l.all (cs.contains ·)=true:=by
 unfold Lib.trimS Lib.trimLeftS Lib.trimRightS
 rw[dropWhile_nil,List.all_reverse,dropWhile_all,List.all_reverse]
theorem digest_Is_eq (t:ByteArray):digest_Is_g t=some (isS t):=by
 unfold digest_Is_g isS
 rw[io_ssz,io_eqi]
 by_cases h:t.size=16
 ·have h':(t.size:Int)=16:=by omega
  have ht:strings_Trim_g t (⟨#[48,49,50,51,52,53,54,55,56,57,97,98,99,100,101,102]⟩)=some ⟨(Lib.trimS t.data.toList hexL).toArray⟩:=by
   unfold strings_Trim_g
   rw[if_pos]
   ·rfl
   ·refine⟨by omega,by decide,fun j b hb=>?_⟩
    have hb:hexL[j]?=some b:=hb
    have:b∈hexL:=List.mem_of_getElem? hb
    simp only[hexL,List.mem_cons,List.not_mem_nil,or_false] at this
    rcases this with rfl | rfl | rfl | rfl | rfl | rfl | rfl | rfl | rfl | rfl | rfl | rfl | rfl | rfl | rfl | rfl<;>decide
  rw[decide_eq_true h',cond_true,ht,Option.bind_some,decide_eq_true h,Bool.true_and,seq_dec]
  congr 1
  have e:=trimS_nil t.data.toList hexL
  rw[Bool.eq_iff_iff,← e,decide_eq_true_eq]
  constructor
  ·intro h
   have:=congrArg ByteArray.data h
   simpa using this
  ·intro h
   rw[h]
 ·have h':¬ (t.size:Int)=16:=by omega
  rw[decide_eq_false h',cond_false,decide_eq_false h,Bool.false_and]
theorem hexD_in (r:Nat)(h:r<16):hexL.contains (hexD r)=true:=by
 match r,h with
 | 0,_ | 1,_ | 2,_ | 3,_ | 4,_ | 5,_ | 6,_ | 7,_ | 8,_ | 9,_ | 10,_ | 11,_ | 12,_ | 13,_ | 14,_ | 15,_=>rfl
 | r+16,h=>omega
theorem all_hex (g:Nat→Nat)(hg:∀ k,g k<16):((List.range 16).map fun k=>hexD (g k)).all (hexL.contains ·)=true:=by
 rw[List.all_map,List.all_eq_true]
 intro k _
 exact hexD_in _ (hg k)
theorem sumS_is (t:ByteArray):isS (sumS t)=true:=by
 unfold isS
 rw[decide_eq_true (sumS_size t),Bool.true_and,sumS_bytes]
 exact all_hex (dN t) (dN_lt t)
theorem chainS_is : ∀ (n:Nat)(t:ByteArray),isS t=true→isS (chainS t n)=true
 | 0,_,h=>h
 | n+1,t,_=>chainS_is n _ (sumS_is t)
theorem listS_is (l:List ByteArray):isS (listS l)=true:=sumS_is _
def ownerS (t:Title):ByteArray:=match t.Chain.getLast? with | some x=>x.To | none=>t.First
theorem last_at {t:Title}(h:0<t.Chain.length):∃ x,t.Chain[t.Chain.length - 1]?=some x∧ownerS t=x.To:=by
 have h1:t.Chain[t.Chain.length - 1]?=some (t.Chain[t.Chain.length - 1]'(by omega)):=List.getElem?_eq_getElem _
 refine⟨_,h1,?_⟩
 unfold ownerS
 rw[List.getLast?_eq_getElem?,h1]
theorem owner_nil {t:Title}(h:t.Chain.length=0):ownerS t=t.First:=by
 unfold ownerS
 rw[List.eq_nil_of_length_eq_zero h]
 rfl
theorem len_sub {n:Nat}(h:0<n)(h2:n≤1000000):io.ar .sub .i64 (n:Int) 1=((n - 1:Nat):Int):=by
 rw[io_subi,wr64 (by omega) (by omega)];omega
theorem owner_eq (t:Title)(h:t.Chain.length≤1000000):title_Owner_g t=some (ownerS t):=by
 unfold title_Owner_g
 rw[io_lt,io_len]
 by_cases h0:0<t.Chain.length
 ·have h1:(0:Int)<(t.Chain.length:Int):=by omega
  obtain⟨x,h2,h3⟩:=last_at h0
  rw[decide_eq_true h1,cond_true,len_sub h0 h,idxG_some h2,Option.bind_some,h3]
 ·have h1:¬ (0:Int)<(t.Chain.length:Int):=by omega
  rw[decide_eq_false h1,cond_false,owner_nil (by omega)]
def usedS (t:Title)(key:ByteArray):Bool:=decide (t.First=key)||t.Chain.any fun x=>decide (x.To=key)
theorem used_eq (t:Title)(key:ByteArray)(h:t.Chain.length≤1000000):title_used_g t key=some (usedS t key):=by
 unfold title_used_g usedS
 rw[seq_dec]
 by_cases h0:t.First=key
 ·rw[decide_eq_true h0,cond_true,Bool.true_or]
 ·rw[decide_eq_false h0,cond_false,Bool.false_or]
  rw[loop_any (step:=title_used_l2 t key) t.Chain (fun x=>decide (x.To=key)) (.inr true) (.inl ()) (fun k x hx=>by
   have hk:=(List.getElem?_eq_some_iff.1 hx).1
   have h1:(k:Int)<(t.Chain.length:Int):=by omega
   have h2:(0:Int)≤(k:Int):=by omega
   unfold title_used_l2
   simp only[io_lt,io_len,io_le,decide_eq_true h1,cond_true,idxG_some hx,Option.bind_some,seq_dec,decide_eq_true h2,io_add,wr_up (k:=k) (by omega)]
   cases decide (x.To=key)<;>rfl) (by
   have h1:¬ (t.Chain.length:Int)<(t.Chain.length:Int):=by omega
   unfold title_used_l2
   simp only[io_lt,io_len,decide_eq_false h1,cond_false])]
  cases t.Chain.any fun x=>decide (x.To=key)
  ·rw[if_neg (by decide),io_le];rfl
  ·rw[if_pos rfl];rfl
def numI (n:Int):ByteArray:=⟨(Lib.itoa n).toArray⟩
theorem numI_size (n:Int)(h0:0≤n)(h1:n≤1000000000):(numI n).size≤20:=by
 obtain⟨k,rfl⟩:∃ k:Nat,n=(k:Int):=⟨n.toNat,by omega⟩
 have:=itoa_nat_le k (by omega)
 show (Lib.itoa (k:Int)).toArray.size≤20
 rw[List.size_toArray];exact this
def fieldsS (t:Title)(to:ByteArray):List ByteArray:=[numI t.Serial,numI t.Show,t.First]++t.Chain.map (·.To)++[to]
def msgS (t:Title)(to:ByteArray):ByteArray:=listS (fieldsS t to)
theorem foldl_to (c:List Transfer)(s:List ByteArray):c.foldl (fun s x=>s++[x.To]) s=s++c.map (·.To):=by
 induction c generalizing s with
 | nil=>simp
 | cons x c ih=>rw[List.foldl_cons,ih,List.map_cons,List.append_assoc];rfl
theorem room_sum (B:Nat):∀ l:List ByteArray,(∀ x∈l,x.size≤B)→room l≤l.length * (B+21)
 | [],_=>Nat.zero_le _
 | x::l,h=>by
  have h1:=room_sum B l fun y hy=>h y (List.mem_cons_of_mem _ hy)
  have h2:=h x (List.mem_cons_self ..)
  rw[room_cons,List.length_cons,Nat.add_mul]
  omega
structure MsgOk (t:Title)(to:ByteArray):Prop where
 s0:0≤t.Serial
 s1:t.Serial≤1000000000
 h0:0≤t.Show
 h1:t.Show≤1000000000
 f:t.First.size≤1000
 c:∀ x∈t.Chain,x.To.size≤1000
 n:t.Chain.length≤1000
 t:to.size≤1000
theorem MsgOk.room {t:Title}{to:ByteArray}(h:MsgOk t to):room (fieldsS t to)≤140737488355328:=by
 have h1:=room_sum 1000 (fieldsS t to) (fun x hx=>by
  unfold fieldsS at hx
  simp only[List.mem_append,List.mem_cons,List.not_mem_nil,or_false,List.mem_map] at hx
  rcases hx with ((rfl | rfl | rfl) | ⟨y,hy,rfl⟩) | rfl
  ·have:=numI_size _ h.s0 h.s1;omega
  ·have:=numI_size _ h.h0 h.h1;omega
  ·exact h.f
  ·exact h.c y hy
  ·exact h.t)
 have h2:(fieldsS t to).length≤1004:=by
  have:=h.n
  unfold fieldsS
  simp only[List.length_append,List.length_cons,List.length_nil,List.length_map]
  omega
 have h3:(fieldsS t to).length * (1000+21)≤1004 * 1021:=Nat.mul_le_mul_right _ h2
 omega
theorem msg_eq (t:Title)(to:ByteArray)(h:MsgOk t to):title_Message_g t to=some (msgS t to):=by
 have hn:=h.n
 have hs0:=h.s0
 have hs1:=h.s1
 have hh0:=h.h0
 have hh1:=h.h1
 have e1:strconv_Itoa_g t.Serial=some (numI t.Serial):=by unfold strconv_Itoa_g;rw[if_pos ⟨by omega,by omega⟩];rfl
 have e2:strconv_Itoa_g t.Show=some (numI t.Show):=by unfold strconv_Itoa_g;rw[if_pos ⟨by omega,by omega⟩];rfl
 unfold title_Message_g
 rw[e1,e2,Option.bind_some,Option.bind_some,Option.bind_some]
 rw[loop_fold (step:=title_Message_l2 t) (fun s i=>(s,i)) t.Chain (fun s x=>s++[x.To]) [numI t.Serial,numI t.Show,t.First] ([numI t.Serial,numI t.Show,t.First]++t.Chain.map (·.To)) (fun k x hx=>by
  have hk:=(List.getElem?_eq_some_iff.1 hx).1
  have h1:(k:Int)<(t.Chain.length:Int):=by omega
  rw[foldl_to]
  unfold title_Message_l2
  simp only[io_lt,io_len,decide_eq_true h1,cond_true,idxG_some hx,Option.bind_some,io_add,wr_up (k:=k) (by omega)]
  rw[appG_some (by simp only[List.length_append,List.length_cons,List.length_nil,List.length_map,List.length_take];omega)]
  rfl) (by
  have h1:¬ (t.Chain.length:Int)<(t.Chain.length:Int):=by omega
  rw[foldl_to]
  unfold title_Message_l2
  simp only[io_lt,io_len,decide_eq_false h1,cond_false])]
 rw[Option.bind_some,Option.bind_some,appG_some (by simp only[List.length_append,List.length_cons,List.length_nil,List.length_map];omega),Option.bind_some]
 show (digest_List_g (fieldsS t to)).bind _=_
 rw[list_eq _ (room_ok h.room)]
 rfl
end Go.SX.Rg
set_option linter.unusedVariables false
namespace Go.SX.Rg
open Go Go.SX
theorem orR_l {τ ρ:Type}(x:τ)(k:τ→Option ρ):orR (some (.inl x)) k=k x:=rfl
theorem orR_r {τ ρ:Type}(x:ρ)(k:τ→Option ρ):orR (some (.inr x)) k=some x:=rfl
def endS (m:ByteArray)(sig:List ByteArray)(i:Nat):ByteArray:=chainS (sig.getD i ⟨#[]⟩) (15 - dgN m i)
def verifyS (p m:ByteArray)(sig:List ByteArray):Bool:=decide (sig.length=18)&&(sig.all isS&&decide (listS ((List.range 18).map (endS m sig))=p))
theorem ends_list (f:Nat→ByteArray)(h:∀ i,i<18→(f i).size=16):room ((List.range 18).map f)≤140737488355328:=by
 rw[ends_room]
 ·rw[List.length_map,List.length_range];omega
 ·intro x hx
  obtain⟨i,hi,rfl⟩:=List.mem_map.1 hx
  exact h i (List.mem_range.1 hi)
theorem endS_size {m:ByteArray}{sig:List ByteArray}(hl:sig.length=18)(h:sig.all isS=true){i:Nat}(hi:i<18):(endS m sig i).size=16:=by
 unfold endS
 refine isS_size (chainS_is _ _ ?_)
 rw[List.getD_eq_getElem?_getD,List.getElem?_eq_getElem (by omega)]
 exact List.all_eq_true.1 h _ (List.getElem_mem _)
theorem range_snoc (f:Nat→ByteArray)(k:Nat):(List.range (k+1)).map f=(List.range k).map f++[f k]:=by rw[List.range_succ,List.map_append];rfl
theorem sig_loop {step:(List ByteArray×Int)→Option ((List ByteArray×Int) ⊕ (List ByteArray ⊕ Bool))}(m:ByteArray)(sig:List ByteArray)(hl:sig.length=18)
  (hy:∀ (k:Nat) x,k<18→sig[k]?=some x→isS x=true→step ((List.range k).map (endS m sig),(k:Int))=some (.inl ((List.range (k+1)).map (endS m sig),((k+1:Nat):Int))))
  (hn:∀ (k:Nat) x,k<18→sig[k]?=some x→isS x=false→step ((List.range k).map (endS m sig),(k:Int))=some (.inr (.inr false)))
  (he:∀ s,step (s,((18:Nat):Int))=some (.inr (.inl s))) :
  whileG step ([],0)=some (if sig.all isS then .inl ((List.range 18).map (endS m sig)) else .inr false):=by
 obtain⟨t,h1,rfl⟩:=loop_up (step:=step) (fun s i=>(s,i)) 18 (fun k s=>s=(List.range k).map (endS m sig)∧∀ (j:Nat) x,j<k→sig[j]?=some x→isS x=true)
  (fun t=>t=if sig.all isS then .inl ((List.range 18).map (endS m sig)) else .inr false)
  (fun k s hk hI=>by
   obtain⟨rfl,hI⟩:=hI
   have hx:sig[k]?=some (sig[k]'(by omega)):=List.getElem?_eq_getElem _
   cases hc:isS (sig[k]'(by omega)) with
   | true =>
    refine .inl ⟨_,hy k _ hk hx hc,rfl,fun j x hj hjx=>?_⟩
    by_cases hjk:j=k
    ·subst hjk;rw[hx] at hjx;cases hjx;exact hc
    ·exact hI j x (by omega) hjx
   | false =>
    refine .inr ⟨_,hn k _ hk hx hc,?_⟩
    rw[if_neg]
    intro h
    have:=List.all_eq_true.1 h _ (List.getElem_mem (by omega:k<sig.length))
    rw[hc] at this;cases this)
  (fun s hI=>by
   obtain⟨rfl,hI⟩:=hI
   refine⟨_,he _,?_⟩
   rw[if_pos]
   rw[List.all_eq_true]
   intro x hx
   obtain⟨j,hj⟩:=List.getElem?_of_mem hx
   exact hI j x (by have:=(List.getElem?_eq_some_iff.1 hj).1;omega) hj) [] ⟨rfl,fun j x hj=>by omega⟩
 exact h1
theorem verify_eq (p m:ByteArray)(sig:List ByteArray)(hm:m.size<4611686018427387904):sign_Verify_g p m sig=some (verifyS p m sig):=by
 unfold sign_Verify_g verifyS
 rw[io_not,io_eqi,io_len]
 by_cases hl:sig.length=18
 ·have hl':(sig.length:Int)=18:=by omega
  rw[decide_eq_true hl',decide_eq_true hl,Bool.true_and,Bool.not_true,cond_false,digits_eq2 m hm,Option.bind_some]
  have hc:∀ k:Nat,k<18→io.ar .sub .i64 15 ((dgA (sumS m)).get k)=((15 - dgN m k:Nat):Int):=fun k hk=>by
   have:=dgN_lt m k
   rw[dgA_get m hk,io_subi,wr64 (by omega) (by omega)];omega
  rw[sig_loop (step:=sign_Verify_l2 sig (dgA (sumS m))) m sig hl (fun k x hk hx hi=>by
   have h1:(k:Int)<(sig.length:Int):=by omega
   have hch:digest_Chain_g x (io.ar .sub .i64 15 ((dgA (sumS m)).get k))=some (endS m sig k):=by
    rw[hc k hk,chain_eq _ _ (by rw[isS_size hi];decide)]
    unfold endS
    rw[List.getD_eq_getElem?_getD,hx,Option.getD_some]
    congr 2
    omega
   unfold sign_Verify_l2
   simp only[io_lt,io_len,decide_eq_true h1,cond_true,idxG_some hx,Option.bind_some,digest_Is_eq,hi,io_not,Bool.not_true,cond_false,pixG_some hk,hch]
   rw[appG_some (by simp only[List.length_map,List.length_range,List.length_cons,List.length_nil];omega),range_snoc,io_add,wr_up (k:=k) (by omega)]
   rfl) (fun k x hk hx hi=>by
   have h1:(k:Int)<(sig.length:Int):=by omega
   unfold sign_Verify_l2
   simp only[io_lt,io_len,decide_eq_true h1,cond_true,idxG_some hx,Option.bind_some,digest_Is_eq,hi,io_not,Bool.not_false]
   rfl) (fun s=>by
   have h1:¬ ((18:Nat):Int)<(sig.length:Int):=by omega
   unfold sign_Verify_l2
   simp only[io_lt,io_len,decide_eq_false h1,cond_false])]
  cases ha:sig.all isS with
  | false=>rw[if_neg (by decide),orR_r,Bool.false_and]
  | true =>
   rw[if_pos rfl,Bool.true_and,orR_l]
   rw[list_eq _ (room_ok (ends_list _ fun i hi=>endS_size hl ha hi)),Option.bind_some,seq_dec]
 ·have hl':¬ (sig.length:Int)=18:=by omega
  rw[decide_eq_false hl',decide_eq_false hl,Bool.false_and,Bool.not_false,cond_true]
theorem verify_sign (s m:ByteArray):verifyS (publicS s) m (signS s m)=true:=by
 have h18:(signS s m).length=18:=by unfold signS;rw[List.length_map,List.length_range]
 have hall:(signS s m).all isS=true:=by
  rw[List.all_eq_true]
  intro x hx
  unfold signS at hx
  obtain⟨i,hi,rfl⟩:=List.mem_map.1 hx
  exact chainS_is _ _ (listS_is _)
 have he:(List.range 18).map (endS m (signS s m))=(List.range 18).map fun i=>chainS (startS s i) 15:=by
  refine List.map_congr_left fun i hi=>?_
  have hi:=List.mem_range.1 hi
  have:=dgN_lt m i
  unfold endS signS
  rw[List.getD_eq_getElem?_getD,List.getElem?_map,List.getElem?_range hi,Option.map_some,Option.getD_some,chainS_add,show dgN m i+(15 - dgN m i)=15 by omega]
 unfold verifyS
 rw[decide_eq_true h18,hall,he,publicS,decide_eq_true rfl]
 rfl
theorem signS_len (s m:ByteArray):(signS s m).length=18:=by unfold signS;rw[List.length_map,List.length_range]
theorem signS_is (s m:ByteArray):(signS s m).all isS=true:=by
 rw[List.all_eq_true]
 intro x hx
 unfold signS at hx
 obtain⟨i,hi,rfl⟩:=List.mem_map.1 hx
 exact chainS_is _ _ (listS_is _)
def trS (x:Transfer):Bool:=decide (x.Sig.length=18)&&(isS x.To&&x.Sig.all isS)
def formedS (t:Title):Bool :=
 decide (0≤t.Show)&&(decide (t.Show<20)&&(decide (1≤t.Serial - (t.Show+1) * 10000)&&(decide (t.Serial - (t.Show+1) * 10000≤9999) &&
  (decide (-1≤t.Place)&&(decide (t.Place<4000)&&(isS t.First&&(decide (t.Chain.length≤50)&&t.Chain.all trS)))))))
theorem lt_not (a b:Int):decide (a<b)=!decide (b≤a):=by
 by_cases h:a<b
 ·rw[decide_eq_true h,decide_eq_false (by omega)];rfl
 ·rw[decide_eq_false h,decide_eq_true (by omega)];rfl
theorem le_not (a b:Int):decide (a≤b)=!decide (b<a):=by
 by_cases h:a≤b
 ·rw[decide_eq_true h,decide_eq_false (by omega)];rfl
 ·rw[decide_eq_false h,decide_eq_true (by omega)];rfl
theorem eight {a1 a2 a3 a4 a5 a6 a7 a8 z:Bool}{A:Option (Unit ⊕ Bool)}(hA:a1=true→a2=true→a8=true→A=some (if z then .inl () else .inr false)) :
  (Option.bind (bif !a1 then some true else bif !a2 then some true else bif !a3 then some true else bif !a4 then some true else bif !a5 then some true else bif !a6 then some true else Option.bind (some a7) fun v2=>bif !v2 then some true else some (!a8)) fun v1 =>
   bif v1 then some false else orR A fun _=>some true)=some (a1&&(a2&&(a3&&(a4&&(a5&&(a6&&(a7&&(a8&&z)))))))):=by
 cases a1
 ·rfl
 cases a2
 ·rfl
 cases a3
 ·rfl
 cases a4
 ·rfl
 cases a5
 ·rfl
 cases a6
 ·rfl
 cases a7
 ·rfl
 cases a8
 ·rfl
 rw[hA rfl rfl rfl]
 cases z<;>rfl
theorem ser_sub (t:Title)(h0:0≤t.Show)(h1:t.Show<20)(s0:0≤t.Serial)(s1:t.Serial≤1000000000):io.ar .sub .i64 t.Serial (io.ar .mul .i64 (io.ar .add .i64 t.Show 1) 10000)=t.Serial - (t.Show+1) * 10000:=by
 rw[io_add,wr64 (by omega) (by omega),io_mul,wr64 (by omega) (by omega),io_subi,wr64 (by omega) (by omega)]
theorem two_first {a1 a2:Bool}{A A':Option Bool}{B:Bool→Option Bool}(h:a1=true→a2=true→A=A') :
  (Option.bind (bif !a1 then some true else bif !a2 then some true else A) B)=(Option.bind (bif !a1 then some true else bif !a2 then some true else A') B):=by
 cases a1
 ·rfl
 cases a2
 ·rfl
 rw[h rfl rfl]
theorem sigs_loop (x:Transfer)(h:x.Sig.length≤1000000):whileG (title_formed_l26 x) 0=some (if x.Sig.any (fun s=>!isS s) then .inr true else .inl ():Unit ⊕ Bool) :=
 loop_any (step:=title_formed_l26 x) x.Sig (fun s=>!isS s) (.inr true) (.inl ()) (fun k s hs=>by
  have hk:=(List.getElem?_eq_some_iff.1 hs).1
  have h1:(k:Int)<(x.Sig.length:Int):=by omega
  have h2:(0:Int)≤(k:Int):=by omega
  unfold title_formed_l26
  simp only[io_lt,io_len,io_le,decide_eq_true h1,cond_true,idxG_some hs,Option.bind_some,digest_Is_eq,io_not,decide_eq_true h2,io_add,wr_up (k:=k) (by omega)]
  cases isS s<;>rfl) (by
  have h1:¬ (x.Sig.length:Int)<(x.Sig.length:Int):=by omega
  unfold title_formed_l26
  simp only[io_lt,io_len,decide_eq_false h1,cond_false])
theorem any_not (l:List ByteArray):(l.any fun s=>!isS s)=!(l.all isS):=by
 rw[List.any_eq_not_all_not]
 simp only[Bool.not_not]
theorem formed_loop (t:Title)(h:t.Chain.length≤1000000):whileG (title_formed_l22 t) 0=some (if t.Chain.any (fun x=>!trS x) then .inr false else .inl ():Unit ⊕ Bool) :=
 loop_any (step:=title_formed_l22 t) t.Chain (fun x=>!trS x) (.inr false) (.inl ()) (fun k x hx=>by
  have hk:=(List.getElem?_eq_some_iff.1 hx).1
  have h1:(k:Int)<(t.Chain.length:Int):=by omega
  unfold title_formed_l22
  simp only[io_lt,io_len,decide_eq_true h1,cond_true,idxG_some hx,Option.bind_some,io_not,io_eqi,digest_Is_eq,io_add,wr_up (k:=k) (by omega),io_le]
  unfold trS
  by_cases hl:x.Sig.length=18
  ·have hl':(x.Sig.length:Int)=18:=by omega
   rw[decide_eq_true hl',decide_eq_true hl,sigs_loop x (by omega),any_not]
   cases isS x.To
   ·rfl
   ·cases x.Sig.all isS<;>rfl
  ·have hl':¬ (x.Sig.length:Int)=18:=by omega
   rw[decide_eq_false hl',decide_eq_false hl]
   rfl) (by
  have h1:¬ (t.Chain.length:Int)<(t.Chain.length:Int):=by omega
  unfold title_formed_l22
  simp only[io_lt,io_len,decide_eq_false h1,cond_false])
theorem any_notT (l:List Transfer):(l.any fun s=>!trS s)=!(l.all trS):=by
 rw[List.any_eq_not_all_not]
 simp only[Bool.not_not]
theorem le50 (n:Nat):decide ((50:Int)<(n:Int))=!decide (n≤50):=by
 by_cases h:n≤50
 ·rw[decide_eq_true h,decide_eq_false (by omega)];rfl
 ·rw[decide_eq_false h,decide_eq_true (by omega)];rfl
theorem formed_eq (t:Title)(s0:0≤t.Serial)(s1:t.Serial≤1000000000):title_formed_g t=some (formedS t):=by
 unfold title_formed_g formedS
 simp only[io_lt,io_le,io_len]
 rw[lt_not t.Show 0,le_not 20 t.Show,lt_not t.Place (-1),le_not 4000 t.Place,le50]
 rw[two_first (fun h0 h1=>by
  rw[ser_sub t (of_decide_eq_true h0) (of_decide_eq_true h1) s0 s1])]
 rw[lt_not _ 1,lt_not 9999]
 simp only[digest_Is_eq,io_not]
 refine eight fun _ _ h8=>?_
 rw[formed_loop t (by have:=of_decide_eq_true h8;omega),any_notT]
 cases t.Chain.all trS<;>rfl
def cutS (t:Title)(k:Nat):Title:={ t with Chain:=t.Chain.take k }
def stepS (t:Title)(x:Transfer):Bool:=!usedS t x.To&&verifyS (ownerS t) (msgS t x.To) x.Sig
def stepsS (t:Title):Bool:=(List.range t.Chain.length).all fun k=>match t.Chain[k]? with | some x=>stepS (cutS t k) x | none=>true
def validS (t:Title):Bool:=formedS t&&stepsS t
structure Formed (t:Title):Prop where
 h0:0≤t.Show
 h1:t.Show<20
 k0:1≤t.Serial - (t.Show+1) * 10000
 k1:t.Serial - (t.Show+1) * 10000≤9999
 p0:-1≤t.Place
 p1:t.Place<4000
 f:isS t.First=true
 n:t.Chain.length≤50
 c:t.Chain.all trS=true
theorem formedS_iff (t:Title):formedS t=true↔Formed t:=by
 unfold formedS
 simp only[Bool.and_eq_true,decide_eq_true_eq]
 exact⟨fun ⟨h1,h2,h3,h4,h5,h6,h7,h8,h9⟩=>⟨h1,h2,h3,h4,h5,h6,h7,h8,h9⟩,fun ⟨h1,h2,h3,h4,h5,h6,h7,h8,h9⟩=>⟨h1,h2,h3,h4,h5,h6,h7,h8,h9⟩⟩
theorem trS_to {x:Transfer}(h:trS x=true):isS x.To=true:=by
 unfold trS at h
 simp only[Bool.and_eq_true] at h
 exact h.2.1
theorem Formed.msg {t:Title}(h:Formed t)(k:Nat)(to:ByteArray)(ht:to.size≤1000):MsgOk (cutS t k) to where
 s0:=by have:=h.h0;have:=h.k0;show 0≤t.Serial;omega
 s1:=by have:=h.h1;have:=h.k1;show t.Serial≤_;omega
 h0:=h.h0
 h1:=by have:=h.h1;show t.Show≤_;omega
 f:=by show t.First.size≤_;rw[isS_size h.f];decide
 c:=fun x hx=>by
  have hx:=List.mem_of_mem_take hx
  rw[isS_size (trS_to (List.all_eq_true.1 h.c x hx))];decide
 n:=by have:=h.n;show (t.Chain.take k).length≤_;rw[List.length_take];omega
 t:=ht
theorem cut_all (t:Title):cutS t t.Chain.length=t:=by
 unfold cutS
 rw[List.take_length]
theorem msgS_size (t:Title)(to:ByteArray):(msgS t to).size=16:=sumS_size _
theorem step_eq {t:Title}(h:Formed t)(k:Nat)(x:Transfer)(hx:x.To.size≤1000):stepG (cutS t k) x=some (!stepS (cutS t k) x):=by
 have hn:=h.n
 have hl:(cutS t k).Chain.length≤1000000:=by show (t.Chain.take k).length≤_;rw[List.length_take];omega
 unfold stepG stepS
 rw[used_eq _ _ hl,Option.bind_some,owner_eq _ hl,msg_eq _ _ (h.msg k x.To hx),Option.bind_some,Option.bind_some,verify_eq _ _ _ (by rw[msgS_size];decide),Option.bind_some,io_not]
 cases usedS (cutS t k) x.To
 ·rfl
 ·rfl
theorem allG_all2 {α:Type}(f:Nat→Option α)(g:Nat→α)(n:Nat)(h:∀ i,i<n→f i=some (g i)):allG f n=some ((List.range n).map g):=allG_all n h
theorem valid_eq (t:Title)(s0:0≤t.Serial)(s1:t.Serial≤1000000000):title_Valid_g t=some (validS t):=by
 unfold title_Valid_g validS
 rw[formed_eq t s0 s1,Option.bind_some]
 cases hf:formedS t with
 | false=>rfl
 | true =>
  have hF:=(formedS_iff t).1 hf
  have hn:=hF.n
  rw[cond_true,if_pos (by omega),Bool.true_and,allG_all2 _ (fun k=>match t.Chain[k]? with | some x=>!stepS (cutS t k) x | none=>false) _ (fun k hk=>by
   rw[List.getElem?_eq_getElem hk,Option.bind_some]
   exact step_eq hF k _ (by rw[isS_size (trS_to (List.all_eq_true.1 hF.c _ (List.getElem_mem hk)))];decide)),Option.bind_some]
  unfold stepsS
  rw[List.all_map]
  congr 1
  refine List.all_congr rfl fun k=>?_
  show (!(match t.Chain[k]? with | some x=>!stepS (cutS t k) x | none=>false))=_
  cases t.Chain[k]? with
  | none=>rfl
  | some x=>simp only[Bool.not_not]
end Go.SX.Rg
set_option linter.unusedVariables false
namespace Go.SX.Rg
open Go Go.SX
theorem any_false {α:Type}(l:List α):(l.any fun _=>false)=false:=by
 rw[List.any_eq_false]
 intro x _
 decide
theorem ints_refl (a:List Int)(h:a.length≤1000000):ref11_Ints_g a a=some true:=by
 unfold ref11_Ints_g
 rw[io_not,io_eqi,decide_eq_true rfl,Bool.not_true,cond_false]
 rw[loop_any (step:=ref11_Ints_l2 a a) a (fun _=>false) (.inr false) (.inl ()) (fun k x hx=>by
  have hk:=(List.getElem?_eq_some_iff.1 hx).1
  have h1:(k:Int)<(a.length:Int):=by omega
  unfold ref11_Ints_l2
  simp only[io_lt,io_len,decide_eq_true h1,cond_true,idxG_some hx,Option.bind_some,io_not,io_eqi,decide_true,Bool.not_true,cond_false,io_add,wr_up (k:=k) (by omega)]
  rfl) (by
  have h1:¬ (a.length:Int)<(a.length:Int):=by omega
  unfold ref11_Ints_l2
  simp only[io_lt,io_len,decide_eq_false h1,cond_false]),any_false]
 rfl
theorem sigs_refl (a:List ByteArray)(h:a.length≤1000000):ref03_Same_g a a=some true:=by
 unfold ref03_Same_g
 rw[io_not,io_eqi,decide_eq_true rfl,Bool.not_true,cond_false]
 rw[loop_any (step:=ref03_Same_l2 a a) a (fun _=>false) (.inr false) (.inl ()) (fun k x hx=>by
  have hk:=(List.getElem?_eq_some_iff.1 hx).1
  have h1:(k:Int)<(a.length:Int):=by omega
  unfold ref03_Same_l2
  simp only[io_lt,io_len,decide_eq_true h1,cond_true,idxG_some hx,Option.bind_some,io_not,seq_dec,decide_true,Bool.not_true,cond_false,io_add,wr_up (k:=k) (by omega)]
  rfl) (by
  have h1:¬ (a.length:Int)<(a.length:Int):=by omega
  unfold ref03_Same_l2
  simp only[io_lt,io_len,decide_eq_false h1,cond_false]),any_false]
 rfl
def SmallT (t:Title):Prop:=t.Chain.length≤1000000∧∀ x∈t.Chain,x.Sig.length≤1000000
theorem ext_refl (s1 h1 p1 p2:Int)(f:ByteArray)(c:List Transfer)(h:SmallT ⟨s1,h1,p1,f,c⟩):ref30_Extends_g ⟨s1,h1,p1,f,c⟩ ⟨s1,h1,p2,f,c⟩=some true:=by
 obtain⟨hl,hs⟩:=h
 dsimp only at hl hs
 unfold ref30_Extends_g
 have hlt:¬ (c.length:Int)<(c.length:Int):=by omega
 simp only[io_not,io_eqi,seq_dec,decide_true,Bool.not_true,cond_false,Option.bind_some,io_lt,io_len,decide_eq_false hlt]
 rw[loop_any (step:=ref30_Extends_l2 ⟨s1,h1,p2,f,c⟩ ⟨s1,h1,p1,f,c⟩) c (fun _=>false) (.inr false) (.inl ()) (fun k x hx=>by
  have hk:=(List.getElem?_eq_some_iff.1 hx).1
  have h1:(k:Int)<(c.length:Int):=by omega
  unfold ref30_Extends_l2
  simp only[io_lt,io_len,decide_eq_true h1,cond_true,idxG_some hx,Option.bind_some,io_not,seq_dec,decide_true,Bool.not_true,cond_false,sigs_refl x.Sig (hs x (List.mem_of_getElem? hx)),io_add,wr_up (k:=k) (by omega)]
  rfl) (by
  unfold ref30_Extends_l2
  simp only[io_lt,io_len,decide_eq_false hlt,cond_false]),any_false]
 rfl
theorem same_refl (t:Title)(h:SmallT t):ref30_Same_g t t=some true:=by
 obtain⟨s1,h1,p1,f,c⟩:=t
 unfold ref30_Same_g
 rw[ext_refl _ _ _ _ _ _ h,Option.bind_some,cond_true,Option.bind_some,cond_true,io_eqi,decide_eq_true rfl]
theorem Formed.small {t:Title}(h:Formed t):SmallT t:=by
 refine⟨by have:=h.n;omega,fun x hx=>?_⟩
 have:=List.all_eq_true.1 h.c x hx
 unfold trS at this
 simp only[Bool.and_eq_true,decide_eq_true_eq] at this
 rw[this.1];decide
def zeroT : Title:=Title.mk 0 0 0 (⟨#[]⟩) []
theorem valid_formed {t:Title}(h:validS t=true):Formed t:=by
 unfold validS at h
 rw[Bool.and_eq_true] at h
 exact(formedS_iff t).1 h.1
def baseS (sh:Int):Int:=(sh+1) * 10000+1
def ttlF : Int→List Entry→List (Int×Entry)
 | _,[]=>[]
 | b,e::l=>(b,e)::ttlF (b+1) l
theorem ttlF_len : ∀ (l:List Entry)(b:Int),(ttlF b l).length=l.length
 | [],_=>rfl
 | e::l,b=>by unfold ttlF;rw[List.length_cons,ttlF_len l,List.length_cons]
theorem ttlF_lt : ∀ (l:List Entry)(b s:Int),s<b→mlook (ttlF b l) s=none
 | [],_,_,_=>rfl
 | e::l,b,s,h=>by unfold ttlF mlook;rw[if_neg (by omega),ttlF_lt l _ _ (by omega)]
theorem ttlF_at : ∀ (l:List Entry)(b:Int)(i:Nat),mlook (ttlF b l) (b+i)=l[i]?
 | [],_,_=>rfl
 | e::l,b,0=>by unfold ttlF mlook;rw[if_pos (by omega)];rfl
 | e::l,b,i+1=>by
  unfold ttlF mlook
  rw[if_neg (by omega),show b+((i+1:Nat):Int)=(b+1)+(i:Int) by omega,ttlF_at l]
  rfl
def lookS (b:Int)(l:List Entry)(s:Int):Option Entry:=if b≤s then l[(s - b).toNat]? else none
theorem lookS_at (b:Int)(l:List Entry)(i:Nat):lookS b l (b+i)=l[i]?:=by
 unfold lookS
 rw[if_pos (by omega),show (b+(i:Int) - b).toNat=i by omega]
theorem lookS_some {b:Int}{l:List Entry}{s:Int}{e:Entry}(h:lookS b l s=some e):∃ i:Nat,s=b+i∧l[i]?=some e:=by
 unfold lookS at h
 split at h
 ·exact⟨(s - b).toNat,by omega,h⟩
 ·cases h
theorem look_eq (b:Int)(l:List Entry)(s:Int):mlook (ttlF b l) s=lookS b l s:=by
 by_cases h:b≤s
 ·obtain⟨i,rfl⟩:∃ i:Nat,s=b+i:=⟨(s - b).toNat,by omega⟩
  rw[ttlF_at,lookS_at]
 ·rw[ttlF_lt _ _ _ (by omega)]
  unfold lookS
  rw[if_neg h]
theorem ttlF_set : ∀ (l:List Entry)(b:Int)(i:Nat)(e:Entry),i<l.length→mputG (ttlF b l) (b+i) e=ttlF b (l.set i e)
 | [],_,_,_,h=>by simp at h
 | x::l,b,0,e,_=>by unfold ttlF mputG;rw[if_pos (by omega)];simp[ttlF]
 | x::l,b,i+1,e,h=>by
  have ih:=ttlF_set l (b+1) i e (by simpa using h)
  unfold ttlF mputG
  rw[if_neg (by omega),show b+((i+1:Nat):Int)=(b+1)+(i:Int) by omega,ih]
  rfl
theorem ttlF_app : ∀ (l:List Entry)(b:Int)(e:Entry),mputG (ttlF b l) (b+l.length) e=ttlF b (l++[e])
 | [],b,e=>by simp[ttlF,mputG]
 | x::l,b,e=>by
  have ih:=ttlF_app l (b+1) e
  unfold ttlF mputG
  rw[if_neg (by rw[List.length_cons];omega),show b+(((x::l).length:Nat):Int)=(b+1)+(l.length:Int) by rw[List.length_cons];omega,ih]
  rfl
section maps
variable {α:Type}
theorem mlook_none : ∀ (m:List (Int×α))(k:Int),k ∉ m.map (·.1)→mlook m k=none
 | [],_,_=>rfl
 | (k',v)::m,k,h=>by
  rw[List.map_cons,List.mem_cons,not_or] at h
  unfold mlook
  rw[if_neg h.1,mlook_none m k h.2]
theorem mlook_put : ∀ (m:List (Int×α))(k:Int)(v:α)(q:Int),mlook (mputG m k v) q=if q=k then some v else mlook m q
 | [],k,v,q=>by unfold mputG mlook mlook;rfl
 | (k',v')::m,k,v,q=>by
  unfold mputG
  by_cases h:k=k'
  ·rw[if_pos h]
   unfold mlook
   subst h
   by_cases hq:q=k
   ·rw[if_pos hq,if_pos hq]
   ·rw[if_neg hq,if_neg hq,if_neg hq]
  ·rw[if_neg h]
   unfold mlook
   by_cases hq:q=k'
   ·rw[if_pos hq,if_neg (by omega),if_pos hq]
   ·rw[if_neg hq,mlook_put m k v q,if_neg hq]
theorem mput_keys : ∀ (m:List (Int×α))(k:Int)(v:α)(q:Int),q∈(mputG m k v).map (·.1)→q=k∨q∈m.map (·.1)
 | [],k,v,q,h=>by unfold mputG at h;simpa using h
 | (k',v')::m,k,v,q,h=>by
  unfold mputG at h
  split at h
  ·rename_i hk
   rw[List.map_cons,List.mem_cons] at h ⊢
   rcases h with h | h
   ·exact .inl h
   ·exact .inr (.inr h)
  ·rw[List.map_cons,List.mem_cons] at h ⊢
   rcases h with h | h
   ·exact .inr (.inl h)
   ·rcases mput_keys m k v q h with h | h
    ·exact .inl h
    ·exact .inr (.inr h)
theorem mput_nd : ∀ (m:List (Int×α))(k:Int)(v:α),(m.map (·.1)).Nodup→((mputG m k v).map (·.1)).Nodup
 | [],k,v,_=>by unfold mputG;simp
 | (k',v')::m,k,v,h=>by
  rw[List.map_cons,List.nodup_cons] at h
  unfold mputG
  split
  ·rename_i hk
   rw[List.map_cons,List.nodup_cons]
   exact⟨by rw[hk];exact h.1,h.2⟩
  ·rename_i hk
   rw[List.map_cons,List.nodup_cons]
   refine⟨fun hc=>?_,mput_nd m k v h.2⟩
   rcases mput_keys m k v _ hc with hc | hc
   ·exact hk hc.symm
   ·exact h.1 hc
theorem mlook_del : ∀ (m:List (Int×α))(k q:Int),(m.map (·.1)).Nodup→mlook (mdelG m k) q=if q=k then none else mlook m q
 | [],k,q,_=>by unfold mdelG mlook;split<;>rfl
 | (k',v')::m,k,q,h=>by
  rw[List.map_cons,List.nodup_cons] at h
  unfold mdelG
  by_cases hk:k=k'
  ·rw[if_pos hk]
   by_cases hq:q=k
   ·rw[if_pos hq,hq,hk]
    exact mlook_none _ _ h.1
   ·rw[if_neg hq]
    conv=>rhs;unfold mlook
    rw[if_neg (by omega)]
  ·rw[if_neg hk]
   unfold mlook
   by_cases hq:q=k'
   ·rw[if_pos hq,if_neg (by omega),if_pos hq]
   ·rw[if_neg hq,mlook_del m k q h.2,if_neg hq]
theorem mdel_keys : ∀ (m:List (Int×α))(k q:Int),q∈(mdelG m k).map (·.1)→q∈m.map (·.1)
 | [],k,q,h=>by unfold mdelG at h;exact h
 | (k',v')::m,k,q,h=>by
  unfold mdelG at h
  split at h
  ·rw[List.map_cons,List.mem_cons];exact .inr h
  ·rw[List.map_cons,List.mem_cons] at h ⊢
   rcases h with h | h
   ·exact .inl h
   ·exact .inr (mdel_keys m k q h)
theorem mdel_nd : ∀ (m:List (Int×α))(k:Int),(m.map (·.1)).Nodup→((mdelG m k).map (·.1)).Nodup
 | [],k,_=>by unfold mdelG;simp
 | (k',v')::m,k,h=>by
  rw[List.map_cons,List.nodup_cons] at h
  unfold mdelG
  split
  ·exact h.2
  ·rw[List.map_cons,List.nodup_cons]
   exact⟨fun hc=>h.1 (mdel_keys m k _ hc),mdel_nd m k h.2⟩
end maps
theorem lookD_put (m:List (Int×Int))(k v q:Int):mlookD (mputG m k v) q 0=if q=k then v else mlookD m q 0:=by
 unfold mlookD
 rw[mlook_put]
 split<;>rfl
theorem lookD_del (m:List (Int×Int))(k q:Int)(h:(m.map (·.1)).Nodup):mlookD (mdelG m k) q 0=if q=k then 0 else mlookD m q 0:=by
 unfold mlookD
 rw[mlook_del m k q h]
 split<;>rfl
def onP (p:Int)(e:Entry):Bool:=decide (e.gone=0)&&decide (e.Title.Place=p)
theorem onP_iff {p:Int}{e:Entry}:onP p e=true↔e.gone=0∧e.Title.Place=p:=by
 unfold onP
 simp only[Bool.and_eq_true,decide_eq_true_eq]
def atS (b:Int)(l:List Entry)(p:Int):Int:=if p<0 then 0 else match l.findIdx? (onP p) with | some i=>b+i | none=>0
def AtIs (b:Int)(l:List Entry)(p v:Int):Prop:=(∃ (i:Nat)(e:Entry),l[i]?=some e∧onP p e=true∧v=b+i)∨(v=0∧∀ (i:Nat)(e:Entry),l[i]?=some e→onP p e=false)
theorem at_is (b:Int)(l:List Entry){p:Int}(h:0≤p):AtIs b l p (atS b l p):=by
 unfold atS
 rw[if_neg (by omega)]
 cases hf:l.findIdx? (onP p) with
 | some i =>
  rw[List.findIdx?_eq_some_iff_getElem] at hf
  obtain⟨hi,h1,_⟩:=hf
  exact .inl ⟨i,_,List.getElem?_eq_getElem hi,h1,rfl⟩
 | none =>
  rw[List.findIdx?_eq_none_iff] at hf
  exact .inr ⟨rfl,fun i e he=>hf e (List.mem_of_getElem? he)⟩
def UniqS (l:List Entry):Prop:=∀ (i j:Nat)(e f:Entry)(p:Int),l[i]?=some e→l[j]?=some f→0≤p→onP p e=true→onP p f=true→i=j
theorem at_uniq {b:Int}{l:List Entry}(hu:UniqS l)(hb:0<b){p v w:Int}(hp:0≤p)(h1:AtIs b l p v)(h2:AtIs b l p w):v=w:=by
 rcases h1 with ⟨i,e,h1,h3,rfl⟩ | ⟨rfl,h1⟩
 ·rcases h2 with ⟨j,f,h2,h4,rfl⟩ | ⟨rfl,h2⟩
  ·rw[hu i j e f p h1 h2 hp h3 h4]
  ·have:=h2 i e h1
   rw[h3] at this;cases this
 ·rcases h2 with ⟨j,f,h2,h4,rfl⟩ | ⟨rfl,h2⟩
  ·have:=h1 j f h2
   rw[h4] at this;cases this
  ·rfl
theorem atS_of {b:Int}{l:List Entry}(hu:UniqS l)(hb:0<b){p v:Int}(hp:0≤p)(h1:AtIs b l p v):v=atS b l p:=at_uniq hu hb hp h1 (at_is b l hp)
theorem atS_neg (b:Int)(l:List Entry){p:Int}(h:p<0):atS b l p=0:=by unfold atS;rw[if_pos h]
structure EntOk (sh pl:Int)(i:Nat)(e:Entry):Prop where
 ser:e.Title.Serial=baseS sh+i
 sh:e.Title.Show=sh
 p0:-1≤e.Title.Place
 p1:e.Title.Place<pl
 g:0≤e.gone
 v:validS e.Title=true
structure InvL (sh pl:Int)(l:List Entry):Prop where
 sh0:0≤sh
 sh1:sh<20
 pl0:0≤pl
 pl1:pl≤4000
 len:l.length≤1000
 ent:∀ (i:Nat)(e:Entry),l[i]?=some e→EntOk sh pl i e
 uniq:UniqS l
structure InvA (b:Int)(l:List Entry)(a:List (Int×Int)):Prop where
 nd:(a.map (·.1)).Nodup
 eq:∀ p,mlookD a p 0=atS b l p
theorem InvL.b0 {sh pl:Int}{l:List Entry}(h:InvL sh pl l):0<baseS sh:=by have:=h.sh0;unfold baseS;omega
theorem InvL.b1 {sh pl:Int}{l:List Entry}(h:InvL sh pl l):baseS sh≤200001:=by have:=h.sh1;unfold baseS;omega
theorem InvL.nil {sh pl:Int}(h0:0≤sh)(h1:sh<20)(p0:0≤pl)(p1:pl≤4000):InvL sh pl [] :=
 ⟨h0,h1,p0,p1,Nat.zero_le _,fun i e h=>by simp at h,fun i j e f p h=>by simp at h⟩
theorem InvA.nil (b:Int):InvA b [] []:=⟨List.nodup_nil,fun p=>by unfold atS;split<;>rfl⟩
theorem add_at {sh pl:Int}{l:List Entry}{a:List (Int×Int)}(h:InvL sh pl l)(ha:InvA (baseS sh) l a){e:Entry}{p:Int}(hp:0≤p)(hn:atS (baseS sh) l p=0)(he:onP p e=true) :
  UniqS (l++[e])∧InvA (baseS sh) (l++[e]) (mputG a p (baseS sh+l.length)):=by
 have hb:=h.b0
 have hno:∀ (i:Nat)(f:Entry),l[i]?=some f→onP p f=false:=by
  rcases at_is (baseS sh) l hp with ⟨i,f,_,_,h3⟩ | ⟨_,h2⟩
  ·omega
  ·exact h2
 have hget:∀ (i:Nat)(f:Entry),(l++[e])[i]?=some f→(i<l.length∧l[i]?=some f)∨(i=l.length∧f=e):=fun i f hf=>by
  by_cases hi:i<l.length
  ·rw[List.getElem?_append_left hi] at hf
   exact .inl ⟨hi,hf⟩
  ·have h1:=(List.getElem?_eq_some_iff.1 hf).1
   rw[List.length_append,List.length_singleton] at h1
   have h2:i=l.length:=by omega
   subst h2
   rw[List.getElem?_append_right (Nat.le_refl _),Nat.sub_self] at hf
   exact .inr ⟨rfl,by simpa using hf.symm⟩
 have hplace:=(onP_iff.1 he).2
 have hu:UniqS (l++[e]):=by
  intro i j f g q hf hg hq hfq hgq
  rcases hget i f hf with ⟨_,hf1⟩ | ⟨hi,hfe⟩
  ·rcases hget j g hg with ⟨_,hg1⟩ | ⟨hj,hge⟩
   ·exact h.uniq i j f g q hf1 hg1 hq hfq hgq
   ·have:q=p:=by rw[← hplace,← hge];exact((onP_iff.1 hgq).2).symm
    rw[this,hno i f hf1] at hfq;cases hfq
  ·rcases hget j g hg with ⟨_,hg1⟩ | ⟨hj,hge⟩
   ·have:q=p:=by rw[← hplace,← hfe];exact((onP_iff.1 hfq).2).symm
    rw[this,hno j g hg1] at hgq;cases hgq
   ·omega
 refine⟨hu,mput_nd _ _ _ ha.nd,fun q=>?_⟩
 rw[lookD_put]
 by_cases hqp:q=p
 ·subst hqp
  rw[if_pos rfl]
  exact atS_of hu hb hp (.inl ⟨l.length,e,by rw[List.getElem?_append_right (Nat.le_refl _),Nat.sub_self];rfl,he,rfl⟩)
 ·rw[if_neg hqp,ha.eq]
  by_cases hq:q<0
  ·rw[atS_neg _ _ hq,atS_neg _ _ hq]
  ·refine atS_of hu hb (by omega) ?_
   rcases at_is (baseS sh) l (p:=q) (by omega) with ⟨i,f,h1,h2,h3⟩ | ⟨h1,h2⟩
   ·refine .inl ⟨i,f,?_,h2,h3⟩
    rw[List.getElem?_append_left (List.getElem?_eq_some_iff.1 h1).1,h1]
   ·refine .inr ⟨h1,fun i f hf=>?_⟩
    rcases hget i f hf with ⟨_,hf⟩ | ⟨_,hfe⟩
    ·exact h2 i f hf
    ·unfold onP
     rw[hfe,hplace,decide_eq_false (show ¬ p=q from fun h=>hqp h.symm),Bool.and_false]
def chA (a:List (Int×Int))(s:Int)(e e':Entry):List (Int×Int) :=
 let a1:=if 0≤e.Title.Place then mdelG a e.Title.Place else a
 if 0≤e'.Title.Place∧e'.gone=0 then mputG a1 e'.Title.Place s else a1
theorem change_at {sh pl:Int}{l:List Entry}{a:List (Int×Int)}(h:InvL sh pl l)(ha:InvA (baseS sh) l a){i:Nat}{e e':Entry}(hi:l[i]?=some e)(hg:e.gone=0)
  (hok:0≤e'.Title.Place→e'.gone=0→atS (baseS sh) l e'.Title.Place=0∨atS (baseS sh) l e'.Title.Place=baseS sh+i) :
  UniqS (l.set i e')∧InvA (baseS sh) (l.set i e') (chA a (baseS sh+i) e e'):=by
 have hb:=h.b0
 have hil:=(List.getElem?_eq_some_iff.1 hi).1
 have hget:∀ (j:Nat)(f:Entry),(l.set i e')[j]?=some f→(j=i∧f=e')∨(j≠i∧l[j]?=some f):=fun j f hf=>by
  by_cases hj:j=i
  ·subst hj
   rw[List.getElem?_set_self hil] at hf
   exact .inl ⟨rfl,by simpa using hf.symm⟩
  ·rw[List.getElem?_set_ne (fun h=>hj h.symm)] at hf
   exact .inr ⟨hj,hf⟩
 have hput:(l.set i e')[i]?=some e':=List.getElem?_set_self hil
 have hkeep:∀ (j:Nat)(f:Entry),j≠i→l[j]?=some f→(l.set i e')[j]?=some f:=fun j f hj hf=>by
  rw[List.getElem?_set_ne (fun h=>hj h.symm)];exact hf
 have hoth:∀ (j:Nat)(f:Entry)(p:Int),j≠i→l[j]?=some f→0≤p→onP p e'=true→onP p f=false:=fun j f p hj hf hp hep=>by
  obtain⟨h1,rfl⟩:=onP_iff.1 hep
  cases hfp:onP e'.Title.Place f with
  | false=>rfl
  | true =>
   have hv:baseS sh+(j:Int)=atS (baseS sh) l e'.Title.Place:=atS_of h.uniq hb hp (.inl ⟨j,f,hf,hfp,rfl⟩)
   rcases hok hp h1 with h2 | h2<;>omega
 have hu:UniqS (l.set i e'):=by
  intro j k f g q hf hg' hq hfq hgq
  rcases hget j f hf with ⟨hj,hfe⟩ | ⟨hj,hf1⟩
  ·rcases hget k g hg' with ⟨hk,hge⟩ | ⟨hk,hg1⟩
   ·omega
   ·rw[hoth k g q hk hg1 hq (by rw[← hfe];exact hfq)] at hgq;cases hgq
  ·rcases hget k g hg' with ⟨hk,hge⟩ | ⟨hk,hg1⟩
   ·rw[hoth j f q hj hf1 hq (by rw[← hge];exact hgq)] at hfq;cases hfq
   ·exact h.uniq j k f g q hf1 hg1 hq hfq hgq
 have nd1:((if 0≤e.Title.Place then mdelG a e.Title.Place else a).map (·.1)).Nodup:=by
  split
  ·exact mdel_nd _ _ ha.nd
  ·exact ha.nd
 have eq1:∀ q,0≤q→mlookD (if 0≤e.Title.Place then mdelG a e.Title.Place else a) q 0=if q=e.Title.Place then 0 else atS (baseS sh) l q:=fun q hq=>by
  split
  ·rw[lookD_del _ _ _ ha.nd,ha.eq]
  ·rw[if_neg (by omega),ha.eq]
 have eqn:∀ q,q<0→mlookD (if 0≤e.Title.Place then mdelG a e.Title.Place else a) q 0=0:=fun q hq=>by
  split
  ·rw[lookD_del _ _ _ ha.nd,if_neg (by omega),ha.eq,atS_neg _ _ hq]
  ·rw[ha.eq,atS_neg _ _ hq]
 have key:∀ q,0≤q→onP q e'=false→AtIs (baseS sh) (l.set i e') q (if q=e.Title.Place then 0 else atS (baseS sh) l q):=fun q hq hne=>by
  by_cases hqe:q=e.Title.Place
  ·rw[if_pos hqe]
   refine .inr ⟨rfl,fun j f hf=>?_⟩
   rcases hget j f hf with ⟨_,rfl⟩ | ⟨hj,hf⟩
   ·exact hne
   ·cases hfq:onP q f with
    | false=>rfl
    | true=>exact absurd (h.uniq j i f e q hf hi hq hfq (onP_iff.2 ⟨hg,hqe.symm⟩)) hj
  ·rw[if_neg hqe]
   rcases at_is (baseS sh) l hq with ⟨j,f,h1,h2,h3⟩ | ⟨h1,h2⟩
   ·refine .inl ⟨j,f,hkeep j f (fun hj=>?_) h1,h2,h3⟩
    subst hj
    rw[hi] at h1;cases h1
    exact hqe ((onP_iff.1 h2).2).symm
   ·refine .inr ⟨h1,fun j f hf=>?_⟩
    rcases hget j f hf with ⟨_,rfl⟩ | ⟨_,hf⟩
    ·exact hne
    ·exact h2 j f hf
 refine⟨hu,?_⟩
 unfold chA
 dsimp only
 by_cases hc:0≤e'.Title.Place∧e'.gone=0
 ·rw[if_pos hc]
  refine⟨mput_nd _ _ _ nd1,fun q=>?_⟩
  rw[lookD_put]
  by_cases hqp:q=e'.Title.Place
  ·rw[if_pos hqp,hqp]
   exact atS_of hu hb hc.1 (.inl ⟨i,e',hput,onP_iff.2 ⟨hc.2,rfl⟩,rfl⟩)
  ·rw[if_neg hqp]
   by_cases hq:q<0
   ·rw[eqn q hq,atS_neg _ _ hq]
   ·rw[eq1 q (by omega)]
    refine atS_of hu hb (by omega) (key q (by omega) ?_)
    unfold onP
    rw[decide_eq_false (show ¬ e'.Title.Place=q from fun h=>hqp h.symm),Bool.and_false]
 ·rw[if_neg hc]
  refine⟨nd1,fun q=>?_⟩
  by_cases hq:q<0
  ·rw[eqn q hq,atS_neg _ _ hq]
  ·rw[eq1 q (by omega)]
   refine atS_of hu hb (by omega) (key q (by omega) ?_)
   cases hfq:onP q e' with
   | false=>rfl
   | true =>
    obtain⟨h1,h2⟩:=onP_iff.1 hfq
    exact absurd ⟨by omega,h1⟩ hc
end Go.SX.Rg
