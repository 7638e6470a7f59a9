/- Parts of the proof. -/
import Derived.Test.YtlpempbeenpilaaGreatDoorZSyS
set_option linter.unusedSimpArgs false
set_option linter.unusedVariables false
set_option linter.unusedSectionVars false
namespace Go.SX
open Go
variable [Tabs]
section plain
theorem io_lt (a b:Int):io.lt a b=decide (a<b):=by rw[io_eq];rfl
theorem io_le (a b:Int):io.le a b=decide (a≤b):=by rw[io_eq];rfl
theorem io_eqi (a b:Int):io.eq a b=decide (a=b):=by rw[io_eq];rfl
theorem io_add (k:IntKind)(a b:Int):io.ar .add k a b=k.wrap (a+b):=by rw[io_eq];rfl
theorem io_subi (k:IntKind)(a b:Int):io.ar .sub k a b=k.wrap (a - b):=by rw[io_eq];rfl
theorem io_mul (k:IntKind)(a b:Int):io.ar .mul k a b=k.wrap (a * b):=by rw[io_eq];rfl
theorem io_neg (k:IntKind)(a:Int):io.neg k a=k.wrap (0 - a):=by rw[io_eq];rfl
theorem io_wrap (k:IntKind)(a:Int):io.wrap k a=k.wrap a:=by rw[io_eq];rfl
theorem io_max (a b:Int):io.mm true a b=max a b:=by rw[io_eq];rfl
theorem io_min (a b:Int):io.mm false a b=min a b:=by rw[io_eq];rfl
theorem io_quo (k:IntKind)(a b:Int):io.quo k a b=k.wrap (a.tdiv b):=by rw[io_eq];rfl
theorem io_rem (a b:Int):io.rem a b=a.tmod b:=by rw[io_eq];rfl
theorem io_beq (a b:Bool):io.beq false a b=(a == b):=by rw[io_eq];simp[ioStd]
theorem io_bne (a b:Bool):io.beq true a b=!(a == b):=by rw[io_eq];simp[ioStd]
theorem io_not (b:Bool):io.not b=!b:=by rw[io_eq];rfl
theorem io_seq (a b:ByteArray):io.seq a b=(a.toList == b.toList):=by rw[io_eq];rfl
theorem io_ssz (a:ByteArray):io.ssz a=a.size:=by rw[io_eq];rfl
theorem io_len {α:Type}(e:α→List D)(l:List α):io.len (W e l)=l.length:=by
 rw[io_eq];show ((W e l).length:Int)=_;rw[W_len]
theorem wr_up {k:Nat}(h:k<9223372036854775807):IntKind.i64.wrap ((k:Int)+1)=((k+1:Nat):Int):=by rw[wr64 (by omega) (by omega)];rfl
variable {α β σ τ ρ St:Type}
theorem idxG_some {xs:List α}{k:Nat}{x:α}(h:xs[k]?=some x):idxG xs (k:Int)=some x:=by
 unfold idxG;rw[if_pos (by omega)];simpa using h
theorem pixG_some {n k:Nat}(h:k<n):pixG n (k:Int)=some k:=by
 unfold pixG;rw[if_pos (by omega)];simp
theorem appG_some {xs ys:List α}(h:xs.length+ys.length≤1000000000):appG xs ys=some (xs++ys):=by
 unfold appG;rw[if_pos h]
theorem loop_up {step:St→Option (St ⊕ τ)}(mk:σ→Int→St)(n:Nat)(I:Nat→σ→Prop)(Q:τ→Prop)
  (hs:∀ (k:Nat) s,k<n→I k s→(∃ s',step (mk s k)=some (.inl (mk s' ((k+1:Nat):Int)))∧I (k+1) s')∨∃ t,step (mk s k)=some (.inr t)∧Q t)
  (he:∀ s,I n s→∃ t,step (mk s n)=some (.inr t)∧Q t) (s0:σ) (h0:I 0 s0):∃ t,whileG step (mk s0 0)=some t∧Q t:=by
 have key:∀ (d k:Nat) s,n - k=d→k≤n→I k s→∃ t,whileG step (mk s k)=some t∧Q t:=by
  intro d
  induction d with
  | zero =>
   intro k s hd hk hI;obtain rfl:k=n:=by omega
   obtain⟨t,h1,h2⟩:=he s hI;exact⟨t,by rw[whileG_eq,h1],h2⟩
  | succ d ih =>
   intro k s hd hk hI;rcases hs k s (by omega) hI with ⟨s',h1,h2⟩ | ⟨t,h1,h2⟩
   ·obtain⟨t,k1,k2⟩:=ih (k+1) s' (by omega) (by omega) h2;exact⟨t,by rw[whileG_eq,h1];exact k1,k2⟩
   ·exact⟨t,by rw[whileG_eq,h1],h2⟩
 exact key n 0 s0 (by omega) (Nat.zero_le _) h0
theorem loop_fold {step:St→Option (St ⊕ τ)}(mk:σ→Int→St)(l:List α)(f:σ→α→σ)(s0:σ)(t:τ)
  (hs:∀ (k:Nat) x,l[k]?=some x→step (mk ((l.take k).foldl f s0) k)=some (.inl (mk (f ((l.take k).foldl f s0) x) ((k+1:Nat):Int))))
  (he:step (mk (l.foldl f s0) l.length)=some (.inr t)):whileG step (mk s0 0)=some t:=by
 obtain⟨t',h1,rfl⟩:=loop_up (step:=step) mk l.length (fun k s=>s=(l.take k).foldl f s0) (fun t'=>t'=t) (fun k s hk hI=>by
  subst hI;refine .inl ⟨_,hs k l[k] (by simp[hk]),?_⟩;rw[List.take_add_one,List.foldl_append];simp[hk]) (fun s hI=>by
  rw[List.take_length] at hI;subst hI;exact⟨t,he,rfl⟩) s0 (by simp)
 exact h1
theorem loop_find {step:Int→Option (Int ⊕ τ)}(l:List α)(p:α→Bool)(yes:Nat→α→τ)(no:τ)
  (hs:∀ (k:Nat) x,l[k]?=some x→step k=some (if p x then .inr (yes k x) else .inl ((k+1:Nat):Int)))
  (he:step l.length=some (.inr no)) :
  (∃ k x,l[k]?=some x∧p x=true∧(∀ (j:Nat) y,j<k→l[j]?=some y→p y=false)∧whileG step 0=some (yes k x))∨((∀ x∈l,p x=false)∧whileG step 0=some no):=by
 obtain⟨t,h1,h2⟩:=loop_up (step:=step) (fun (_:Unit) i=>i) l.length (fun k _=>∀ (j:Nat) y,j<k→l[j]?=some y→p y=false)
  (fun t=>(∃ k x,l[k]?=some x∧p x=true∧(∀ (j:Nat) y,j<k→l[j]?=some y→p y=false)∧t=yes k x)∨((∀ x∈l,p x=false)∧t=no))
  (fun k _ hk hI=>by
   have hx:l[k]?=some l[k]:=by simp[hk]
   have h:=hs k _ hx;by_cases hp:p l[k]=true
   ·rw[if_pos hp] at h;exact .inr ⟨_,h,.inl ⟨k,_,hx,hp,hI,rfl⟩⟩
   ·rw[if_neg hp] at h;refine .inl ⟨(),h,fun j y hj hy=>?_⟩;by_cases hjk:j=k
    ·subst hjk;rw[hx] at hy;cases hy;simpa using hp
    ·exact hI j y (by omega) hy)
  (fun _ hI=>⟨_,he,.inr ⟨fun x hx=>by
   obtain⟨k,hk⟩:=List.getElem?_of_mem hx;exact hI k x (qC.1 hk).1 hk,rfl⟩⟩) () (fun j y hj=>by omega)
 rcases h2 with ⟨k,x,h3,h4,h5,rfl⟩ | ⟨h3,rfl⟩
 ·exact .inl ⟨k,x,h3,h4,h5,h1⟩
 ·exact .inr ⟨h3,h1⟩
theorem loop_any {step:Int→Option (Int ⊕ τ)}(l:List α)(p:α→Bool)(yes no:τ)
  (hs:∀ (k:Nat) x,l[k]?=some x→step k=some (if p x then .inr yes else .inl ((k+1:Nat):Int)))
  (he:step l.length=some (.inr no)):whileG step 0=some (if l.any p then yes else no):=by
 rcases loop_find l p (fun _ _=>yes) no hs he with ⟨k,x,h1,h2,_,h4⟩ | ⟨h1,h2⟩
 ·rw[h4,if_pos (List.any_eq_true.2 ⟨x,qU h1,h2⟩)]
 ·rw[h2,if_neg];intro h;obtain⟨x,hx,hp⟩:=List.any_eq_true.1 h;rw[h1 x hx] at hp;cases hp
theorem loop_all {step:Int→Option (Int ⊕ τ)}(n:Nat)(p:Nat→Bool)(yes no:τ)
  (hs:∀ k:Nat,k<n→step k=some (if p k then .inr yes else .inl ((k+1:Nat):Int)))
  (he:step n=some (.inr no)):whileG step 0=some (if (List.range n).any p then yes else no) :=
 loop_any (List.range n) p yes no (fun k x hx=>by
  have hk:k<n:=by simpa using (qC.1 hx).1
  rw[List.getElem?_range hk] at hx;cases hx;exact hs k hk) (by simpa using he)
end plain
end Go.SX
