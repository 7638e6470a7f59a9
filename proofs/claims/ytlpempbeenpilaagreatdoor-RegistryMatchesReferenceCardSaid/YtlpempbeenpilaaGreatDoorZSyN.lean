/- Parts of the proof. -/
import Derived.Test.YtlpempbeenpilaaGreatDoorZSxMh
set_option linter.unusedSimpArgs false
set_option linter.unusedVariables false
set_option linter.unusedSectionVars false
namespace Go.SX
open Go
variable [Tabs]
inductive DE where
 | skip
 | reg (gs:List GOp)
 | par (hy hl hs hx:Bool) (tl:Nat) (gs:List GOp)
 | hys (hy hl hx:Bool) (tl:Nat) (gs:List GOp)
 | hyb (hl hs hx:Bool) (tl:Nat) (gs:List GOp)
 | hyl (hy hs hx:Bool) (tl:Nat) (gs:List GOp) (gl:GOp)
 | sfx (hy hl hs hx:Bool) (gs gl:List GOp)
 | sfm (hy hl hs hx:Bool) (m:Nat) (gs gl:List GOp)
 | eff (hy hl hs:Bool) (E:List Nat) (gs gl:List GOp)
 | seq (a b:DE)
 | cond (c:Operand) (x y:DE)
 | block (id:Nat) (c:DE)
 | loop (c:DE)
 | exit (id:Nat)
 | ret
 | join (a b:DE)
deriving Inhabited
def DE.er : DE→DC
 | .skip=>.skip
 | .reg gs=>.reg gs
 | .par hy hl hs hx tl gs=>.par hy hl hs hx tl gs
 | .hys hy hl hx tl gs=>.par hy hl true hx tl gs
 | .hyb hl hs hx tl gs=>.par true hl hs hx tl gs
 | .hyl hy hs hx tl gs gl=>.par hy true hs hx tl (gs++[gl])
 | .sfx hy hl hs hx gs gl=>.par hy hl hs hx gs.length (gs++gl)
 | .sfm hy hl hs hx _ gs gl=>.par hy hl hs hx gs.length (gs++gl)
 | .eff hy hl hs _ gs gl=>.par hy hl hs true gs.length (gs++gl)
 | .seq a b=>.seq a.er b.er
 | .cond c x y=>.cond c x.er y.er
 | .block id c=>.block id c.er
 | .loop c=>.loop c.er
 | .exit id=>.exit id
 | .ret=>.ret
 | .join a b=>.seq a.er b.er
def JoinN (n0:Nat)(A B:List SV→List Res→(DX→List SV→List Res→Prop)→Prop)(env:List SV)(own:List Res)(K:DX→List SV→List Res→Prop):Prop :=
 ∃ (ι:Type)(S:ι→List SV)(O:ι→List Res)(φ:ι→Prop),
  A env own (fun e env' own'=>match e with
   | .normal=>∃ i,φ i∧StLe n0 env' own' (S i) (O i)
   | e=>K e env' own')∧∀ i,φ i→B (S i) (O i) K
def wpE (P:Program)(n0:Nat):DE→List SV→List Res→(DX→List SV→List Res→Prop)→Prop
 | .skip,env,own,K=>K .normal env own
 | .reg gs,env,own,K=>run P gs env own (fun env own=>K .normal env own)
 | .par _ _ _ _ _ gs,env,own,K=>(match gs.any GOp.isBox with
  | true=>(match boxChk env.length gs with
   | true=>runF P (gs.map GOp.blank) env own (fun env'=>boxN gs env' own gs env' own (fun env own=>K .normal env own))
   | false=>False)
  | false=>runF P gs env own (fun env=>K .normal env own))
 | .hys _ _ _ _ gs,env,own,K=>∃ M,runS P M gs env own (fun env own=>K .normal env own)
 | .hyb _ _ _ _ gs,env,own,K=>(match boxChk env.length gs with
  | true=>runH P (gs.map GOp.blank) env own (fun env' own'=>boxN gs env' own' gs env' own' (fun env own=>K .normal env own))
  | false=>False)
 | .hyl _ _ _ _ gs gl,env,own,K=>(match boxChk env.length gs with
  | true=>runH P (gs.map GOp.blank) env own (fun env' own'=>boxN gs env' own' gs env' own' (fun env own=>opN P gl.op env own (fun sv own=>K .normal (putE env gl.dst sv) own)))
  | false=>False)
 | .sfx _ _ _ _ gs gl,env,own,K=>runF P gs env own (fun env'=>run P gl env' own (fun env own=>K .normal env own))
 | .sfm _ _ _ _ m gs gl,env,own,K=>(match mkOk gs m with
  | true=>runF P (blankAt gs m) env own (fun env'=>runM P gl env' own (fun env own=>K .normal env own) (mkAt gs m))
  | false=>False)
 | .eff _ _ _ E gs gl,env,own,K=>∃ M,runX P (fun k=>E.any (Nat.beq k)) M 0 gs env own (fun env own=>run P gl env own (fun env own=>K .normal env own))
 | .seq a b,env,own,K=>wpE P n0 a env own (fun e env' own'=>match e with | .normal=>wpE P n0 b env' own' K | e=>K e env' own')
 | .cond c x y,env,own,K=>CondN (evn own env c) (wpE P n0 x env own K) (wpE P n0 y env own K)
 | .block id c,env,own,K=>wpE P n0 c env own (fun e env' own'=>match e with | .exit id'=>if id'=id then K .normal env' own' else K (.exit id') env' own' | e=>K e env' own')
 | .loop c,env,own,K=>LoopN n0 (wpE P n0 c) env own K
 | .exit id,env,own,K=>K (.exit id) env own
 | .ret,env,own,K=>K .ret env own
 | .join a b,env,own,K=>JoinN n0 (wpE P n0 a) (wpE P n0 b) env own K
section
variable {P:Program}{n0:Nat}
theorem wpE_sound (code:Code):∀ (de:DE){c:Cx}{env:List SV}{own:List Res}{a:Act}{w:World}{K:DX→List SV→List Res→Prop}{Q:Exit→Act→World→Prop},compC P code=some de.er→EnvOk c env a→Sat c own w→n0≤c.N→a.defers=[] →
  wpE P n0 de env own K→(∀ e a' w',Nx n0 c own w (K e) a' w'→Q (toX e) a' w')→code.wp P Q a w:=by
 induction code with
 | skip =>
  intro dc c env own a w K Q hc hE hS hn hd h hQ;cases dc<;>simp[compC,DE.er] at hc;exact wp_skip (hQ .normal a w ⟨hd,c,env,own,hE,hS,fun _ _=>rfl,hn,.refl c own w,h⟩)
 | region id ops draw =>
  intro dc c env own a w K Q hc hE hS hn hd h hQ;unfold compC at hc;split at hc
  ·rename_i gs hgs;split at hc
   ·rename_i hdr;split at hc
    ·rename_i hcond;simp only[qJ] at hcond;subst hdr;cases dc<;>simp[DE.er] at hc
     ·obtain⟨_,_,_,_,_,hc⟩:=hc;subst hc;simp only[wpE] at h;split at h
      ·split at h
       ·rename_i hbc;exact region_box hcond.1 hgs hcond.2 hbc hE hS hn hd h fun a' w' hnx=>hQ .normal a' w' hnx
       ·exact h.elim
      ·exact region_any hcond.1 hgs hcond.2 hE hS hn hd h fun a' w' hnx=>hQ .normal a' w' (hnx.mono fun env' own' ⟨h1,h2⟩=>h1▸h2)
     ·obtain⟨_,_,hhs,_,_,hc⟩:=hc;subst hc;obtain⟨M,h⟩:=h;exact region_hys hcond.1 hgs hcond.2 hhs hE hS hn hd h fun a' w' hnx=>hQ .normal a' w' hnx
     ·obtain⟨hhy,_,_,_,_,hc⟩:=hc;subst hc;simp only[wpE] at h;split at h
      ·rename_i hbc;exact region_hyb hcond.1 hgs hcond.2 hbc hhy hE hS hn hd h fun a' w' hnx=>hQ .normal a' w' hnx
      ·exact h.elim
     ·obtain⟨_,hhl,_,_,_,hc⟩:=hc;subst hc;simp only[wpE] at h;split at h
      ·rename_i hbc;obtain⟨hhy,hlst⟩:=lastChk2_snoc hhl;exact region_hyl hcond.1 hgs hcond.2 hbc hhy hlst hE hS hn hd h fun a' w' hnx=>hQ .normal a' w' hnx
      ·exact h.elim
     ·obtain⟨_,_,_,_,hsf,hc⟩:=hc;subst hc;exact region_sfx hcond.1 hgs hcond.2 hsf hE hS hn hd h fun a' w' hnx=>hQ .normal a' w' hnx
     ·obtain⟨_,_,_,_,hsf,hc⟩:=hc;subst hc;simp only[wpE] at h;split at h
      ·rename_i hmk;exact region_sfm _ hcond.1 hgs hcond.2 hsf hmk hE hS hn hd h fun a' w' hnx=>hQ .normal a' w' hnx
      ·exact h.elim
     ·obtain⟨_,_,_,hch,hsf,hc⟩:=hc;subst hc;obtain⟨M,h⟩:=h;exact region_eff hcond.1 hgs hcond.2 hsf hch hE hS hn hd h fun a' w' hnx=>hQ .normal a' w' hnx
    ·cases hc
   ·rename_i hdr;cases dc<;>simp[DE.er] at hc;subst hc;have hdr:draw=false:=by simpa using hdr
    subst hdr;refine wp_region_list (run_sound ops ops.toList gs hgs hE hS hn hd h fun a' w' hnx=>hQ .normal a' w' hnx)
  ·cases hc
 | seq x y ihx ihy =>
  intro dc c env own a w K Q hc hE hS hn hd h hQ;unfold compC at hc;split at hc
  ·rename_i dx dy hx hy;cases dc<;>simp[DE.er] at hc
   ·rename_i da db;obtain⟨rfl,rfl⟩:=hc;refine wp_seq (ihx da hx hE hS hn hd h fun e a' w' hnx=>?_)
    cases e with
    | normal =>
     obtain⟨h1,c',env',own',h2,h3,h4,h5,h6,h7⟩:=hnx;exact ihy db hy h2 h3 h5 h1 h7 fun e a'' w'' hnx'=>hQ e a'' w'' (hnx'.back h4 h6)
    | exit id=>exact hQ (.exit id) a' w' hnx
    | ret=>exact hQ .ret a' w' hnx
   ·rename_i da db;obtain⟨rfl,rfl⟩:=hc;obtain⟨ι,S,O,φ,hA,hB⟩:=h;refine wp_seq (ihx da hx hE hS hn hd hA fun e a' w' hnx=>?_)
    cases e with
    | normal =>
     obtain⟨h1,c',env',own',h2,h3,h4,h5,h6,i,hi,hle⟩:=hnx;obtain⟨c3,m1,m2,m3,m4,m5⟩:=hle c' a' w' h5 h2 h3;exact ihy db hy m1 m2 m4 h1 (hB i hi) fun e a'' w'' hnx'=>hQ e a'' w'' ((hnx'.back m3 m5).back h4 h6)
    | exit id=>exact hQ (.exit id) a' w' hnx
    | ret=>exact hQ .ret a' w' hnx
  ·cases hc
 | cond k x y ihx ihy =>
  intro dc c env own a w K Q hc hE hS hn hd h hQ;unfold compC at hc;split at hc
  ·rename_i dx dy hx hy;cases dc<;>simp[DE.er] at hc;obtain⟨rfl,rfl,rfl⟩:=hc;simp only[wpE,CondN] at h;have hr:=nrm_rel hS (ev_rel hE k);split at h
   ·rename_i b hb;unfold evn at hb;rw[hb] at hr;exact wp_cond_split hr.of_val (fun hb=>ihx _ hx hE hS hn hd (h.1 hb) hQ) (fun hb=>ihy _ hy hE hS hn hd (h.2 hb) hQ)
   ·exact h.elim
  ·cases hc
 | block id x ihx =>
  intro dc c env own a w K Q hc hE hS hn hd h hQ;unfold compC at hc;split at hc
  ·rename_i dx hx;cases dc<;>simp[DE.er] at hc;obtain⟨rfl,rfl⟩:=hc;refine wp_block (ihx _ hx hE hS hn hd h fun e a' w' hnx=>?_)
   cases e with
   | normal=>exact hQ .normal a' w' hnx
   | exit id' =>
    show if id'=id then Q .normal a' w' else Q (.exit id') a' w'
    split
    ·rename_i e;exact hQ .normal a' w' (hnx.mono fun env own h=>by simpa [e] using h)
    ·rename_i e;exact hQ (.exit id') a' w' (hnx.mono fun env own h=>by simpa [e] using h)
   | ret=>exact hQ .ret a' w' hnx
  ·cases hc
 | loop x ihx =>
  intro dc c env own a w K Q hc hE hS hn hd h hQ;unfold compC at hc;split at hc
  ·rename_i dx hx;cases dc<;>simp[DE.er] at hc;subst hc;obtain⟨ι,S,O,φ,μ,⟨i0,hφ0,hle0⟩,hbody⟩:=h
   let I:Nat→Act→World→Prop:=fun m a' w'=>a'.defers=[]∧∃ i c',φ i∧μ i=m∧EnvOk c' (S i) a'∧Sat c' (O i) w'∧(∀ r,r<n0→c'.θ r=c.θ r)∧n0≤c'.N∧Goes c own w c' (O i) w'
   obtain⟨c1,k1,k2,k3,k4,k5⟩:=hle0 c a w hn hE hS;have h0:∃ m,I m a w:=⟨μ i0,hd,i0,c1,hφ0,rfl,k1,k2,k3,k4,k5⟩
   classical
   refine wp_loop (fun a' w'=>∃ m,I m a' w') (fun a' w'=>if h:∃ m,I m a' w' then Classical.choose (exists_least _ h) else 0) h0 fun a' w' hI=>?_
   have hspec:=(Classical.choose_spec (exists_least _ hI)).1;obtain⟨hd',i,c',hφ,hμ,hE',hS',ht',hn',hg'⟩:=hspec;refine ihx _ hx hE' hS' hn' hd' (hbody i hφ) fun e a'' w'' hnx=>?_
   cases e with
   | normal =>
    obtain⟨h1,c2,env2,own2,h2,h3,h4,h5,h6,j,hφj,hlt,hle⟩:=hnx;obtain⟨c3,m1,m2,m3,m4,m5⟩:=hle c2 a'' w'' h5 h2 h3;have hj:I (μ j) a'' w'':=⟨h1,j,c3,hφj,rfl,m1,m2,fun r hr=>(m3 r hr).trans ((h4 r hr).trans (ht' r hr)),m4,(hg'.trans h6).trans m5⟩;show (∃ m,I m a'' w'')∧_;refine⟨⟨_,hj⟩,?_⟩;rw[dif_pos ⟨_,hj⟩,dif_pos hI];have:=(Classical.choose_spec (exists_least (fun m=>I m a'' w'') ⟨_,hj⟩)).2 _ hj;omega
   | exit id=>exact hQ (.exit id) a'' w'' (hnx.back ht' hg')
   | ret=>exact hQ .ret a'' w'' (hnx.back ht' hg')
  ·cases hc
 | exit id =>
  intro dc c env own a w K Q hc hE hS hn hd h hQ;cases dc<;>simp[compC,DE.er] at hc;subst hc;exact wp_exit (hQ (.exit _) a w ⟨hd,c,env,own,hE,hS,fun _ _=>rfl,hn,.refl c own w,h⟩)
 | ret =>
  intro dc c env own a w K Q hc hE hS hn hd h hQ;cases dc<;>simp[compC,DE.er] at hc;exact wp_ret (hQ .ret a w ⟨hd,c,env,own,hE,hS,fun _ _=>rfl,hn,.refl c own w,h⟩)
 | rangeFunc f ps x y _ _=>intro dc c env own a w K Q hc;cases hc
 | scope x _=>intro dc c env own a w K Q hc;cases hc
 | label l=>intro dc c env own a w K Q hc;cases hc
 | goto l=>intro dc c env own a w K Q hc;cases hc
 | refuse s=>intro dc c env own a w K Q hc;cases hc
structure EFn where
 ntmps:Nat
 code:DE
 res:List DRes
def EFn.er (e:EFn):DFn:=⟨e.ntmps,e.code.er,e.res⟩
theorem scall_bodyE {f:FuncId}{df:EFn}{own:List Res}{args:List SV}{K:SV→List Res→Prop}(hf:compF P f=some df.er)
  (h:wpE P own.length df.code (pad df.ntmps args) own (EndN df.res K)):SCall P f own args K:=by
 unfold compF at hf;split at hf
 ·rename_i fn hfn;split at hf
  ·rename_i hname;split at hf
   ·rename_i code hb;split at hf
    ·rename_i dc rs hdc hrs;obtain⟨nt,de,rr⟩:=df;simp only[EFn.er,qZ,DFn.mk.injEq] at hf;obtain⟨rfl,rfl,rfl⟩:=hf;refine⟨by simpa [okFn,hfn,hb] using hname,fun c w us hS hr=>?_⟩;refine calls_of_wp hfn hb ?_;have hE:EnvOk c (pad fn.ntmps args) { tmps:=us.toArray++Array.replicate (fn.ntmps - us.toArray.size) undef,defers:=[] }:=by
      have hpad:RelL c (pad fn.ntmps args) (us++List.replicate (fn.ntmps - us.length) undef):=by
       unfold pad;rw[← hr.1];refine hr.append ⟨by simp,fun i s u h1 h2=>?_⟩;rw[List.getElem?_replicate] at h1 h2;split at h1
       ·rw[if_pos (by assumption)] at h2;cases h1;cases h2;exact .tup rfl (fun i s u hs=>by simp at hs)
       ·cases h1
      refine⟨?_,fun i s u h1 h2=>hpad.2 i s u h1 ?_⟩
      ·have:=hpad.1;simp at this ⊢;exact this
      ·rw[← h2,← Array.getElem?_toList];simp
     refine wpE_sound (P:=P) (n0:=own.length) code de hdc hE hS (by rw[hS.n];exact qQ _) rfl h fun e a' w' hnx=>?_
     obtain⟨h1,c',env',own',h2,h3,h4,h5,h6,h7⟩:=hnx;have hle:c.le c':=⟨by rw[← hS.n];exact h5,fun r hr=>h4 r (by rw[hS.n];exact hr),h6.f⟩;have fin:ResN own' env' rs (fun s=>K s own')→a'.defers=[]∧∃ v,(results fn a'.tmps).run P w'=.ok v w'∧∃ c' own' sv u,Ending.returned v=.returned u∧Rel c' sv u∧Sat c' own' w'∧c.le c'∧Goes c own w c' own' w'∧K sv own':=fun hres=>by
      obtain⟨v,s,k1,k2,k3⟩:=resN_sound h2 h3 hrs hres;exact⟨h1,v,k1,c',own',s,v,rfl,k2,h3,hle,h6,k3⟩
     cases e with
     | normal=>exact fin h7
     | ret=>exact fin h7
     | exit id=>exact h7.elim
    ·cases hf
   ·cases hf
  ·cases hf
 ·cases hf
end
end Go.SX
