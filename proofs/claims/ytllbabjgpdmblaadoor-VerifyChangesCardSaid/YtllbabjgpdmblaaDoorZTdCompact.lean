/- Parts of the proof. -/
import Derived.Test.YtllbabjgpdmblaaDoorZTdKey
import Derived.Test.YtllbabjgpdmblaaDoorZTdT
import Derived.Test.YtllbabjgpdmblaaDoorZTdBuilder
import Derived.Test.YtllbabjgpdmblaaDoorZTd32d
set_option linter.unusedSimpArgs false
set_option linter.unusedVariables false
set_option linter.unusedSectionVars false
namespace Go.SX.Td
open Go Go.SX Go.Proofs
set_option maxRecDepth 100000
def d58r0 : List GOp:=[
 ⟨(some 2),.mv (.const (.slice none 0 0)),none⟩]
def d58r1 : List GOp:=[
 ⟨(some 6),.mv (.tmp 0),none⟩,
 ⟨(some 7),.len false (.tmp 6),none⟩,
 ⟨(some 8),.bin .lss (.tmp 7) (.const (.int .i64 2)),none⟩]
def d58r2 : List GOp:=[
 ⟨(some 9),.mv (.tmp 0),none⟩,
 ⟨(some 2),.mv (.tmp 9),none⟩]
def d58r3 : List GOp:=[
 ⟨(some 3),.mv (.const (.int .i64 1)),none⟩]
def d58r4 : List GOp:=[
 ⟨(some 10),.mv (.tmp 3),none⟩,
 ⟨(some 11),.mv (.tmp 0),none⟩,
 ⟨(some 12),.len false (.tmp 11),none⟩,
 ⟨(some 13),.bin .lss (.tmp 10) (.tmp 12),none⟩]
def d58r5 : List GOp:=[
 ⟨(some 16),.mv (.tmp 0),none⟩,
 ⟨(some 17),.mv (.tmp 3),none⟩,
 ⟨(some 18),.idxA 1 (.tmp 16) (.tmp 17),none⟩,
 ⟨(some 19),.load 1 false (.tmp 18),none⟩,
 ⟨(some 20),.mv (.tmp 0),none⟩,
 ⟨(some 21),.mv (.tmp 3),none⟩,
 ⟨(some 22),.bin .sub (.tmp 21) (.const (.int .i64 1)),none⟩,
 ⟨(some 23),.idxA 1 (.tmp 20) (.tmp 22),none⟩,
 ⟨(some 24),.load 1 false (.tmp 23),none⟩,
 ⟨(some 25),.bin .eql (.tmp 19) (.tmp 24),none⟩]
def d58r6 : List GOp:=[
 ⟨(some 26),.mv (.tmp 0),none⟩,
 ⟨(some 27),.mv (.tmp 3),none⟩,
 ⟨(some 28),.slc 1 (.tmp 26) (some (.tmp 27)) none,none⟩,
 ⟨(some 4),.mv (.tmp 28),none⟩]
def d58r7 : List GOp:=[
 ⟨(some 5),.mv (.const (.int .i64 1)),none⟩]
def d58r8 : List GOp:=[
 ⟨(some 29),.mv (.tmp 5),none⟩,
 ⟨(some 30),.mv (.tmp 4),none⟩,
 ⟨(some 31),.len false (.tmp 30),none⟩,
 ⟨(some 32),.bin .lss (.tmp 29) (.tmp 31),none⟩]
def d58r9 : List GOp:=[
 ⟨(some 35),.mv (.tmp 4),none⟩,
 ⟨(some 36),.mv (.tmp 5),none⟩,
 ⟨(some 37),.idxA 1 (.tmp 35) (.tmp 36),none⟩,
 ⟨(some 38),.load 1 false (.tmp 37),none⟩,
 ⟨(some 39),.mv (.tmp 4),none⟩,
 ⟨(some 40),.mv (.tmp 5),none⟩,
 ⟨(some 41),.bin .sub (.tmp 40) (.const (.int .i64 1)),none⟩,
 ⟨(some 42),.idxA 1 (.tmp 39) (.tmp 41),none⟩,
 ⟨(some 43),.load 1 false (.tmp 42),none⟩,
 ⟨(some 44),.bin .neq (.tmp 38) (.tmp 43),none⟩]
def d58r10 : List GOp:=[
 ⟨(some 45),.mv (.tmp 0),none⟩,
 ⟨(some 46),.mv (.tmp 3),none⟩,
 ⟨(some 47),.mv (.tmp 4),none⟩,
 ⟨(some 48),.mv (.tmp 5),none⟩,
 ⟨(some 49),.idxA 1 (.tmp 47) (.tmp 48),none⟩,
 ⟨(some 50),.load 1 false (.tmp 49),none⟩,
 ⟨(some 51),.idxA 1 (.tmp 45) (.tmp 46),none⟩,
 ⟨none,.store 1 (.tmp 51) (.tmp 50),none⟩]
def d58r11 : List GOp:=[
 ⟨(some 52),.mv (.tmp 3),none⟩,
 ⟨(some 53),.bin .add (.tmp 52) (.const (.int .i64 1)),none⟩,
 ⟨(some 3),.mv (.tmp 53),none⟩]
def d58r12 : List GOp:=[
 ⟨(some 33),.mv (.tmp 5),none⟩,
 ⟨(some 34),.bin .add (.tmp 33) (.const (.int .i64 1)),none⟩,
 ⟨(some 5),.mv (.tmp 34),none⟩]
def d58l13 : DC:=.seq (.seq (.reg d58r8) (.cond (.tmp 32) (.skip) (.exit 2))) (.seq (.block 3 (.seq (.par true true true 9 d58r9) (.cond (.tmp 44) (.seq (.reg d58r10) (.reg d58r11)) (.skip)))) (.reg d58r12))
def d58r14 : List GOp:=[
 ⟨(some 54),.mv (.tmp 0),none⟩,
 ⟨(some 55),.mv (.tmp 3),none⟩,
 ⟨(some 56),.slc 1 (.tmp 54) (some (.tmp 55)) none,none⟩,
 ⟨none,.clr 1 (.int .i64 0) (.tmp 56),none⟩]
def d58r15 : List GOp:=[
 ⟨(some 57),.mv (.tmp 0),none⟩,
 ⟨(some 58),.mv (.tmp 3),none⟩,
 ⟨(some 59),.slc 1 (.tmp 57) none (some (.tmp 58)),none⟩,
 ⟨(some 2),.mv (.tmp 59),none⟩]
def d58r16 : List GOp:=[
 ⟨(some 14),.mv (.tmp 3),none⟩,
 ⟨(some 15),.bin .add (.tmp 14) (.const (.int .i64 1)),none⟩,
 ⟨(some 3),.mv (.tmp 15),none⟩]
def d58l17 : DC:=.seq (.seq (.reg d58r4) (.cond (.tmp 13) (.skip) (.exit 0))) (.seq (.block 1 (.seq (.par true true true 9 d58r5) (.cond (.tmp 25) (.seq (.reg d58r6) (.seq (.seq (.reg d58r7) (.block 2 (.loop d58l13))) (.seq (.reg d58r14) (.seq (.reg d58r15) (.ret))))) (.skip)))) (.reg d58r16))
def d58r18 : List GOp:=[
 ⟨(some 60),.mv (.tmp 0),none⟩,
 ⟨(some 2),.mv (.tmp 60),none⟩]
def d58c : DC:=.seq (.reg d58r0) (.seq (.seq (.reg d58r1) (.cond (.tmp 8) (.seq (.reg d58r2) (.ret)) (.skip))) (.seq (.seq (.reg d58r3) (.block 0 (.loop d58l17))) (.seq (.reg d58r18) (.ret))))
def d58 : DFn:=⟨61,d58c,[.tmp 2]⟩
theorem d58_ok : compF Tryd.prog 58=some d58:=by kernel_rfl
theorem vg0 {α:Type}{a:List α}{k:Nat}{x:α}(h:a[k]?=some x):a.take (k+1)=a.take k++[x]:=by
 rw[List.take_add_one,h];rfl
theorem toNat_succ {k:Int}(h:0≤k):(k+1).toNat=k.toNat+1:=by omega
def jr0 (l:List Int):Nat→List Int
 | 0=>[]
 | k+1=>match l[k]? with
  | none=>jr0 l k
  | some x=>if k≠0∧l[k - 1]?=some x then jr0 l k else jr0 l k++[x]
def fr0 (l:List Int):List Int:=jr0 l l.length
theorem km0 {l:List Int}{k:Nat}{x:Int}(h:l[k]?=some x):jr0 l (k+1)=if k≠0∧l[k - 1]?=some x then jr0 l k else jr0 l k++[x]:=by
 rw[jr0,h]
theorem cmpTo_le (l:List Int)(k:Nat):(jr0 l k).length≤k:=by
 induction k with
 | zero=>simp[jr0]
 | succ k ih =>
  rw[jr0]
  split
  ·omega
  ·split
   ·omega
   ·simp;omega
theorem mc0 {l:List Int}{k:Nat}{x y:Int}(h0:k≠0)(h:l[k]?=some x)(h':l[k - 1]?=some y)(he:x=y):jr0 l (k+1)=jr0 l k:=by
 rw[km0 h,if_pos ⟨h0,by rw[h',he]⟩]
theorem cmpTo_new {l:List Int}{k:Nat}{x y:Int}(h:l[k]?=some x)(h':l[k - 1]?=some y)(he:x≠y):jr0 l (k+1)=jr0 l k++[x]:=by
 rw[km0 h,if_neg]
 rintro ⟨_,h2⟩
 rw[h'] at h2;cases h2;exact he rfl
variable {P:Program}(hP:P=Tryd.prog)
include hP
theorem compactR0 {l:List Int}{es:List (List D)}(hes:es=l.map dI)(hl:l.length≤1000000000) :
  SCall P 58 [.row 3 1 es] [.hd 0] (fun sv own'=>sv=.d (.sl ((fr0 l).map dI))∧own'=[.gone]):=by
 refine .walkC (hP▸d58_ok) rfl fun K hK=>?_
 have la:es.length=l.length:=by simp[hes]
 cbv
 refine brk (fun h=>?_) (fun h=>?_)
 ·simp only[x_lt,x_len,la,decide_eq_true_eq] at h
  cbv
  refine hK _ _ (slE ?_)
  have:fr0 l=l:=by
   match l,h with
   | [],_=>rfl
   | [x],_=>rfl
   | x::y::r,h=>simp at h;omega
  rw[this,hes]
 simp only[x_lt,x_len,la,decide_eq_false_iff_not] at h
 cbv
 refine .intro (ι:=Int) (fun k=>[.hd 0,.top,.top,.i k]++List.replicate 57 .top) (fun _=>[.row 3 1 es]) (fun env _=>iAt env 3)
  (fun k=>1≤k∧k≤l.length∧jr0 l k.toNat=l.take k.toNat) (fun k=>l.length - k.toNat) 1 ?_ (.mtn [0] ?_) fun k hk Kn hKn=>?_
 ·refine⟨Int.le_refl _,by (first | omega | ((try simp only[nc] at *);(try simp only[Int.ofNat_eq_natCast] at *);omega)),?_⟩
  have hn0:0<l.length:=by (first | omega | ((try simp only[nc] at *);(try simp only[Int.ofNat_eq_natCast] at *);omega))
  have hx:l[0]?=some l[0]:=List.getElem?_eq_getElem hn0
  show jr0 l 1=l.take 1
  rw[km0 hx,if_neg (by simp),vg0 hx];rfl
 ·(cbv;repeat (refine⟨rfl,?_⟩;cbv))
 obtain⟨hk1,hk2,hk3⟩:=hk
 cbv
 refine brk (fun h1=>?_) (fun h1=>?_)
 ·simp only[x_lt,x_len,la,decide_eq_true_eq] at h1
  cbv
  refine⟨by (first | omega | ((try simp only[nc] at *);(try simp only[Int.ofNat_eq_natCast] at *);omega)),by rw[la];exact h1,?_⟩
  cbv
  refine .map hes (by simp only[kw0];(first | omega | ((try simp only[nc] at *);(try simp only[Int.ofNat_eq_natCast] at *);omega))) fun x hx=>?_
  simp only[kw0] at hx
  have ew:IntKind.i64.wrap (k - 1)=k - 1:=sn0 (by (first | omega | ((try simp only[nc] at *);(try simp only[Int.ofNat_eq_natCast] at *);omega))) (by (first | omega | ((try simp only[nc] at *);(try simp only[Int.ofNat_eq_natCast] at *);omega)))
  cbv
  refine⟨by simp only[dx0];rw[ew];(first | omega | ((try simp only[nc] at *);(try simp only[Int.ofNat_eq_natCast] at *);omega)),by simp only[dx0];rw[ew,la];(first | omega | ((try simp only[nc] at *);(try simp only[Int.ofNat_eq_natCast] at *);omega)),?_⟩
  cbv
  refine .map hes (by simp only[kw0,dx0];rw[ew];(first | omega | ((try simp only[nc] at *);(try simp only[Int.ofNat_eq_natCast] at *);omega))) fun y hy=>?_
  simp only[kw0,dx0] at hy
  rw[ew] at hy
  have hy:l[k.toNat - 1]?=some y:=by rw[← hy];congr 1;(first | omega | ((try simp only[nc] at *);(try simp only[Int.ofNat_eq_natCast] at *);omega))
  cbv
  refine brk (fun h2=>?_) (fun h2=>?_)
  ·simp only[x_eq,decide_eq_true_eq] at h2
   cbv
   refine .own ?_
   cbv
   refine⟨by (first | omega | ((try simp only[nc] at *);(try simp only[Int.ofNat_eq_natCast] at *);omega)),by rw[la];(first | omega | ((try simp only[nc] at *);(try simp only[Int.ofNat_eq_natCast] at *);omega)),?_⟩
   cbv
   refine .intro (ι:=Int×Int×List (List D)) (fun q=>[.hd 0,.top,.top,.i q.1,.rs 0 1 ((Classical.choice ioEx).1.nat k),.i q.2.1]++List.replicate 55 .top) (fun q=>[.row 3 1 q.2.2]) (fun env own=>(iAt env 3,iAt env 5,rAt own 0))
    (fun q=>∃ ml:List Int,q.2.2=ml.map dI∧ml.length=l.length∧0≤q.1∧q.1+1≤k+q.2.1∧1≤q.2.1∧k+q.2.1≤l.length∧ml.take q.1.toNat=jr0 l (k+q.2.1).toNat∧ml.drop (k+q.2.1 - 1).toNat=l.drop (k+q.2.1 - 1).toNat)
    (fun q=>l.length - q.2.1.toNat) (k,1,es) ?_ (.mtn [0] ?_) fun q hq Kn2 hKn2=>?_
   ·refine⟨l,hes,rfl,by (first | omega | ((try simp only[nc] at *);(try simp only[Int.ofNat_eq_natCast] at *);omega)),by (first | omega | ((try simp only[nc] at *);(try simp only[Int.ofNat_eq_natCast] at *);omega)),by (first | omega | ((try simp only[nc] at *);(try simp only[Int.ofNat_eq_natCast] at *);omega)),by (first | omega | ((try simp only[nc] at *);(try simp only[Int.ofNat_eq_natCast] at *);omega)),?_,rfl⟩
    have e1:(k+1).toNat=k.toNat+1:=by (first | omega | ((try simp only[nc] at *);(try simp only[Int.ofNat_eq_natCast] at *);omega))
    rw[e1,mc0 (by (first | omega | ((try simp only[nc] at *);(try simp only[Int.ofNat_eq_natCast] at *);omega))) hx hy h2,hk3]
   ·(cbv;repeat (refine⟨rfl,?_⟩;cbv))
   obtain⟨p,q,es'⟩:=q
   obtain⟨ml,hml,hmlen,hp0,hpq,hq1,hql,hmt,hmd⟩:=hq
   dsimp only at hml hp0 hpq hq1 hql hmt hmd
   have la':es'.length=l.length:=by rw[hml,List.length_map,hmlen]
   have hget:∀ j:Nat,k+q - 1≤j→ml[j]?=l[j]?:=fun j hj=>by
    have:(ml.drop (k+q - 1).toNat)[j - (k+q - 1).toNat]?=(l.drop (k+q - 1).toNat)[j - (k+q - 1).toNat]?:=by rw[hmd]
    rw[List.getElem?_drop,List.getElem?_drop] at this
    rw[show (k+q - 1).toNat+(j - (k+q - 1).toNat)=j by omega] at this
    exact this
   cbv
   refine brk (fun h3=>?_) (fun h3=>?_)
   ·simp only[x_lt,x_lenR,kw0,la',decide_eq_true_eq] at h3
    have h4:k+q<l.length:=by (first | omega | ((try simp only[nc] at *);(try simp only[Int.ofNat_eq_natCast] at *);omega))
    cbv
    refine⟨by (first | omega | ((try simp only[nc] at *);(try simp only[Int.ofNat_eq_natCast] at *);omega)),by simp only[la',kw0];(first | omega | ((try simp only[nc] at *);(try simp only[Int.ofNat_eq_natCast] at *);omega)),?_⟩
    cbv
    refine .map hml (by simp only[lc0,kw0];(first | omega | ((try simp only[nc] at *);(try simp only[Int.ofNat_eq_natCast] at *);omega))) fun u hu=>?_
    simp only[lc0,kw0] at hu
    have hu2:l[(k+q).toNat]?=some u:=by rw[← hu,← hget _ (by (first | omega | ((try simp only[nc] at *);(try simp only[Int.ofNat_eq_natCast] at *);omega)))];congr 1;(first | omega | ((try simp only[nc] at *);(try simp only[Int.ofNat_eq_natCast] at *);omega))
    have ew:IntKind.i64.wrap (q - 1)=q - 1:=sn0 (by (first | omega | ((try simp only[nc] at *);(try simp only[Int.ofNat_eq_natCast] at *);omega))) (by (first | omega | ((try simp only[nc] at *);(try simp only[Int.ofNat_eq_natCast] at *);omega)))
    cbv
    refine⟨by simp only[dx0];rw[ew];(first | omega | ((try simp only[nc] at *);(try simp only[Int.ofNat_eq_natCast] at *);omega)),by simp only[dx0];simp only[ew,la',kw0];(first | omega | ((try simp only[nc] at *);(try simp only[Int.ofNat_eq_natCast] at *);omega)),?_⟩
    cbv
    refine .map hml (by simp only[lc0,kw0,dx0];rw[ew];(first | omega | ((try simp only[nc] at *);(try simp only[Int.ofNat_eq_natCast] at *);omega))) fun v hv=>?_
    simp only[lc0,kw0,dx0] at hv
    rw[ew] at hv
    have hv2:l[(k+q).toNat - 1]?=some v:=by rw[← hv,← hget _ (by (first | omega | ((try simp only[nc] at *);(try simp only[Int.ofNat_eq_natCast] at *);omega)))];congr 1;(first | omega | ((try simp only[nc] at *);(try simp only[Int.ofNat_eq_natCast] at *);omega))
    cbv
    refine brk (fun h5=>?_) (fun h5=>?_)
    ·simp only[x_eq,x_not,Bool.not_eq_true',decide_eq_false_iff_not] at h5
     cbv
     refine⟨by (first | omega | ((try simp only[nc] at *);(try simp only[Int.ofNat_eq_natCast] at *);omega)),by simp only[la',kw0];(first | omega | ((try simp only[nc] at *);(try simp only[Int.ofNat_eq_natCast] at *);omega)),?_⟩
     cbv
     refine .map hml (by simp only[lc0,kw0];(first | omega | ((try simp only[nc] at *);(try simp only[Int.ofNat_eq_natCast] at *);omega))) fun u' hu'=>?_
     simp only[lc0,kw0] at hu'
     rw[hu] at hu';cases hu'
     cbv
     refine⟨by (first | omega | ((try simp only[nc] at *);(try simp only[Int.ofNat_eq_natCast] at *);omega)),by rw[la'];(first | omega | ((try simp only[nc] at *);(try simp only[Int.ofNat_eq_natCast] at *);omega)),?_⟩
     cbv
     refine .map hml (by simp only[kw0];(first | omega | ((try simp only[nc] at *);(try simp only[Int.ofNat_eq_natCast] at *);omega))) fun z hz=>?_
     cbv
     refine hKn2 _ _ (.mtn [0] ?_) ?_ ?_
     ·(cbv;repeat (refine⟨rfl,?_⟩;cbv))
     ·simp only[iAt,zo0,rAt,qm0,x_add,x_set,kw0]
      rw[sn0 (by (first | omega | ((try simp only[nc] at *);(try simp only[Int.ofNat_eq_natCast] at *);omega))) (by (first | omega | ((try simp only[nc] at *);(try simp only[Int.ofNat_eq_natCast] at *);omega))),sn0 (by (first | omega | ((try simp only[nc] at *);(try simp only[Int.ofNat_eq_natCast] at *);omega))) (by (first | omega | ((try simp only[nc] at *);(try simp only[Int.ofNat_eq_natCast] at *);omega)))]
      refine⟨ml.set p.toNat u,?_,by rw[List.length_set];exact hmlen,by (first | omega | ((try simp only[nc] at *);(try simp only[Int.ofNat_eq_natCast] at *);omega)),by (first | omega | ((try simp only[nc] at *);(try simp only[Int.ofNat_eq_natCast] at *);omega)),by (first | omega | ((try simp only[nc] at *);(try simp only[Int.ofNat_eq_natCast] at *);omega)),by (first | omega | ((try simp only[nc] at *);(try simp only[Int.ofNat_eq_natCast] at *);omega)),?_,?_⟩
      ·rw[hml,List.map_set];rfl
      ·have hlt:p.toNat<ml.length:=by (first | omega | ((try simp only[nc] at *);(try simp only[Int.ofNat_eq_natCast] at *);omega))
       have hg:(ml.set p.toNat u)[p.toNat]?=some u:=by simp[hlt]
       rw[show (k+(q+1)).toNat=(k+q).toNat+1 by (first | omega | ((try simp only[nc] at *);(try simp only[Int.ofNat_eq_natCast] at *);omega)),show (p+1).toNat=p.toNat+1 by (first | omega | ((try simp only[nc] at *);(try simp only[Int.ofNat_eq_natCast] at *);omega)),cmpTo_new hu2 hv2 h5,vg0 hg,List.take_set_of_le (Nat.le_refl _),hmt]
      ·rw[List.drop_set_of_lt (by (first | omega | ((try simp only[nc] at *);(try simp only[Int.ofNat_eq_natCast] at *);omega))),show (k+(q+1) - 1).toNat=(k+q - 1).toNat+1 by (first | omega | ((try simp only[nc] at *);(try simp only[Int.ofNat_eq_natCast] at *);omega)),← List.drop_drop,hmd,List.drop_drop]
     ·simp only[iAt,zo0,x_add]
      rw[sn0 (by (first | omega | ((try simp only[nc] at *);(try simp only[Int.ofNat_eq_natCast] at *);omega))) (by (first | omega | ((try simp only[nc] at *);(try simp only[Int.ofNat_eq_natCast] at *);omega)))]
      (first | omega | ((try simp only[nc] at *);(try simp only[Int.ofNat_eq_natCast] at *);omega))
    ·simp only[x_eq,x_not,Bool.not_eq_false',decide_eq_true_eq] at h5
     cbv
     refine hKn2 _ _ (.mtn [0] ?_) ?_ ?_
     ·(cbv;repeat (refine⟨rfl,?_⟩;cbv))
     ·simp only[iAt,zo0,rAt,qm0,x_add]
      rw[sn0 (by (first | omega | ((try simp only[nc] at *);(try simp only[Int.ofNat_eq_natCast] at *);omega))) (by (first | omega | ((try simp only[nc] at *);(try simp only[Int.ofNat_eq_natCast] at *);omega)))]
      refine⟨ml,hml,hmlen,by (first | omega | ((try simp only[nc] at *);(try simp only[Int.ofNat_eq_natCast] at *);omega)),by (first | omega | ((try simp only[nc] at *);(try simp only[Int.ofNat_eq_natCast] at *);omega)),by (first | omega | ((try simp only[nc] at *);(try simp only[Int.ofNat_eq_natCast] at *);omega)),by (first | omega | ((try simp only[nc] at *);(try simp only[Int.ofNat_eq_natCast] at *);omega)),?_,?_⟩
      ·rw[show (k+(q+1)).toNat=(k+q).toNat+1 by (first | omega | ((try simp only[nc] at *);(try simp only[Int.ofNat_eq_natCast] at *);omega)),mc0 (by (first | omega | ((try simp only[nc] at *);(try simp only[Int.ofNat_eq_natCast] at *);omega))) hu2 hv2 h5,hmt]
      ·rw[show (k+(q+1) - 1).toNat=(k+q - 1).toNat+1 by (first | omega | ((try simp only[nc] at *);(try simp only[Int.ofNat_eq_natCast] at *);omega)),← List.drop_drop,hmd,List.drop_drop]
     ·simp only[iAt,zo0,x_add]
      rw[sn0 (by (first | omega | ((try simp only[nc] at *);(try simp only[Int.ofNat_eq_natCast] at *);omega))) (by (first | omega | ((try simp only[nc] at *);(try simp only[Int.ofNat_eq_natCast] at *);omega)))]
      (first | omega | ((try simp only[nc] at *);(try simp only[Int.ofNat_eq_natCast] at *);omega))
   ·simp only[x_lt,x_lenR,kw0,la',decide_eq_false_iff_not] at h3
    have hpl:p.toNat≤es'.length:=by (first | omega | ((try simp only[nc] at *);(try simp only[Int.ofNat_eq_natCast] at *);omega))
    cbv
    refine .own ?_
    cbv
    refine⟨hp0,by rw[la'];(first | omega | ((try simp only[nc] at *);(try simp only[Int.ofNat_eq_natCast] at *);omega)),?_⟩
    cbv
    refine⟨by simp only[kw0];exact hpl,?_⟩
    cbv
    refine .own ?_
    cbv
    refine⟨hp0,?_,?_⟩
    ·simp only[x_clr,kw0,List.length_append,List.length_take,List.length_replicate]
     (first | omega | ((try simp only[nc] at *);(try simp only[Int.ofNat_eq_natCast] at *);omega))
    cbv
    refine hK _ _ (slE ?_)
    simp only[x_take,x_clr,kw0]
    rw[List.take_append_of_le_length (by rw[List.length_take];omega),List.take_take,Nat.min_self,hml,← List.map_take,hmt,fr0]
    congr 2
    (first | omega | ((try simp only[nc] at *);(try simp only[Int.ofNat_eq_natCast] at *);omega))
  ·simp only[x_eq,decide_eq_false_iff_not] at h2
   cbv
   refine hKn _ _ (.mtn [0] ?_) ?_ ?_
   ·(cbv;repeat (refine⟨rfl,?_⟩;cbv))
   ·simp only[iAt,zo0,x_add]
    rw[sn0 (by (first | omega | ((try simp only[nc] at *);(try simp only[Int.ofNat_eq_natCast] at *);omega))) (by (first | omega | ((try simp only[nc] at *);(try simp only[Int.ofNat_eq_natCast] at *);omega))),toNat_succ (by (first | omega | ((try simp only[nc] at *);(try simp only[Int.ofNat_eq_natCast] at *);omega)))]
    refine⟨by (first | omega | ((try simp only[nc] at *);(try simp only[Int.ofNat_eq_natCast] at *);omega)),by (first | omega | ((try simp only[nc] at *);(try simp only[Int.ofNat_eq_natCast] at *);omega)),?_⟩
    rw[cmpTo_new hx hy h2,hk3,vg0 hx]
   ·simp only[iAt,zo0,x_add]
    rw[sn0 (by (first | omega | ((try simp only[nc] at *);(try simp only[Int.ofNat_eq_natCast] at *);omega))) (by (first | omega | ((try simp only[nc] at *);(try simp only[Int.ofNat_eq_natCast] at *);omega)))]
    (first | omega | ((try simp only[nc] at *);(try simp only[Int.ofNat_eq_natCast] at *);omega))
 ·simp only[x_lt,x_len,la,decide_eq_false_iff_not] at h1
  cbv
  refine hK _ _ (slE ?_)
  have e1:k.toNat=l.length:=by (first | omega | ((try simp only[nc] at *);(try simp only[Int.ofNat_eq_natCast] at *);omega))
  rw[hes,fr0,← e1,hk3,e1,List.take_length]
omit hP in
theorem W_dI (l:List Int):W eIi64 l=l.map dI:=by rw[dl0];rfl
noncomputable def compG (l:List Int):Option (List Int):=if l.length≤1000000000 then some (fr0 l) else none
theorem slices_Compact_R (l r:List Int)(h:compG l=some r) :
  SCall P 58 [.row 3 1 (W eIi64 l)] [.hd 0] (fun sv own'=>sv=.d (.sl (W eIi64 r))∧own'=[.gone]):=by
 unfold compG at h
 split at h
 ·rename_i hl
  cases h
  rw[W_dI,W_dI]
  exact compactR0 hP rfl hl
 ·cases h
end Go.SX.Td
namespace Go.SX.Td
open Go Go.SX Go.Proofs
set_option maxRecDepth 100000
noncomputable def tvals_l2 (zones:(List Live))(rules:(List Rule))(attr:Int)(limits:(A10 Range)):((List Int)×Int)→Option (((List Int)×Int) ⊕ ((List Int)))
 | (out5,v6) =>
 bif (io.lt v6 (io.len (W eLive zones))) then (
 Option.bind (
 Option.bind (idxG zones v6) fun x8 =>
 Option.bind (
 Option.bind (idxG rules x8.rule) fun x11 =>
 Option.bind (idxG x11.Zones x8.zone) fun x12 =>
 Option.bind (pixG 10 attr) fun i13 =>
 some ((x12.get i13).Lo,(x12.get i13).Hi)
 ) fun (Lo9,Hi10) =>
 Option.bind (
 Option.bind (
 Option.bind (pixG 10 attr) fun ix16 =>
 bif (io.lt (limits.get ix16).Lo Lo9) then (
 some (io.le Lo9 (limits.get ix16).Hi)
 ) else (
 some false
 )
 ) fun v15 =>
 bif v15 then (
 Option.bind (some [Lo9]) fun l17 =>
 Option.bind (appG out5 l17) fun l18 =>
 some l18
 ) else (
 some out5
 )
 ) fun out14 =>
 Option.bind (
 Option.bind (pixG 10 attr) fun i20 =>
 bif (io.lt (limits.get i20).Lo (io.ar .add .i64 Hi10 1)) then (
 some (io.le (io.ar .add .i64 Hi10 1) (limits.get i20).Hi)
 ) else (
 some false
 )
 ) fun v19 =>
 bif v19 then (
 Option.bind (some [(io.ar .add .i64 Hi10 1)]) fun l21 =>
 Option.bind (appG out14 l21) fun l22 =>
 some l22
 ) else (
 some out14
 )
 ) fun out7 =>
 some (.inl (out7,(io.ar .add .i64 v6 1)))
 ) else (
 some (.inr out5)
 )
noncomputable def tvals_l4 (x27:Node)(attr:Int)(limits:(A10 Range)):((List Int)×Int)→Option (((List Int)×Int) ⊕ ((List Int)))
 | (out28,v29) =>
 bif (io.lt v29 (io.len (W eIi64 x27.Cuts))) then (
 Option.bind (
 Option.bind (idxG x27.Cuts v29) fun x31 =>
 Option.bind (
 Option.bind (pixG 10 attr) fun i33 =>
 bif (io.lt (limits.get i33).Lo x31) then (
 some (io.le x31 (limits.get i33).Hi)
 ) else (
 some false
 )
 ) fun v32 =>
 bif v32 then (
 Option.bind (some [x31]) fun l34 =>
 Option.bind (appG out28 l34) fun l35 =>
 some l35
 ) else (
 some out28
 )
 ) fun out30 =>
 some (.inl (out30,(io.ar .add .i64 v29 1)))
 ) else (
 some (.inr out28)
 )
noncomputable def tvals_b (rules:(List Rule))(nodes:(List Node))(leaves:(List Decision))(limits:(A10 Range))(attr:Int)(zones:(List Live))(node:Int)(facts:(A10 Int))(equal:(List (ByteArray×Bool))):Option ((List Int)) :=
 Option.bind (
 Option.bind (pixG 10 attr) fun i2 =>
 Option.bind (some [(limits.get i2).Lo]) fun l3 =>
 some l3
 ) fun out1 =>
 Option.bind (
 whileG (tvals_l2 zones rules attr limits) (out1,0)
 ) fun out4 =>
 Option.bind (
 Option.bind (
 Option.bind (idxG nodes node) fun x25 =>
 bif (io.lt 0 (io.len (W eIi64 x25.Kids))) then (
 Option.bind (idxG nodes node) fun x26 =>
 some (io.eq x26.Attr attr)
 ) else (
 some false
 )
 ) fun v24 =>
 bif v24 then (
 Option.bind (idxG nodes node) fun x27 =>
 whileG (tvals_l4 x27 attr limits) (out4,0)
 ) else (
 some out4
 )
 ) fun out23 =>
 Option.bind (
 Option.bind (sortG out23) fun l37 =>
 some l37
 ) fun out36 =>
 Option.bind (compG out36) fun l38 =>
 some l38
end Go.SX.Td
namespace Go.SX.Td
open Go Go.SX Go.Proofs
set_option maxRecDepth 100000
noncomputable def tdiff_l26 (zones:(List Live))(rules:(List Rule))(attr:Int)(x16:Int):((List Live)×Int)→Option (((List Live)×Int) ⊕ ((List Live)))
 | (rest20,v21) =>
 bif (io.lt v21 (io.len (W eLive zones))) then (
 Option.bind (
 Option.bind (idxG zones v21) fun x23 =>
 Option.bind (
 Option.bind (idxG rules x23.rule) fun x26 =>
 Option.bind (idxG x26.Zones x23.zone) fun x27 =>
 Option.bind (pixG 10 attr) fun i28 =>
 some ((x27.get i28).Lo,(x27.get i28).Hi)
 ) fun (Lo24,Hi25) =>
 Option.bind (
 bif (io.le Lo24 x16) then (
 some (io.le x16 Hi25)
 ) else (
 some false
 )
 ) fun v29 =>
 bif v29 then (
 Option.bind (some [x23]) fun l30 =>
 Option.bind (appG rest20 l30) fun rest31 =>
 some rest31
 ) else (
 some rest20
 )
 ) fun rest22 =>
 some (.inl (rest22,(io.ar .add .i64 v21 1)))
 ) else (
 some (.inr rest20)
 )
noncomputable def tdiff_l22 (v9:Int)(v8:(List Int))(attr:Int)(zones:(List Live))(rules:(List Rule))(nodes:(List Node))(node:Int)(leaves:(List Decision))(limits:(A10 Range))(rec:(Int→(List Live)→Int→(A10 Int)→(List (ByteArray×Bool))→Option (Bool×(A10 Int)×(List (ByteArray×Bool))))):((A10 Int)×(List (ByteArray×Bool))×Int)→Option (((A10 Int)×(List (ByteArray×Bool))×Int) ⊕ (((A10 Int)×(List (ByteArray×Bool))) ⊕ (Bool×(A10 Int)×(List (ByteArray×Bool)))))
 | (facts11,own12,v13) =>
 bif (io.lt v13 v9) then (
 orR (
 Option.bind (idxG v8 v13) fun x16 =>
 Option.bind (
 Option.bind (pixG 10 attr) fun i18 =>
 some (facts11.put i18 x16)
 ) fun facts17 =>
 Option.bind (
 whileG (tdiff_l26 zones rules attr x16) ([],0)
 ) fun rest19 =>
 Option.bind (
 Option.bind (
 Option.bind (idxG nodes node) fun x34 =>
 bif (io.lt 0 (io.len (W eIi64 x34.Kids))) then (
 Option.bind (idxG nodes node) fun x35 =>
 some (io.eq x35.Attr attr)
 ) else (
 some false
 )
 ) fun v33 =>
 bif v33 then (
 Option.bind (tkid_b rules nodes leaves limits node x16 facts17 own12) fun r36 =>
 some r36
 ) else (
 some node
 )
 ) fun next32 =>
 Option.bind (
 Option.bind (rec (io.ar .add .i64 attr 1) rest19 next32 facts17 own12) fun r40 =>
 some (r40.2.1,r40.2.2,r40.1)
 ) fun (facts37,own38,v39) =>
 bif v39 then (
 some (.inr (.inr (.inr (true,facts37,own38))))
 ) else (
 some (.inl (facts37,own38))
 )
 ) fun (facts14,own15) =>
 some (.inl (facts14,own15,(io.ar .add .i64 v13 1)))
 ) else (
 some (.inr (.inl (facts11,own12)))
 )
noncomputable def tdiff_b (rules:(List Rule))(nodes:(List Node))(leaves:(List Decision))(limits:(A10 Range))(rec:(Int→(List Live)→Int→(A10 Int)→(List (ByteArray×Bool))→Option (Bool×(A10 Int)×(List (ByteArray×Bool)))))(attr:Int)(zones:(List Live))(node:Int)(facts:(A10 Int))(equal:(List (ByteArray×Bool))):Option (Bool×(A10 Int)×(List (ByteArray×Bool))) :=
 bif (io.eq attr 10) then (
 Option.bind (idxG nodes node) fun x1 =>
 Option.bind (idxG leaves x1.Leaf) fun x2 =>
 Option.bind (decide_Decide_g (Policy.mk rules) facts) fun v3 =>
 some ((io.not (qDecision x2 v3)),facts,equal)
 ) else (
 Option.bind (verify_key_g attr node zones) fun k4 =>
 Option.bind (some (mlookD equal k4 false)) fun y5 =>
 bif y5 then (
 some (false,facts,equal)
 ) else (
 orR (
 Option.bind (
 Option.bind (tvals_b rules nodes leaves limits attr zones node facts equal) fun r10 =>
 some (r10,(io.len (W eIi64 r10)))
 ) fun (v8,v9) =>
 whileG (tdiff_l22 v9 v8 attr zones rules nodes node leaves limits rec) (facts,equal,0)
 ) fun (facts6,own7) =>
 Option.bind (some (mputG own7 k4 true)) fun m41 =>
 some (false,facts6,m41)
 )
 )
noncomputable def tdiff (rules:(List Rule))(nodes:(List Node))(leaves:(List Decision))(limits:(A10 Range)):Nat→Int→(List Live)→Int→(A10 Int)→(List (ByteArray×Bool))→Option (Bool×(A10 Int)×(List (ByteArray×Bool)))
 | 0,_,_,_,_,_=>none
 | n+1,attr,zones,node,facts,equal=>tdiff_b rules nodes leaves limits (tdiff rules nodes leaves limits n) attr zones node facts equal
end Go.SX.Td
namespace Go.SX.Td
open Go Go.SX Go.Proofs
set_option maxRecDepth 100000
noncomputable def verify_Differ_l14 (x9:Rule)(v7:Int):((List Live)×Int)→Option (((List Live)×Int) ⊕ ((List Live)))
 | (zones10,v11) =>
 bif (io.lt v11 (io.len (W eA10Range x9.Zones))) then (
 Option.bind (some [(Live.mk v7 v11)]) fun l12 =>
 Option.bind (appG zones10 l12) fun zones13 =>
 some (.inl (zones13,(io.ar .add .i64 v11 1)))
 ) else (
 some (.inr zones10)
 )
noncomputable def verify_Differ_l12 (p:Policy):((List Live)×Int)→Option (((List Live)×Int) ⊕ ((List Live)))
 | (zones6,v7) =>
 bif (io.lt v7 (io.len (W eRule p.Rules))) then (
 Option.bind (
 Option.bind (idxG p.Rules v7) fun x9 =>
 whileG (verify_Differ_l14 x9 v7) (zones6,0)
 ) fun zones8 =>
 some (.inl (zones8,(io.ar .add .i64 v7 1)))
 ) else (
 some (.inr zones6)
 )
noncomputable def verify_Differ_g (p:Policy)(t_:Table):Option ((A10 Int)×Bool) :=
 Option.bind (
 Option.bind (decide_Valid_g p) fun v2 =>
 bif (io.not v2) then (
 some true
 ) else (
 Option.bind (table_Valid_g t_) fun v3 =>
 some (io.not v3)
 )
 ) fun v1 =>
 bif v1 then (
 some ((A10.mk 0 0 0 0 0 0 0 0 0 0),true)
 ) else (
 Option.bind (resolve_Limits_g) fun v4 =>
 Option.bind (
 whileG (verify_Differ_l12 p) ([],0)
 ) fun zones5 =>
 Option.bind (
 Option.bind (tdiff p.Rules t_.Nodes t_.Leaves v4 11 0 zones5 0 (A10.mk 0 0 0 0 0 0 0 0 0 0) ([]:(List (ByteArray×Bool)))) fun r17 =>
 some (r17.2.1,r17.2.2,(io.not r17.1))
 ) fun (facts14,equal15,v16) =>
 bif v16 then (
 some ((A10.mk 0 0 0 0 0 0 0 0 0 0),false)
 ) else (
 some (facts14,true)
 )
 )
end Go.SX.Td
namespace Go.SX.Td
open Go Go.SX Go.Proofs
set_option maxRecDepth 100000
noncomputable def law15_none_g : Option (Decision) :=
 some (Decision.mk false false false 0 0 (Ratio.mk 0 1) (Ratio.mk 0 1) (Ratio.mk 0 1) (Ratio.mk 0 1) (Ratio.mk 0 1) (-1))
end Go.SX.Td
namespace Go.SX.Td
open Go Go.SX Go.Proofs
set_option maxRecDepth 100000
noncomputable def ref12_Limits_l2 (high1:(List Int)):((A10 Range)×Int)→Option (((A10 Range)×Int) ⊕ ((A10 Range)))
 | (z3,i4) =>
 bif (io.lt i4 (io.len (W eIi64 high1))) then (
 Option.bind (
 Option.bind (rixG high1 i4) fun i6 =>
 Option.bind (high1[i6]?) fun v7 =>
 Option.bind (pixG 10 i4) fun ix8 =>
 some (z3.put ix8 (Range.mk (z3.get ix8).Lo v7))
 ) fun z5 =>
 some (.inl (z5,(io.ar .add .i64 i4 1)))
 ) else (
 some (.inr z3)
 )
noncomputable def ref12_Limits_g : Option ((A10 Range)) :=
 Option.bind (some [1000000000,150,1,19,7,319,3,3,12,100]) fun high1 =>
 Option.bind (
 whileG (ref12_Limits_l2 high1) ((A10.mk (Range.mk 0 0) (Range.mk 0 0) (Range.mk 0 0) (Range.mk 0 0) (Range.mk 0 0) (Range.mk 0 0) (Range.mk 0 0) (Range.mk 0 0) (Range.mk 0 0) (Range.mk 0 0)),0)
 ) fun z2 =>
 some (A10.mk z2.a0 z2.a1 z2.a2 z2.a3 z2.a4 z2.a5 z2.a6 z2.a7 (Range.mk 1 z2.a8.Hi) z2.a9)
end Go.SX.Td
namespace Go.SX.Td
open Go Go.SX Go.Proofs
set_option maxRecDepth 100000
noncomputable def ref15_Start_l2 (v1:(A10 Range)):((A10 Int)×Int)→Option (((A10 Int)×Int) ⊕ ((A10 Int)))
 | (f3,i4) =>
 bif (io.lt i4 10) then (
 Option.bind (
 Option.bind (pixG 10 i4) fun i7 =>
 some ((f3.put i7 (v1.get i7).Lo),i4)
 ) fun (f5,i6) =>
 some (.inl (f5,(io.ar .add .i64 i6 1)))
 ) else (
 some (.inr f3)
 )
noncomputable def ref15_Start_g : Option ((A10 Int)) :=
 Option.bind (ref12_Limits_g) fun v1 =>
 Option.bind (
 whileG (ref15_Start_l2 v1) ((A10.mk 0 0 0 0 0 0 0 0 0 0),0)
 ) fun f2 =>
 some f2
end Go.SX.Td
namespace Go.SX.Td
open Go Go.SX Go.Proofs
set_option maxRecDepth 100000
noncomputable def law15_head_g : Option (Bool) :=
 Option.bind (law15_none_g) fun v1 =>
 Option.bind (some [(Node.mk 0 [] [] 0)]) fun l2 =>
 Option.bind (some [v1]) fun l3 =>
 Option.bind (verify_Differ_g (Policy.mk []) (Table.mk l2 l3)) fun v4 =>
 Option.bind (some [(Node.mk 0 [] [] 0)]) fun l5 =>
 Option.bind (some [(Decision.mk v1.Allowed v1.Together v1.Single v1.Limit 5 v1.Fee v1.Tax v1.Cap v1.Share v1.Refund v1.By)]) fun l6 =>
 Option.bind (verify_Differ_g (Policy.mk []) (Table.mk l5 l6)) fun v7 =>
 Option.bind (ref12_Limits_g) fun v8 =>
 Option.bind (some [v8]) fun l9 =>
 Option.bind (ref12_Limits_g) fun v10 =>
 Option.bind (some [v10]) fun l11 =>
 Option.bind (some [(Rule.mk 1 (⟨#[97]⟩) l9 0 (Ratio.mk 0 0) (Ratio.mk 0 0)),(Rule.mk 3 (⟨#[112]⟩) l11 100 (Ratio.mk 0 1) (Ratio.mk 0 1))]) fun l12 =>
 Option.bind (law15_none_g) fun v13 =>
 Option.bind (some [18]) fun l14 =>
 Option.bind (some [1,2]) fun l15 =>
 Option.bind (some [(Node.mk 1 l14 l15 0),(Node.mk 0 [] [] 0),(Node.mk 0 [] [] 1)]) fun l16 =>
 Option.bind (some [(Decision.mk false v13.Together v13.Single v13.Limit 100 v13.Fee v13.Tax v13.Cap v13.Share v13.Refund 0),(Decision.mk true v13.Together v13.Single v13.Limit 100 v13.Fee v13.Tax v13.Cap v13.Share v13.Refund 0)]) fun l17 =>
 Option.bind (some [18]) fun l18 =>
 Option.bind (some [1,2]) fun l19 =>
 Option.bind (some [(Node.mk 1 l18 l19 0),(Node.mk 0 [] [] 0),(Node.mk 0 [] [] 1)]) fun l20 =>
 Option.bind (some [(Decision.mk true v13.Together v13.Single v13.Limit 100 v13.Fee v13.Tax v13.Cap v13.Share v13.Refund 0),(Decision.mk false v13.Together v13.Single v13.Limit 100 v13.Fee v13.Tax v13.Cap v13.Share v13.Refund 0)]) fun l21 =>
 Option.bind (verify_Differ_g (Policy.mk l12) (Table.mk l16 l17)) fun v22 =>
 Option.bind (verify_Differ_g (Policy.mk l12) (Table.mk l20 l21)) fun v23 =>
 Option.bind (verify_Differ_g (Policy.mk l12) (Table.mk [] [])) fun v24 =>
 Option.bind (ref15_Start_g) fun v25 =>
 bif (io.not v4.2) then (
 bif (qA10Ii64 v4.1 (A10.mk 0 0 0 0 0 0 0 0 0 0)) then (
 bif v7.2 then (
 bif (qA10Ii64 v7.1 v25) then (
 bif v22.2 then (
 bif (qA10Ii64 v22.1 v25) then (
 bif v23.2 then (
 bif (qA10Ii64 v23.1 (A10.mk v25.a0 18 v25.a2 v25.a3 v25.a4 v25.a5 v25.a6 v25.a7 v25.a8 v25.a9)) then (
 some v24.2
 ) else (
 some false
 )
 ) else (
 some false
 )
 ) else (
 some false
 )
 ) else (
 some false
 )
 ) else (
 some false
 )
 ) else (
 some false
 )
 ) else (
 some false
 )
 ) else (
 some false
 )
end Go.SX.Td
namespace Go.SX.Td
open Go Go.SX Go.Proofs
set_option maxRecDepth 100000
noncomputable def ref14_Few_l2 (p:Policy):(Int×Int)→Option ((Int×Int) ⊕ ((Int) ⊕ (Bool)))
 | (zones2,i3) =>
 bif (io.lt i3 (io.len (W eRule p.Rules))) then (
 Option.bind (idxG p.Rules i3) fun x4 =>
 Option.bind (idxG p.Rules i3) fun x5 =>
 bif (io.lt 60 (io.ssz x5.Name)) then (
 some (.inr (.inr false))
 ) else (
 some (.inl ((io.ar .add .i64 zones2 (io.len (W eA10Range x4.Zones))),(io.ar .add .i64 i3 1)))
 )
 ) else (
 some (.inr (.inl zones2))
 )
noncomputable def ref14_Few_g (p:Policy):Option (Bool) :=
 orR (
 whileG (ref14_Few_l2 p) (0,0)
 ) fun zones1 =>
 bif (io.le (io.len (W eRule p.Rules)) 8) then (
 some (io.le zones1 10)
 ) else (
 some false
 )
end Go.SX.Td
namespace Go.SX.Td
open Go Go.SX Go.Proofs
set_option maxRecDepth 100000
noncomputable def ref14_Small_l2 (t_:Table):Int→Option ((Int) ⊕ ((Unit) ⊕ (Bool)))
 | i1 =>
 bif (io.lt i1 (io.len (W eNode t_.Nodes))) then (
 Option.bind (
 Option.bind (idxG t_.Nodes i1) fun x3 =>
 bif (io.lt 20 (io.len (W eIi64 x3.Cuts))) then (
 some true
 ) else (
 Option.bind (idxG t_.Nodes i1) fun x4 =>
 some (io.lt 21 (io.len (W eIi64 x4.Kids)))
 )
 ) fun v2 =>
 bif v2 then (
 some (.inr (.inr false))
 ) else (
 some (.inl (io.ar .add .i64 i1 1))
 )
 ) else (
 some (.inr (.inl ()))
 )
noncomputable def ref14_Small_g (t_:Table):Option (Bool) :=
 orR (
 whileG (ref14_Small_l2 t_) 0
 ) fun _ =>
 bif (io.le (io.len (W eNode t_.Nodes)) 60) then (
 some (io.le (io.len (W eDecision t_.Leaves)) 60)
 ) else (
 some false
 )
end Go.SX.Td
namespace Go.SX.Td
open Go Go.SX Go.Proofs
set_option maxRecDepth 100000
noncomputable def law15_few_g (p:Policy)(t_:Table):Option (Bool) :=
 Option.bind (ref14_Few_g p) fun v1 =>
 bif v1 then (
 Option.bind (ref14_Small_g t_) fun v2 =>
 some v2
 ) else (
 some false
 )
end Go.SX.Td
