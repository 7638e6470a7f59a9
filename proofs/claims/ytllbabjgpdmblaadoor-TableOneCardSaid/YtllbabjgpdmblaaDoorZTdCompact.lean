/- Parts of the proof. -/
import Derived.Test.YtllbabjgpdmblaaDoorZTdBuilder
import Derived.Test.YtllbabjgpdmblaaDoorZTdT
import Derived.Test.YtllbabjgpdmblaaDoorZTd32d
set_option linter.unusedSimpArgs false
set_option linter.unusedVariables false
set_option linter.unusedSectionVars false
namespace Go.SX.Td
open Go Go.SX Go.Proofs
set_option maxRecDepth 100000
def d58r0 : List GOp:=[
 ⟨(some 2),.mv (.const (.slice none 0 0)),none⟩]
def d58r1 : List GOp:=[
 ⟨(some 6),.mv (.tmp 0),none⟩,
 ⟨(some 7),.len false (.tmp 6),none⟩,
 ⟨(some 8),.bin .lss (.tmp 7) (.const (.int .i64 2)),none⟩]
def d58r2 : List GOp:=[
 ⟨(some 9),.mv (.tmp 0),none⟩,
 ⟨(some 2),.mv (.tmp 9),none⟩]
def d58r3 : List GOp:=[
 ⟨(some 3),.mv (.const (.int .i64 1)),none⟩]
def d58r4 : List GOp:=[
 ⟨(some 10),.mv (.tmp 3),none⟩,
 ⟨(some 11),.mv (.tmp 0),none⟩,
 ⟨(some 12),.len false (.tmp 11),none⟩,
 ⟨(some 13),.bin .lss (.tmp 10) (.tmp 12),none⟩]
def d58r5 : List GOp:=[
 ⟨(some 16),.mv (.tmp 0),none⟩,
 ⟨(some 17),.mv (.tmp 3),none⟩,
 ⟨(some 18),.idxA 1 (.tmp 16) (.tmp 17),none⟩,
 ⟨(some 19),.load 1 false (.tmp 18),none⟩,
 ⟨(some 20),.mv (.tmp 0),none⟩,
 ⟨(some 21),.mv (.tmp 3),none⟩,
 ⟨(some 22),.bin .sub (.tmp 21) (.const (.int .i64 1)),none⟩,
 ⟨(some 23),.idxA 1 (.tmp 20) (.tmp 22),none⟩,
 ⟨(some 24),.load 1 false (.tmp 23),none⟩,
 ⟨(some 25),.bin .eql (.tmp 19) (.tmp 24),none⟩]
def d58r6 : List GOp:=[
 ⟨(some 26),.mv (.tmp 0),none⟩,
 ⟨(some 27),.mv (.tmp 3),none⟩,
 ⟨(some 28),.slc 1 (.tmp 26) (some (.tmp 27)) none,none⟩,
 ⟨(some 4),.mv (.tmp 28),none⟩]
def d58r7 : List GOp:=[
 ⟨(some 5),.mv (.const (.int .i64 1)),none⟩]
def d58r8 : List GOp:=[
 ⟨(some 29),.mv (.tmp 5),none⟩,
 ⟨(some 30),.mv (.tmp 4),none⟩,
 ⟨(some 31),.len false (.tmp 30),none⟩,
 ⟨(some 32),.bin .lss (.tmp 29) (.tmp 31),none⟩]
def d58r9 : List GOp:=[
 ⟨(some 35),.mv (.tmp 4),none⟩,
 ⟨(some 36),.mv (.tmp 5),none⟩,
 ⟨(some 37),.idxA 1 (.tmp 35) (.tmp 36),none⟩,
 ⟨(some 38),.load 1 false (.tmp 37),none⟩,
 ⟨(some 39),.mv (.tmp 4),none⟩,
 ⟨(some 40),.mv (.tmp 5),none⟩,
 ⟨(some 41),.bin .sub (.tmp 40) (.const (.int .i64 1)),none⟩,
 ⟨(some 42),.idxA 1 (.tmp 39) (.tmp 41),none⟩,
 ⟨(some 43),.load 1 false (.tmp 42),none⟩,
 ⟨(some 44),.bin .neq (.tmp 38) (.tmp 43),none⟩]
def d58r10 : List GOp:=[
 ⟨(some 45),.mv (.tmp 0),none⟩,
 ⟨(some 46),.mv (.tmp 3),none⟩,
 ⟨(some 47),.mv (.tmp 4),none⟩,
 ⟨(some 48),.mv (.tmp 5),none⟩,
 ⟨(some 49),.idxA 1 (.tmp 47) (.tmp 48),none⟩,
 ⟨(some 50),.load 1 false (.tmp 49),none⟩,
 ⟨(some 51),.idxA 1 (.tmp 45) (.tmp 46),none⟩,
 ⟨none,.store 1 (.tmp 51) (.tmp 50),none⟩]
def d58r11 : List GOp:=[
 ⟨(some 52),.mv (.tmp 3),none⟩,
 ⟨(some 53),.bin .add (.tmp 52) (.const (.int .i64 1)),none⟩,
 ⟨(some 3),.mv (.tmp 53),none⟩]
def d58r12 : List GOp:=[
 ⟨(some 33),.mv (.tmp 5),none⟩,
 ⟨(some 34),.bin .add (.tmp 33) (.const (.int .i64 1)),none⟩,
 ⟨(some 5),.mv (.tmp 34),none⟩]
def d58l13 : DC:=.seq (.seq (.reg d58r8) (.cond (.tmp 32) (.skip) (.exit 2))) (.seq (.block 3 (.seq (.par true true true 9 d58r9) (.cond (.tmp 44) (.seq (.reg d58r10) (.reg d58r11)) (.skip)))) (.reg d58r12))
def d58r14 : List GOp:=[
 ⟨(some 54),.mv (.tmp 0),none⟩,
 ⟨(some 55),.mv (.tmp 3),none⟩,
 ⟨(some 56),.slc 1 (.tmp 54) (some (.tmp 55)) none,none⟩,
 ⟨none,.clr 1 (.int .i64 0) (.tmp 56),none⟩]
def d58r15 : List GOp:=[
 ⟨(some 57),.mv (.tmp 0),none⟩,
 ⟨(some 58),.mv (.tmp 3),none⟩,
 ⟨(some 59),.slc 1 (.tmp 57) none (some (.tmp 58)),none⟩,
 ⟨(some 2),.mv (.tmp 59),none⟩]
def d58r16 : List GOp:=[
 ⟨(some 14),.mv (.tmp 3),none⟩,
 ⟨(some 15),.bin .add (.tmp 14) (.const (.int .i64 1)),none⟩,
 ⟨(some 3),.mv (.tmp 15),none⟩]
def d58l17 : DC:=.seq (.seq (.reg d58r4) (.cond (.tmp 13) (.skip) (.exit 0))) (.seq (.block 1 (.seq (.par true true true 9 d58r5) (.cond (.tmp 25) (.seq (.reg d58r6) (.seq (.seq (.reg d58r7) (.block 2 (.loop d58l13))) (.seq (.reg d58r14) (.seq (.reg d58r15) (.ret))))) (.skip)))) (.reg d58r16))
def d58r18 : List GOp:=[
 ⟨(some 60),.mv (.tmp 0),none⟩,
 ⟨(some 2),.mv (.tmp 60),none⟩]
def d58c : DC:=.seq (.reg d58r0) (.seq (.seq (.reg d58r1) (.cond (.tmp 8) (.seq (.reg d58r2) (.ret)) (.skip))) (.seq (.seq (.reg d58r3) (.block 0 (.loop d58l17))) (.seq (.reg d58r18) (.ret))))
def d58 : DFn:=⟨61,d58c,[.tmp 2]⟩
theorem d58_ok : compF Tryd.prog 58=some d58:=by kernel_rfl
theorem vg0 {α:Type}{a:List α}{k:Nat}{x:α}(h:a[k]?=some x):a.take (k+1)=a.take k++[x]:=by
 rw[List.take_add_one,h];rfl
theorem toNat_succ {k:Int}(h:0≤k):(k+1).toNat=k.toNat+1:=by omega
def jr0 (l:List Int):Nat→List Int
 | 0=>[]
 | k+1=>match l[k]? with
  | none=>jr0 l k
  | some x=>if k≠0∧l[k - 1]?=some x then jr0 l k else jr0 l k++[x]
def fr0 (l:List Int):List Int:=jr0 l l.length
theorem km0 {l:List Int}{k:Nat}{x:Int}(h:l[k]?=some x):jr0 l (k+1)=if k≠0∧l[k - 1]?=some x then jr0 l k else jr0 l k++[x]:=by
 rw[jr0,h]
theorem cmpTo_le (l:List Int)(k:Nat):(jr0 l k).length≤k:=by
 induction k with
 | zero=>simp[jr0]
 | succ k ih =>
  rw[jr0]
  split
  ·omega
  ·split
   ·omega
   ·simp;omega
theorem mc0 {l:List Int}{k:Nat}{x y:Int}(h0:k≠0)(h:l[k]?=some x)(h':l[k - 1]?=some y)(he:x=y):jr0 l (k+1)=jr0 l k:=by
 rw[km0 h,if_pos ⟨h0,by rw[h',he]⟩]
theorem cmpTo_new {l:List Int}{k:Nat}{x y:Int}(h:l[k]?=some x)(h':l[k - 1]?=some y)(he:x≠y):jr0 l (k+1)=jr0 l k++[x]:=by
 rw[km0 h,if_neg]
 rintro ⟨_,h2⟩
 rw[h'] at h2;cases h2;exact he rfl
variable {P:Program}(hP:P=Tryd.prog)
include hP
theorem compactR0 {l:List Int}{es:List (List D)}(hes:es=l.map dI)(hl:l.length≤1000000000) :
  SCall P 58 [.row 3 1 es] [.hd 0] (fun sv own'=>sv=.d (.sl ((fr0 l).map dI))∧own'=[.gone]):=by
 refine .walkC (hP▸d58_ok) rfl fun K hK=>?_
 have la:es.length=l.length:=by simp[hes]
 cbv
 refine brk (fun h=>?_) (fun h=>?_)
 ·simp only[x_lt,x_len,la,decide_eq_true_eq] at h
  cbv
  refine hK _ _ (slE ?_)
  have:fr0 l=l:=by
   match l,h with
   | [],_=>rfl
   | [x],_=>rfl
   | x::y::r,h=>simp at h;omega
  rw[this,hes]
 simp only[x_lt,x_len,la,decide_eq_false_iff_not] at h
 cbv
 refine .intro (ι:=Int) (fun k=>[.hd 0,.top,.top,.i k]++List.replicate 57 .top) (fun _=>[.row 3 1 es]) (fun env _=>iAt env 3)
  (fun k=>1≤k∧k≤l.length∧jr0 l k.toNat=l.take k.toNat) (fun k=>l.length - k.toNat) 1 ?_ (.mtn [0] ?_) fun k hk Kn hKn=>?_
 ·refine⟨Int.le_refl _,by (first | omega | ((try simp only[nc] at *);(try simp only[Int.ofNat_eq_natCast] at *);omega)),?_⟩
  have hn0:0<l.length:=by (first | omega | ((try simp only[nc] at *);(try simp only[Int.ofNat_eq_natCast] at *);omega))
  have hx:l[0]?=some l[0]:=List.getElem?_eq_getElem hn0
  show jr0 l 1=l.take 1
  rw[km0 hx,if_neg (by simp),vg0 hx];rfl
 ·(cbv;repeat (refine⟨rfl,?_⟩;cbv))
 obtain⟨hk1,hk2,hk3⟩:=hk
 cbv
 refine brk (fun h1=>?_) (fun h1=>?_)
 ·simp only[x_lt,x_len,la,decide_eq_true_eq] at h1
  cbv
  refine⟨by (first | omega | ((try simp only[nc] at *);(try simp only[Int.ofNat_eq_natCast] at *);omega)),by rw[la];exact h1,?_⟩
  cbv
  refine .map hes (by simp only[kw0];(first | omega | ((try simp only[nc] at *);(try simp only[Int.ofNat_eq_natCast] at *);omega))) fun x hx=>?_
  simp only[kw0] at hx
  have ew:IntKind.i64.wrap (k - 1)=k - 1:=sn0 (by (first | omega | ((try simp only[nc] at *);(try simp only[Int.ofNat_eq_natCast] at *);omega))) (by (first | omega | ((try simp only[nc] at *);(try simp only[Int.ofNat_eq_natCast] at *);omega)))
  cbv
  refine⟨by simp only[dx0];rw[ew];(first | omega | ((try simp only[nc] at *);(try simp only[Int.ofNat_eq_natCast] at *);omega)),by simp only[dx0];rw[ew,la];(first | omega | ((try simp only[nc] at *);(try simp only[Int.ofNat_eq_natCast] at *);omega)),?_⟩
  cbv
  refine .map hes (by simp only[kw0,dx0];rw[ew];(first | omega | ((try simp only[nc] at *);(try simp only[Int.ofNat_eq_natCast] at *);omega))) fun y hy=>?_
  simp only[kw0,dx0] at hy
  rw[ew] at hy
  have hy:l[k.toNat - 1]?=some y:=by rw[← hy];congr 1;(first | omega | ((try simp only[nc] at *);(try simp only[Int.ofNat_eq_natCast] at *);omega))
  cbv
  refine brk (fun h2=>?_) (fun h2=>?_)
  ·simp only[x_eq,decide_eq_true_eq] at h2
   cbv
   refine .own ?_
   cbv
   refine⟨by (first | omega | ((try simp only[nc] at *);(try simp only[Int.ofNat_eq_natCast] at *);omega)),by rw[la];(first | omega | ((try simp only[nc] at *);(try simp only[Int.ofNat_eq_natCast] at *);omega)),?_⟩
   cbv
   refine .intro (ι:=Int×Int×List (List D)) (fun q=>[.hd 0,.top,.top,.i q.1,.rs 0 1 ((Classical.choice ioEx).1.nat k),.i q.2.1]++List.replicate 55 .top) (fun q=>[.row 3 1 q.2.2]) (fun env own=>(iAt env 3,iAt env 5,rAt own 0))
    (fun q=>∃ ml:List Int,q.2.2=ml.map dI∧ml.length=l.length∧0≤q.1∧q.1+1≤k+q.2.1∧1≤q.2.1∧k+q.2.1≤l.length∧ml.take q.1.toNat=jr0 l (k+q.2.1).toNat∧ml.drop (k+q.2.1 - 1).toNat=l.drop (k+q.2.1 - 1).toNat)
    (fun q=>l.length - q.2.1.toNat) (k,1,es) ?_ (.mtn [0] ?_) fun q hq Kn2 hKn2=>?_
   ·refine⟨l,hes,rfl,by (first | omega | ((try simp only[nc] at *);(try simp only[Int.ofNat_eq_natCast] at *);omega)),by (first | omega | ((try simp only[nc] at *);(try simp only[Int.ofNat_eq_natCast] at *);omega)),by (first | omega | ((try simp only[nc] at *);(try simp only[Int.ofNat_eq_natCast] at *);omega)),by (first | omega | ((try simp only[nc] at *);(try simp only[Int.ofNat_eq_natCast] at *);omega)),?_,rfl⟩
    have e1:(k+1).toNat=k.toNat+1:=by (first | omega | ((try simp only[nc] at *);(try simp only[Int.ofNat_eq_natCast] at *);omega))
    rw[e1,mc0 (by (first | omega | ((try simp only[nc] at *);(try simp only[Int.ofNat_eq_natCast] at *);omega))) hx hy h2,hk3]
   ·(cbv;repeat (refine⟨rfl,?_⟩;cbv))
   obtain⟨p,q,es'⟩:=q
   obtain⟨ml,hml,hmlen,hp0,hpq,hq1,hql,hmt,hmd⟩:=hq
   dsimp only at hml hp0 hpq hq1 hql hmt hmd
   have la':es'.length=l.length:=by rw[hml,List.length_map,hmlen]
   have hget:∀ j:Nat,k+q - 1≤j→ml[j]?=l[j]?:=fun j hj=>by
    have:(ml.drop (k+q - 1).toNat)[j - (k+q - 1).toNat]?=(l.drop (k+q - 1).toNat)[j - (k+q - 1).toNat]?:=by rw[hmd]
    rw[List.getElem?_drop,List.getElem?_drop] at this
    rw[show (k+q - 1).toNat+(j - (k+q - 1).toNat)=j by omega] at this
    exact this
   cbv
   refine brk (fun h3=>?_) (fun h3=>?_)
   ·simp only[x_lt,x_lenR,kw0,la',decide_eq_true_eq] at h3
    have h4:k+q<l.length:=by (first | omega | ((try simp only[nc] at *);(try simp only[Int.ofNat_eq_natCast] at *);omega))
    cbv
    refine⟨by (first | omega | ((try simp only[nc] at *);(try simp only[Int.ofNat_eq_natCast] at *);omega)),by simp only[la',kw0];(first | omega | ((try simp only[nc] at *);(try simp only[Int.ofNat_eq_natCast] at *);omega)),?_⟩
    cbv
    refine .map hml (by simp only[lc0,kw0];(first | omega | ((try simp only[nc] at *);(try simp only[Int.ofNat_eq_natCast] at *);omega))) fun u hu=>?_
    simp only[lc0,kw0] at hu
    have hu2:l[(k+q).toNat]?=some u:=by rw[← hu,← hget _ (by (first | omega | ((try simp only[nc] at *);(try simp only[Int.ofNat_eq_natCast] at *);omega)))];congr 1;(first | omega | ((try simp only[nc] at *);(try simp only[Int.ofNat_eq_natCast] at *);omega))
    have ew:IntKind.i64.wrap (q - 1)=q - 1:=sn0 (by (first | omega | ((try simp only[nc] at *);(try simp only[Int.ofNat_eq_natCast] at *);omega))) (by (first | omega | ((try simp only[nc] at *);(try simp only[Int.ofNat_eq_natCast] at *);omega)))
    cbv
    refine⟨by simp only[dx0];rw[ew];(first | omega | ((try simp only[nc] at *);(try simp only[Int.ofNat_eq_natCast] at *);omega)),by simp only[dx0];simp only[ew,la',kw0];(first | omega | ((try simp only[nc] at *);(try simp only[Int.ofNat_eq_natCast] at *);omega)),?_⟩
    cbv
    refine .map hml (by simp only[lc0,kw0,dx0];rw[ew];(first | omega | ((try simp only[nc] at *);(try simp only[Int.ofNat_eq_natCast] at *);omega))) fun v hv=>?_
    simp only[lc0,kw0,dx0] at hv
    rw[ew] at hv
    have hv2:l[(k+q).toNat - 1]?=some v:=by rw[← hv,← hget _ (by (first | omega | ((try simp only[nc] at *);(try simp only[Int.ofNat_eq_natCast] at *);omega)))];congr 1;(first | omega | ((try simp only[nc] at *);(try simp only[Int.ofNat_eq_natCast] at *);omega))
    cbv
    refine brk (fun h5=>?_) (fun h5=>?_)
    ·simp only[x_eq,x_not,Bool.not_eq_true',decide_eq_false_iff_not] at h5
     cbv
     refine⟨by (first | omega | ((try simp only[nc] at *);(try simp only[Int.ofNat_eq_natCast] at *);omega)),by simp only[la',kw0];(first | omega | ((try simp only[nc] at *);(try simp only[Int.ofNat_eq_natCast] at *);omega)),?_⟩
     cbv
     refine .map hml (by simp only[lc0,kw0];(first | omega | ((try simp only[nc] at *);(try simp only[Int.ofNat_eq_natCast] at *);omega))) fun u' hu'=>?_
     simp only[lc0,kw0] at hu'
     rw[hu] at hu';cases hu'
     cbv
     refine⟨by (first | omega | ((try simp only[nc] at *);(try simp only[Int.ofNat_eq_natCast] at *);omega)),by rw[la'];(first | omega | ((try simp only[nc] at *);(try simp only[Int.ofNat_eq_natCast] at *);omega)),?_⟩
     cbv
     refine .map hml (by simp only[kw0];(first | omega | ((try simp only[nc] at *);(try simp only[Int.ofNat_eq_natCast] at *);omega))) fun z hz=>?_
     cbv
     refine hKn2 _ _ (.mtn [0] ?_) ?_ ?_
     ·(cbv;repeat (refine⟨rfl,?_⟩;cbv))
     ·simp only[iAt,zo0,rAt,qm0,x_add,x_set,kw0]
      rw[sn0 (by (first | omega | ((try simp only[nc] at *);(try simp only[Int.ofNat_eq_natCast] at *);omega))) (by (first | omega | ((try simp only[nc] at *);(try simp only[Int.ofNat_eq_natCast] at *);omega))),sn0 (by (first | omega | ((try simp only[nc] at *);(try simp only[Int.ofNat_eq_natCast] at *);omega))) (by (first | omega | ((try simp only[nc] at *);(try simp only[Int.ofNat_eq_natCast] at *);omega)))]
      refine⟨ml.set p.toNat u,?_,by rw[List.length_set];exact hmlen,by (first | omega | ((try simp only[nc] at *);(try simp only[Int.ofNat_eq_natCast] at *);omega)),by (first | omega | ((try simp only[nc] at *);(try simp only[Int.ofNat_eq_natCast] at *);omega)),by (first | omega | ((try simp only[nc] at *);(try simp only[Int.ofNat_eq_natCast] at *);omega)),by (first | omega | ((try simp only[nc] at *);(try simp only[Int.ofNat_eq_natCast] at *);omega)),?_,?_⟩
      ·rw[hml,List.map_set];rfl
      ·have hlt:p.toNat<ml.length:=by (first | omega | ((try simp only[nc] at *);(try simp only[Int.ofNat_eq_natCast] at *);omega))
       have hg:(ml.set p.toNat u)[p.toNat]?=some u:=by simp[hlt]
       rw[show (k+(q+1)).toNat=(k+q).toNat+1 by (first | omega | ((try simp only[nc] at *);(try simp only[Int.ofNat_eq_natCast] at *);omega)),show (p+1).toNat=p.toNat+1 by (first | omega | ((try simp only[nc] at *);(try simp only[Int.ofNat_eq_natCast] at *);omega)),cmpTo_new hu2 hv2 h5,vg0 hg,List.take_set_of_le (Nat.le_refl _),hmt]
      ·rw[List.drop_set_of_lt (by (first | omega | ((try simp only[nc] at *);(try simp only[Int.ofNat_eq_natCast] at *);omega))),show (k+(q+1) - 1).toNat=(k+q - 1).toNat+1 by (first | omega | ((try simp only[nc] at *);(try simp only[Int.ofNat_eq_natCast] at *);omega)),← List.drop_drop,hmd,List.drop_drop]
     ·simp only[iAt,zo0,x_add]
      rw[sn0 (by (first | omega | ((try simp only[nc] at *);(try simp only[Int.ofNat_eq_natCast] at *);omega))) (by (first | omega | ((try simp only[nc] at *);(try simp only[Int.ofNat_eq_natCast] at *);omega)))]
      (first | omega | ((try simp only[nc] at *);(try simp only[Int.ofNat_eq_natCast] at *);omega))
    ·simp only[x_eq,x_not,Bool.not_eq_false',decide_eq_true_eq] at h5
     cbv
     refine hKn2 _ _ (.mtn [0] ?_) ?_ ?_
     ·(cbv;repeat (refine⟨rfl,?_⟩;cbv))
     ·simp only[iAt,zo0,rAt,qm0,x_add]
      rw[sn0 (by (first | omega | ((try simp only[nc] at *);(try simp only[Int.ofNat_eq_natCast] at *);omega))) (by (first | omega | ((try simp only[nc] at *);(try simp only[Int.ofNat_eq_natCast] at *);omega)))]
      refine⟨ml,hml,hmlen,by (first | omega | ((try simp only[nc] at *);(try simp only[Int.ofNat_eq_natCast] at *);omega)),by (first | omega | ((try simp only[nc] at *);(try simp only[Int.ofNat_eq_natCast] at *);omega)),by (first | omega | ((try simp only[nc] at *);(try simp only[Int.ofNat_eq_natCast] at *);omega)),by (first | omega | ((try simp only[nc] at *);(try simp only[Int.ofNat_eq_natCast] at *);omega)),?_,?_⟩
      ·rw[show (k+(q+1)).toNat=(k+q).toNat+1 by (first | omega | ((try simp only[nc] at *);(try simp only[Int.ofNat_eq_natCast] at *);omega)),mc0 (by (first | omega | ((try simp only[nc] at *);(try simp only[Int.ofNat_eq_natCast] at *);omega))) hu2 hv2 h5,hmt]
      ·rw[show (k+(q+1) - 1).toNat=(k+q - 1).toNat+1 by (first | omega | ((try simp only[nc] at *);(try simp only[Int.ofNat_eq_natCast] at *);omega)),← List.drop_drop,hmd,List.drop_drop]
     ·simp only[iAt,zo0,x_add]
      rw[sn0 (by (first | omega | ((try simp only[nc] at *);(try simp only[Int.ofNat_eq_natCast] at *);omega))) (by (first | omega | ((try simp only[nc] at *);(try simp only[Int.ofNat_eq_natCast] at *);omega)))]
      (first | omega | ((try simp only[nc] at *);(try simp only[Int.ofNat_eq_natCast] at *);omega))
   ·simp only[x_lt,x_lenR,kw0,la',decide_eq_false_iff_not] at h3
    have hpl:p.toNat≤es'.length:=by (first | omega | ((try simp only[nc] at *);(try simp only[Int.ofNat_eq_natCast] at *);omega))
    cbv
    refine .own ?_
    cbv
    refine⟨hp0,by rw[la'];(first | omega | ((try simp only[nc] at *);(try simp only[Int.ofNat_eq_natCast] at *);omega)),?_⟩
    cbv
    refine⟨by simp only[kw0];exact hpl,?_⟩
    cbv
    refine .own ?_
    cbv
    refine⟨hp0,?_,?_⟩
    ·simp only[x_clr,kw0,List.length_append,List.length_take,List.length_replicate]
     (first | omega | ((try simp only[nc] at *);(try simp only[Int.ofNat_eq_natCast] at *);omega))
    cbv
    refine hK _ _ (slE ?_)
    simp only[x_take,x_clr,kw0]
    rw[List.take_append_of_le_length (by rw[List.length_take];omega),List.take_take,Nat.min_self,hml,← List.map_take,hmt,fr0]
    congr 2
    (first | omega | ((try simp only[nc] at *);(try simp only[Int.ofNat_eq_natCast] at *);omega))
  ·simp only[x_eq,decide_eq_false_iff_not] at h2
   cbv
   refine hKn _ _ (.mtn [0] ?_) ?_ ?_
   ·(cbv;repeat (refine⟨rfl,?_⟩;cbv))
   ·simp only[iAt,zo0,x_add]
    rw[sn0 (by (first | omega | ((try simp only[nc] at *);(try simp only[Int.ofNat_eq_natCast] at *);omega))) (by (first | omega | ((try simp only[nc] at *);(try simp only[Int.ofNat_eq_natCast] at *);omega))),toNat_succ (by (first | omega | ((try simp only[nc] at *);(try simp only[Int.ofNat_eq_natCast] at *);omega)))]
    refine⟨by (first | omega | ((try simp only[nc] at *);(try simp only[Int.ofNat_eq_natCast] at *);omega)),by (first | omega | ((try simp only[nc] at *);(try simp only[Int.ofNat_eq_natCast] at *);omega)),?_⟩
    rw[cmpTo_new hx hy h2,hk3,vg0 hx]
   ·simp only[iAt,zo0,x_add]
    rw[sn0 (by (first | omega | ((try simp only[nc] at *);(try simp only[Int.ofNat_eq_natCast] at *);omega))) (by (first | omega | ((try simp only[nc] at *);(try simp only[Int.ofNat_eq_natCast] at *);omega)))]
    (first | omega | ((try simp only[nc] at *);(try simp only[Int.ofNat_eq_natCast] at *);omega))
 ·simp only[x_lt,x_len,la,decide_eq_false_iff_not] at h1
  cbv
  refine hK _ _ (slE ?_)
  have e1:k.toNat=l.length:=by (first | omega | ((try simp only[nc] at *);(try simp only[Int.ofNat_eq_natCast] at *);omega))
  rw[hes,fr0,← e1,hk3,e1,List.take_length]
omit hP in
theorem W_dI (l:List Int):W eIi64 l=l.map dI:=by rw[dl0];rfl
noncomputable def compG (l:List Int):Option (List Int):=if l.length≤1000000000 then some (fr0 l) else none
theorem slices_Compact_R (l r:List Int)(h:compG l=some r) :
  SCall P 58 [.row 3 1 (W eIi64 l)] [.hd 0] (fun sv own'=>sv=.d (.sl (W eIi64 r))∧own'=[.gone]):=by
 unfold compG at h
 split at h
 ·rename_i hl
  cases h
  rw[W_dI,W_dI]
  exact compactR0 hP rfl hl
 ·cases h
end Go.SX.Td
namespace Go.SX.Td
open Go Go.SX Go.Proofs
set_option maxRecDepth 100000
noncomputable def ref12_Limits_l2 (high1:(List Int)):((A10 Range)×Int)→Option (((A10 Range)×Int) ⊕ ((A10 Range)))
 | (z3,i4) =>
 bif (io.lt i4 (io.len (W eIi64 high1))) then (
 Option.bind (
 Option.bind (rixG high1 i4) fun i6 =>
 Option.bind (high1[i6]?) fun v7 =>
 Option.bind (pixG 10 i4) fun ix8 =>
 some (z3.put ix8 (Range.mk (z3.get ix8).Lo v7))
 ) fun z5 =>
 some (.inl (z5,(io.ar .add .i64 i4 1)))
 ) else (
 some (.inr z3)
 )
noncomputable def ref12_Limits_g : Option ((A10 Range)) :=
 Option.bind (some [1000000000,150,1,19,7,319,3,3,12,100]) fun high1 =>
 Option.bind (
 whileG (ref12_Limits_l2 high1) ((A10.mk (Range.mk 0 0) (Range.mk 0 0) (Range.mk 0 0) (Range.mk 0 0) (Range.mk 0 0) (Range.mk 0 0) (Range.mk 0 0) (Range.mk 0 0) (Range.mk 0 0) (Range.mk 0 0)),0)
 ) fun z2 =>
 some (A10.mk z2.a0 z2.a1 z2.a2 z2.a3 z2.a4 z2.a5 z2.a6 z2.a7 (Range.mk 1 z2.a8.Hi) z2.a9)
end Go.SX.Td
namespace Go.SX.Td
open Go Go.SX Go.Proofs
set_option maxRecDepth 100000
noncomputable def ref14_Few_l2 (p:Policy):(Int×Int)→Option ((Int×Int) ⊕ ((Int) ⊕ (Bool)))
 | (zones2,i3) =>
 bif (io.lt i3 (io.len (W eRule p.Rules))) then (
 Option.bind (idxG p.Rules i3) fun x4 =>
 Option.bind (idxG p.Rules i3) fun x5 =>
 bif (io.lt 60 (io.ssz x5.Name)) then (
 some (.inr (.inr false))
 ) else (
 some (.inl ((io.ar .add .i64 zones2 (io.len (W eA10Range x4.Zones))),(io.ar .add .i64 i3 1)))
 )
 ) else (
 some (.inr (.inl zones2))
 )
noncomputable def ref14_Few_g (p:Policy):Option (Bool) :=
 orR (
 whileG (ref14_Few_l2 p) (0,0)
 ) fun zones1 =>
 bif (io.le (io.len (W eRule p.Rules)) 8) then (
 some (io.le zones1 10)
 ) else (
 some false
 )
end Go.SX.Td
namespace Go.SX.Td
open Go Go.SX Go.Proofs
set_option maxRecDepth 100000
noncomputable def tbuild_l14 (v31:(A2 Int))(attr:Int)(limits:(A10 Range)):((List Int)×Int)→Option (((List Int)×Int) ⊕ ((List Int)))
 | (starts35,v36) =>
  bif (io.lt v36 2) then (
   Option.bind (
    Option.bind (
     Option.bind (pixG 2 v36) fun i39 =>
     some (v31.get i39)
     ) fun c38 =>
    Option.bind (
     Option.bind (pixG 10 attr) fun i41 =>
     bif (io.lt (limits.get i41).Lo c38) then (
      some (io.le c38 (limits.get i41).Hi)
     ) else (
      some false
     )
     ) fun v40 =>
    bif v40 then (
     Option.bind (some [c38]) fun l42 =>
     Option.bind (appG starts35 l42) fun starts43 =>
     some starts43
    ) else (
     some starts35
    )
    ) fun starts37 =>
   some (.inl (starts37,(io.ar .add .i64 v36 1)))
  ) else (
   some (.inr starts35)
  )
noncomputable def tbuild_l12 (live:(List Int))(zones:(List (A10 Range)))(attr:Int)(limits:(A10 Range)):((List Int)×Int)→Option (((List Int)×Int) ⊕ ((List Int)))
 | (starts27,v28) =>
  bif (io.lt v28 (io.len (W eIi64 live))) then (
   Option.bind (
    Option.bind (idxG live v28) fun x30 =>
    Option.bind (
     Option.bind (idxG zones x30) fun x32 =>
     Option.bind (pixG 10 attr) fun i33 =>
     Option.bind (idxG zones x30) fun x34 =>
     some (A2.mk (x32.get i33).Lo (io.ar .add .i64 (x34.get i33).Hi 1))
     ) fun v31 =>
    whileG (tbuild_l14 v31 attr limits) (starts27,0)
    ) fun starts29 =>
   some (.inl (starts29,(io.ar .add .i64 v28 1)))
  ) else (
   some (.inr starts27)
  )
noncomputable def tbuild_l40 (live:(List Int))(zones:(List (A10 Range)))(attr:Int)(x73:Int):((List Int)×Int)→Option (((List Int)×Int) ⊕ ((List Int)))
 | (next77,v78) =>
  bif (io.lt v78 (io.len (W eIi64 live))) then (
   Option.bind (
    Option.bind (idxG live v78) fun x80 =>
    Option.bind (
     Option.bind (idxG zones x80) fun x83 =>
     Option.bind (pixG 10 attr) fun i84 =>
     some ((x83.get i84).Lo,(x83.get i84).Hi)
     ) fun (Lo81,Hi82) =>
    Option.bind (
     bif (io.le Lo81 x73) then (
      some (io.le x73 Hi82)
     ) else (
      some false
     )
     ) fun v85 =>
    bif v85 then (
     Option.bind (some [x80]) fun l86 =>
     Option.bind (appG next77 l86) fun next87 =>
     some next87
    ) else (
     some next77
    )
    ) fun next79 =>
   some (.inl (next79,(io.ar .add .i64 v78 1)))
  ) else (
   some (.inr next77)
  )
noncomputable def tbuild_l36 (v54:Int)(v53:(List Int))(attr:Int)(live:(List Int))(zones:(List (A10 Range)))(rec:(Int→(List Int)→(A10 Int)→(List Node)→(List Decision)→(List (ByteArray×Int))→(List (ByteArray×Int))→(List (Decision×Int))→Option (Int×(List Node)×(List Decision)×(List (ByteArray×Int))×(List (ByteArray×Int))×(List (Decision×Int))))):((List Node)×(List Decision)×(List (ByteArray×Int))×(List (ByteArray×Int))×(List (Decision×Int))×(A10 Int)×(List Int)×(List Int)×Int)→Option (((List Node)×(List Decision)×(List (ByteArray×Int))×(List (ByteArray×Int))×(List (Decision×Int))×(A10 Int)×(List Int)×(List Int)×Int) ⊕ ((List Node)×(List Decision)×(List (ByteArray×Int))×(List (ByteArray×Int))×(List (Decision×Int))×(List Int)×(List Int)))
 | (nodes56,leaves57,own58,own59,own60,f61,Cuts62,Kids63,v64) =>
  bif (io.lt v64 v54) then (
   Option.bind (
    Option.bind (idxG v53 v64) fun x73 =>
    Option.bind (
     Option.bind (pixG 10 attr) fun i75 =>
     some (f61.put i75 x73)
     ) fun f74 =>
    Option.bind (
     whileG (tbuild_l40 live zones attr x73) ([],0)
     ) fun next76 =>
    Option.bind (
     Option.bind (rec (io.ar .add .i64 attr 1) next76 f74 nodes56 leaves57 own58 own59 own60) fun r94 =>
     some (r94.2.1,r94.2.2.1,r94.2.2.2.1,r94.2.2.2.2.1,r94.2.2.2.2.2,r94.1)
     ) fun (nodes88,leaves89,own90,own91,own92,kid93) =>
    Option.bind (
     bif (io.lt 0 v64) then (
      Option.bind (rixG Kids63 (io.ar .sub .i64 (io.len (W eIi64 Kids63)) 1)) fun i96 =>
      Option.bind (Kids63[i96]?) fun v97 =>
      some (io.eq v97 kid93)
     ) else (
      some false
     )
     ) fun v95 =>
    bif v95 then (
     some (nodes88,leaves89,own90,own91,own92,f74,Cuts62,Kids63)
    ) else (
     Option.bind (
      bif (io.lt 0 v64) then (
       Option.bind (some [x73]) fun l99 =>
       Option.bind (appG Cuts62 l99) fun l100 =>
       some l100
      ) else (
       some Cuts62
      )
      ) fun Cuts98 =>
     Option.bind (some [kid93]) fun l101 =>
     Option.bind (appG Kids63 l101) fun l102 =>
     some (nodes88,leaves89,own90,own91,own92,f74,Cuts98,l102)
    )
    ) fun (nodes65,leaves66,own67,own68,own69,f70,Cuts71,Kids72) =>
   some (.inl (nodes65,leaves66,own67,own68,own69,f70,Cuts71,Kids72,(io.ar .add .i64 v64 1)))
  ) else (
   some (.inr (nodes56,leaves57,own58,own59,own60,Cuts62,Kids63))
  )
noncomputable def tbuild_b (rules:(List Rule))(limits:(A10 Range))(zones:(List (A10 Range)))(rec:(Int→(List Int)→(A10 Int)→(List Node)→(List Decision)→(List (ByteArray×Int))→(List (ByteArray×Int))→(List (Decision×Int))→Option (Int×(List Node)×(List Decision)×(List (ByteArray×Int))×(List (ByteArray×Int))×(List (Decision×Int)))))(attr:Int)(live:(List Int))(f:(A10 Int))(nodes:(List Node))(leaves:(List Decision))(kn:(List (ByteArray×Int)))(made:(List (ByteArray×Int)))(leaf:(List (Decision×Int))):Option (Int×(List Node)×(List Decision)×(List (ByteArray×Int))×(List (ByteArray×Int))×(List (Decision×Int))) :=
 bif (io.eq attr 10) then (
  Option.bind (decide_Decide_g (Policy.mk rules) f) fun v1 =>
  Option.bind (
   optG (mlook leaf v1) (fun y4 =>
    bif (io.not true) then (
     Option.bind (some (mputG leaf v1 (io.len (W eDecision leaves)))) fun m5 =>
     Option.bind (some [v1]) fun l6 =>
     Option.bind (appG leaves l6) fun l7 =>
     some (l7,m5)
    ) else (
     some (leaves,leaf)
    )
   ) (
    bif (io.not false) then (
     Option.bind (some (mputG leaf v1 (io.len (W eDecision leaves)))) fun m8 =>
     Option.bind (some [v1]) fun l9 =>
     Option.bind (appG leaves l9) fun l10 =>
     some (l10,m8)
    ) else (
     some (leaves,leaf)
    )
   )
   ) fun (leaves2,own3) =>
  Option.bind (some (mlookD own3 v1 0)) fun y11 =>
  Option.bind (some [0,y11]) fun l12 =>
  Option.bind (some [[],[],l12]) fun l13 =>
  Option.bind (table_text_g l13) fun v14 =>
  optG (mlook kn v14) (fun y15 =>
   some (y15,nodes,leaves2,kn,made,own3)
  ) (
   Option.bind (some [(Node.mk 0 [] [] y11)]) fun l16 =>
   Option.bind (appG nodes l16) fun l17 =>
   Option.bind (some (mputG kn v14 (io.ar .sub .i64 (io.len (W eNode l17)) 1))) fun m18 =>
   some ((io.ar .sub .i64 (io.len (W eNode l17)) 1),l17,leaves2,m18,made,own3)
  )
 ) else (
  Option.bind (some [attr]) fun l19 =>
  Option.bind (some [live,l19]) fun l20 =>
  Option.bind (table_text_g l20) fun key21 =>
  optG (mlook made key21) (fun y22 =>
   Option.bind (
    some ()
    ) fun _ =>
   some (y22,nodes,leaves,kn,made,leaf)
  ) (
   Option.bind (
    some ()
    ) fun _ =>
   bif (io.lt 20000 (io.len (W eNode nodes))) then (
    some (0,nodes,leaves,kn,made,leaf)
   ) else (
    Option.bind (
     Option.bind (pixG 10 attr) fun i24 =>
     Option.bind (some [(limits.get i24).Lo]) fun starts25 =>
     some starts25
     ) fun starts23 =>
    Option.bind (
     whileG (tbuild_l12 live zones attr limits) (starts23,0)
     ) fun starts26 =>
    Option.bind (
     Option.bind (sortG starts26) fun l45 =>
     some l45
     ) fun starts44 =>
    Option.bind (
     Option.bind (
      Option.bind (compG starts44) fun l55 =>
      some (l55,(io.len (W eIi64 l55)))
      ) fun (v53,v54) =>
     whileG (tbuild_l36 v54 v53 attr live zones rec) (nodes,leaves,kn,made,leaf,f,[],[],0)
     ) fun (nodes46,leaves47,own48,own49,own50,Cuts51,Kids52) =>
    Option.bind (rixG Kids52 0) fun i103 =>
    Option.bind (Kids52[i103]?) fun v104 =>
    Option.bind (
     bif (io.lt 1 (io.len (W eIi64 Kids52))) then (
      Option.bind (some [attr,0]) fun l108 =>
      Option.bind (some [Cuts51,Kids52,l108]) fun l109 =>
      Option.bind (table_text_g l109) fun v110 =>
      optG (mlook own48 v110) (fun y111 =>
       some (nodes46,own48,y111)
      ) (
       Option.bind (some [(Node.mk attr Cuts51 Kids52 0)]) fun l112 =>
       Option.bind (appG nodes46 l112) fun l113 =>
       Option.bind (some (mputG own48 v110 (io.ar .sub .i64 (io.len (W eNode l113)) 1))) fun m114 =>
       some (l113,m114,(io.ar .sub .i64 (io.len (W eNode l113)) 1))
      )
     ) else (
      some (nodes46,own48,v104)
     )
     ) fun (nodes105,own106,out107) =>
    Option.bind (some (mputG own49 key21 out107)) fun m115 =>
    some (out107,nodes105,leaves47,own106,m115,own50)
   )
  )
 )
noncomputable def tbuild (rules:(List Rule))(limits:(A10 Range))(zones:(List (A10 Range))):Nat→Int→(List Int)→(A10 Int)→(List Node)→(List Decision)→(List (ByteArray×Int))→(List (ByteArray×Int))→(List (Decision×Int))→Option (Int×(List Node)×(List Decision)×(List (ByteArray×Int))×(List (ByteArray×Int))×(List (Decision×Int)))
 | 0,_,_,_,_,_,_,_,_=>none
 | n+1,attr,live,f,nodes,leaves,kn,made,leaf=>tbuild_b rules limits zones (tbuild rules limits zones n) attr live f nodes leaves kn made leaf
end Go.SX.Td
namespace Go.SX.Td
open Go Go.SX Go.Proofs
set_option maxRecDepth 100000
noncomputable def walkT_l1 (v9:Node)(rec:(Int→(List (Int×Bool))→(List Int)→(List (Int×Int))→Option ((List (Int×Bool))×(List Int)×(List (Int×Int))))):((List (Int×Bool))×(List Int)×(List (Int×Int))×Int)→Option (((List (Int×Bool))×(List Int)×(List (Int×Int))×Int) ⊕ ((List (Int×Bool))×(List Int)×(List (Int×Int))))
 | (own10,c11,own12,v13) =>
  bif (io.lt v13 (io.len (W eIi64 v9.Kids))) then (
   Option.bind (
    Option.bind (idxG v9.Kids v13) fun x17 =>
    Option.bind (rec x17 own10 c11 own12) fun r18 =>
    some (r18.1,r18.2.1,r18.2.2)
    ) fun (own14,c15,own16) =>
   some (.inl (own14,c15,own16,(io.ar .add .i64 v13 1)))
  ) else (
   some (.inr (own10,c11,own12))
  )
noncomputable def walkT_b (nodes:(List Node))(rec:(Int→(List (Int×Bool))→(List Int)→(List (Int×Int))→Option ((List (Int×Bool))×(List Int)×(List (Int×Int)))))(at0:Int)(seen:(List (Int×Bool)))(ord:(List Int))(number:(List (Int×Int))):Option ((List (Int×Bool))×(List Int)×(List (Int×Int))) :=
 Option.bind (some (mlookD seen at0 false)) fun y1 =>
 bif y1 then (
  some (seen,ord,number)
 ) else (
  Option.bind (some (mputG seen at0 true)) fun m2 =>
  Option.bind (
   Option.bind (some (mputG number at0 (io.len (W eIi64 ord)))) fun m5 =>
   Option.bind (some [at0]) fun l6 =>
   Option.bind (appG ord l6) fun l7 =>
   some (l7,m5)
   ) fun (c3,own4) =>
  Option.bind (rixG nodes at0) fun ix8 =>
  Option.bind (nodes[ix8]?) fun v9 =>
  whileG (walkT_l1 v9 rec) (m2,c3,own4,0)
 )
noncomputable def walkT (nodes:(List Node)):Nat→Int→(List (Int×Bool))→(List Int)→(List (Int×Int))→Option ((List (Int×Bool))×(List Int)×(List (Int×Int)))
 | 0,_,_,_,_=>none
 | n+1,at0,seen,ord,number=>walkT_b nodes (walkT nodes n) at0 seen ord number
end Go.SX.Td
namespace Go.SX.Td
open Go Go.SX Go.Proofs
set_option maxRecDepth 100000
noncomputable def table_Build_l2 (p:Policy):((List (A10 Range))×Int)→Option (((List (A10 Range))×Int) ⊕ ((List (A10 Range))))
 | (zones4,v5) =>
 bif (io.lt v5 (io.len (W eRule p.Rules))) then (
 Option.bind (idxG p.Rules v5) fun x6 =>
 Option.bind (appG zones4 x6.Zones) fun l7 =>
 some (.inl (l7,(io.ar .add .i64 v5 1)))
 ) else (
 some (.inr zones4)
 )
noncomputable def table_Build_l4 (l8:(List Int)):((List Int)×Int)→Option (((List Int)×Int) ⊕ ((List Int)))
 | (all10,v11) =>
 bif (io.lt v11 (io.len (W eIi64 l8))) then (
 Option.bind (rixG all10 v11) fun i12 =>
 Option.bind (updG all10 i12 fun y13=>v11) fun l14 =>
 some (.inl (l14,(io.ar .add .i64 v11 1)))
 ) else (
 some (.inr all10)
 )
noncomputable def table_Build_l30 (v35:Node)(number22:(List (Int×Int))):((List Int)×Int)→Option (((List Int)×Int) ⊕ ((List Int)))
 | (Kids42,v43) =>
 bif (io.lt v43 (io.len (W eIi64 v35.Kids))) then (
 Option.bind (idxG v35.Kids v43) fun x44 =>
 Option.bind (some (mlookD number22 x44 0)) fun y45 =>
 Option.bind (some [y45]) fun l46 =>
 Option.bind (appG Kids42 l46) fun l47 =>
 some (.inl (l47,(io.ar .add .i64 v43 1)))
 ) else (
 some (.inr Kids42)
 )
noncomputable def table_Build_l26 (order23:(List Int))(nodes15:(List Node))(leaves16:(List Decision))(number22:(List (Int×Int))):((List Node)×(List Decision)×Int)→Option (((List Node)×(List Decision)×Int) ⊕ ((List Node)×(List Decision)))
 | (Nodes27,Leaves28,v29) =>
 bif (io.lt v29 (io.len (W eIi64 order23))) then (
 Option.bind (
 Option.bind (rixG order23 v29) fun ix32 =>
 Option.bind (order23[ix32]?) fun v33 =>
 Option.bind (rixG nodes15 v33) fun i34 =>
 Option.bind (nodes15[i34]?) fun v35 =>
 Option.bind (
 bif (io.eq (io.len (W eIi64 v35.Kids)) 0) then (
 Option.bind (idxG leaves16 v35.Leaf) fun x38 =>
 Option.bind (some [x38]) fun l39 =>
 Option.bind (appG Leaves28 l39) fun l40 =>
 some (l40,(io.ar .sub .i64 (io.len (W eDecision l40)) 1))
 ) else (
 some (Leaves28,v35.Leaf)
 )
 ) fun (Leaves36,Leaf37) =>
 Option.bind (
 whileG (table_Build_l30 v35 number22) ([],0)
 ) fun Kids41 =>
 Option.bind (some [(Node.mk v35.Attr v35.Cuts Kids41 Leaf37)]) fun l48 =>
 Option.bind (appG Nodes27 l48) fun l49 =>
 some (l49,Leaves36)
 ) fun (Nodes30,Leaves31) =>
 some (.inl (Nodes30,Leaves31,(io.ar .add .i64 v29 1)))
 ) else (
 some (.inr (Nodes27,Leaves28))
 )
noncomputable def table_Build_g (p:Policy):Option (Table×Int) :=
 Option.bind (decide_Valid_g p) fun v1 =>
 bif (io.not v1) then (
 some ((Table.mk [] []),1)
 ) else (
 Option.bind (resolve_Limits_g) fun v2 =>
 Option.bind (
 whileG (table_Build_l2 p) ([],0)
 ) fun zones3 =>
 Option.bind (mksG (io.len (W eA10Range zones3)) (0:Int)) fun l8 =>
 Option.bind (
 whileG (table_Build_l4 l8) (l8,0)
 ) fun all9 =>
 Option.bind (
 Option.bind (tbuild p.Rules v2 zones3 11 0 all9 (A10.mk 0 0 0 0 0 0 0 0 0 0) ([]:(List Node)) ([]:(List Decision)) ([]:(List (ByteArray×Int))) ([]:(List (ByteArray×Int))) ([]:(List (Decision×Int)))) fun r21 =>
 some (r21.2.1,r21.2.2.1,r21.2.2.2.1,r21.2.2.2.2.1,r21.2.2.2.2.2,r21.1)
 ) fun (nodes15,leaves16,known17,made18,leaf19,root20) =>
 bif (io.lt 20000 (io.len (W eNode nodes15))) then (
 some ((Table.mk [] []),3)
 ) else (
 Option.bind (
 Option.bind (walkT nodes15 11 root20 ([]:(List (Int×Bool))) ([]:(List Int)) ([]:(List (Int×Int)))) fun r24 =>
 some (r24.2.2,r24.2.1)
 ) fun (number22,order23) =>
 Option.bind (
 whileG (table_Build_l26 order23 nodes15 leaves16 number22) ([],[],0)
 ) fun (Nodes25,Leaves26) =>
 some ((Table.mk Nodes25 Leaves26),0)
 )
 )
end Go.SX.Td
namespace Go.SX.Td
open Go Go.SX Go.Proofs
set_option maxRecDepth 100000
noncomputable def ref11_Ints_l2 (a:(List Int))(b:(List Int)):Int→Option ((Int) ⊕ ((Unit) ⊕ (Bool)))
 | i1 =>
 bif (io.lt i1 (io.len (W eIi64 a))) then (
 Option.bind (idxG a i1) fun x2 =>
 Option.bind (idxG b i1) fun x3 =>
 bif (io.not (io.eq x2 x3)) then (
 some (.inr (.inr false))
 ) else (
 some (.inl (io.ar .add .i64 i1 1))
 )
 ) else (
 some (.inr (.inl ()))
 )
noncomputable def ref11_Ints_g (a:(List Int))(b:(List Int)):Option (Bool) :=
 bif (io.not (io.eq (io.len (W eIi64 a)) (io.len (W eIi64 b)))) then (
 some false
 ) else (
 orR (
 whileG (ref11_Ints_l2 a b) 0
 ) fun _ =>
 some true
 )
end Go.SX.Td
namespace Go.SX.Td
open Go Go.SX Go.Proofs
set_option maxRecDepth 100000
noncomputable def ref14_Equal_g (a:Node)(b:Node):Option (Bool) :=
 bif (io.eq a.Attr b.Attr) then (
 bif (io.eq a.Leaf b.Leaf) then (
 Option.bind (ref11_Ints_g a.Cuts b.Cuts) fun v1 =>
 bif v1 then (
 Option.bind (ref11_Ints_g a.Kids b.Kids) fun v2 =>
 some v2
 ) else (
 some false
 )
 ) else (
 some false
 )
 ) else (
 some false
 )
end Go.SX.Td
namespace Go.SX.Td
open Go Go.SX Go.Proofs
set_option maxRecDepth 100000
noncomputable def ref14_Same_l2 (a:Table)(b:Table):Int→Option ((Int) ⊕ ((Unit) ⊕ (Bool)))
 | i2 =>
 bif (io.lt i2 (io.len (W eNode a.Nodes))) then (
 Option.bind (idxG a.Nodes i2) fun x3 =>
 Option.bind (idxG b.Nodes i2) fun x4 =>
 Option.bind (ref14_Equal_g x3 x4) fun v5 =>
 bif (io.not v5) then (
 some (.inr (.inr false))
 ) else (
 some (.inl (io.ar .add .i64 i2 1))
 )
 ) else (
 some (.inr (.inl ()))
 )
noncomputable def ref14_Same_l4 (a:Table)(b:Table):Int→Option ((Int) ⊕ ((Unit) ⊕ (Bool)))
 | i6 =>
 bif (io.lt i6 (io.len (W eDecision a.Leaves))) then (
 Option.bind (idxG a.Leaves i6) fun x7 =>
 Option.bind (idxG b.Leaves i6) fun x8 =>
 bif (io.not (qDecision x7 x8)) then (
 some (.inr (.inr false))
 ) else (
 some (.inl (io.ar .add .i64 i6 1))
 )
 ) else (
 some (.inr (.inl ()))
 )
noncomputable def ref14_Same_g (a:Table)(b:Table):Option (Bool) :=
 Option.bind (
 bif (io.not (io.eq (io.len (W eNode a.Nodes)) (io.len (W eNode b.Nodes)))) then (
 some true
 ) else (
 some (io.not (io.eq (io.len (W eDecision a.Leaves)) (io.len (W eDecision b.Leaves))))
 )
 ) fun v1 =>
 bif v1 then (
 some false
 ) else (
 orR (
 whileG (ref14_Same_l2 a b) 0
 ) fun _ =>
 orR (
 whileG (ref14_Same_l4 a b) 0
 ) fun _ =>
 some true
 )
end Go.SX.Td
