/- Parts of the proof. -/
import Derived.Test.YtllbabjgpdmblaaGreatDoorZTryzShelf
set_option linter.unusedSimpArgs false
set_option linter.unusedVariables false
set_option linter.unusedSectionVars false
namespace Go.SX.Td
open Go Go.SX Go.Proofs
set_option maxRecDepth 100000
def qo3 : List ah:=[
 ⟨(some 2),.mv (.const (.slice none 0 0)),none⟩]
def qi3 : List ah:=[
 ⟨(some 6),.mv (.tmp 0),none⟩,
 ⟨(some 7),.len false (.tmp 6),none⟩,
 ⟨(some 8),.bin .lss (.tmp 7) (.const (.int .i64 2)),none⟩]
def qe3 : List ah:=[
 ⟨(some 9),.mv (.tmp 0),none⟩,
 ⟨(some 2),.mv (.tmp 9),none⟩]
def qa3 : List ah:=[
 ⟨(some 3),.mv (.const (.int .i64 1)),none⟩]
def qr3 : List ah:=[
 ⟨(some 10),.mv (.tmp 3),none⟩,
 ⟨(some 11),.mv (.tmp 0),none⟩,
 ⟨(some 12),.len false (.tmp 11),none⟩,
 ⟨(some 13),.bin .lss (.tmp 10) (.tmp 12),none⟩]
def qn3 : List ah:=[
 ⟨(some 16),.mv (.tmp 0),none⟩,
 ⟨(some 17),.mv (.tmp 3),none⟩,
 ⟨(some 18),.aQ 1 (.tmp 16) (.tmp 17),none⟩,
 ⟨(some 19),.load 1 false (.tmp 18),none⟩,
 ⟨(some 20),.mv (.tmp 0),none⟩,
 ⟨(some 21),.mv (.tmp 3),none⟩,
 ⟨(some 22),.bin .sub (.tmp 21) (.const (.int .i64 1)),none⟩,
 ⟨(some 23),.aQ 1 (.tmp 20) (.tmp 22),none⟩,
 ⟨(some 24),.load 1 false (.tmp 23),none⟩,
 ⟨(some 25),.bin .eql (.tmp 19) (.tmp 24),none⟩]
def qs3 : List ah:=[
 ⟨(some 26),.mv (.tmp 0),none⟩,
 ⟨(some 27),.mv (.tmp 3),none⟩,
 ⟨(some 28),.slc 1 (.tmp 26) (some (.tmp 27)) none,none⟩,
 ⟨(some 4),.mv (.tmp 28),none⟩]
def qt3 : List ah:=[
 ⟨(some 5),.mv (.const (.int .i64 1)),none⟩]
def ql3 : List ah:=[
 ⟨(some 29),.mv (.tmp 5),none⟩,
 ⟨(some 30),.mv (.tmp 4),none⟩,
 ⟨(some 31),.len false (.tmp 30),none⟩,
 ⟨(some 32),.bin .lss (.tmp 29) (.tmp 31),none⟩]
def qd3 : List ah:=[
 ⟨(some 35),.mv (.tmp 4),none⟩,
 ⟨(some 36),.mv (.tmp 5),none⟩,
 ⟨(some 37),.aQ 1 (.tmp 35) (.tmp 36),none⟩,
 ⟨(some 38),.load 1 false (.tmp 37),none⟩,
 ⟨(some 39),.mv (.tmp 4),none⟩,
 ⟨(some 40),.mv (.tmp 5),none⟩,
 ⟨(some 41),.bin .sub (.tmp 40) (.const (.int .i64 1)),none⟩,
 ⟨(some 42),.aQ 1 (.tmp 39) (.tmp 41),none⟩,
 ⟨(some 43),.load 1 false (.tmp 42),none⟩,
 ⟨(some 44),.bin .neq (.tmp 38) (.tmp 43),none⟩]
def gu2 : List ah:=[
 ⟨(some 45),.mv (.tmp 0),none⟩,
 ⟨(some 46),.mv (.tmp 3),none⟩,
 ⟨(some 47),.mv (.tmp 4),none⟩,
 ⟨(some 48),.mv (.tmp 5),none⟩,
 ⟨(some 49),.aQ 1 (.tmp 47) (.tmp 48),none⟩,
 ⟨(some 50),.load 1 false (.tmp 49),none⟩,
 ⟨(some 51),.aQ 1 (.tmp 45) (.tmp 46),none⟩,
 ⟨none,.store 1 (.tmp 51) (.tmp 50),none⟩]
def gi2 : List ah:=[
 ⟨(some 52),.mv (.tmp 3),none⟩,
 ⟨(some 53),.bin .add (.tmp 52) (.const (.int .i64 1)),none⟩,
 ⟨(some 3),.mv (.tmp 53),none⟩]
def ge2 : List ah:=[
 ⟨(some 33),.mv (.tmp 5),none⟩,
 ⟨(some 34),.bin .add (.tmp 33) (.const (.int .i64 1)),none⟩,
 ⟨(some 5),.mv (.tmp 34),none⟩]
def fz2 : DC:=.seq (.seq (.reg ql3) (.cond (.tmp 32) (.skip) (.exit 2))) (.seq (.block 3 (.seq (.par true true true 9 qd3) (.cond (.tmp 44) (.seq (.reg gu2) (.reg gi2)) (.skip)))) (.reg ge2))
def ga2 : List ah:=[
 ⟨(some 54),.mv (.tmp 0),none⟩,
 ⟨(some 55),.mv (.tmp 3),none⟩,
 ⟨(some 56),.slc 1 (.tmp 54) (some (.tmp 55)) none,none⟩,
 ⟨none,.IU 1 (.int .i64 0) (.tmp 56),none⟩]
def gr2 : List ah:=[
 ⟨(some 57),.mv (.tmp 0),none⟩,
 ⟨(some 58),.mv (.tmp 3),none⟩,
 ⟨(some 59),.slc 1 (.tmp 57) none (some (.tmp 58)),none⟩,
 ⟨(some 2),.mv (.tmp 59),none⟩]
def gn2 : List ah:=[
 ⟨(some 14),.mv (.tmp 3),none⟩,
 ⟨(some 15),.bin .add (.tmp 14) (.const (.int .i64 1)),none⟩,
 ⟨(some 3),.mv (.tmp 15),none⟩]
def fq2 : DC:=.seq (.seq (.reg qr3) (.cond (.tmp 13) (.skip) (.exit 0))) (.seq (.block 1 (.seq (.par true true true 9 qn3) (.cond (.tmp 25) (.seq (.reg qs3) (.seq (.seq (.reg qt3) (.block 2 (.loop fz2))) (.seq (.reg ga2) (.seq (.reg gr2) (.ret))))) (.skip)))) (.reg gn2))
def gt2 : List ah:=[
 ⟨(some 60),.mv (.tmp 0),none⟩,
 ⟨(some 2),.mv (.tmp 60),none⟩]
def d58c : DC:=.seq (.reg qo3) (.seq (.seq (.reg qi3) (.cond (.tmp 8) (.seq (.reg qe3) (.ret)) (.skip))) (.seq (.seq (.reg qa3) (.block 0 (.loop fq2))) (.seq (.reg gt2) (.ret))))
def d58 : I9:=⟨61,d58c,[.tmp 2]⟩
theorem fx2 : fD Tryz.prog 35=some d58:=by kernel_rfl
theorem db0 {α:Type}{a:List α}{k:Nat}{x:α}(h:a[k]?=some x):a.take (k+1)=a.take k++[x]:=by
 rw[List.take_add_one,h];rfl
theorem sv1 {k:Int}(h:0<=k):(k+1).toNat=k.toNat+1:=by omega
def vT (l:List Int):Nat->List Int
 |0=>[]
 |k+1=>match l[k]? with
  |none=>vT l k
  |some x=>if k≠0/\l[k - 1]?=some x then vT l k else vT l k++[x]
def C9 (l:List Int):List Int:=vT l l.length
theorem U9 {l:List Int}{k:Nat}{x:Int}(h:l[k]?=some x):vT l (k+1)=if k≠0/\l[k - 1]?=some x then vT l k else vT l k++[x]:=by
 rw[vT,h]
theorem qf2 (l:List Int)(k:Nat):(vT l k).length<=k:=by
 induction k with
 |zero=>simp[vT]
 |succ k ih =>
  rw[vT]
  split
  ·omega
  ·split
   ·omega
   ·simp;omega
theorem ov0 {l:List Int}{k:Nat}{x y:Int}(h0:k≠0)(h:l[k]?=some x)(h':l[k - 1]?=some y)(he:x=y):vT l (k+1)=vT l k:=by
 rw[U9 h,if_pos ⟨h0,by rw[h',he]⟩]
theorem kj1 {l:List Int}{k:Nat}{x y:Int}(h:l[k]?=some x)(h':l[k - 1]?=some y)(he:x≠y):vT l (k+1)=vT l k++[x]:=by
 rw[U9 h,if_neg]
 rintro ⟨_,h2⟩
 rw[h'] at h2;cases h2;exact he rfl
variable {P:Program}(hP:P=Tryz.prog)
include hP
theorem tf1 {l:List Int}{es:List (List D)}(hes:es=l.map dI)(hl:l.length<=1000000000) :
  dX P 35 [.row 3 1 es] [.hd 0] (fun sv own'=>sv=.d (.sl ((C9 l).map dI))/\own'=[.gone]):=by
 refine .oc2 (hP▸fx2) rfl fun K hK=>?_
 have la:es.length=l.length:=by simp[hes]
 cbv
 refine brk (fun h=>?_) (fun h=>?_)
 ·simp only[x_lt,x_len,la,decide_eq_true_eq] at h
  cbv
  refine hK _ _ (ZI ?_)
  have:C9 l=l:=by
   match l,h with
   |[],_=>rfl
   |[x],_=>rfl
   |x::y::r,h=>simp at h;omega
  rw[this,hes]
 simp only[x_lt,x_len,la,decide_eq_false_iff_not] at h
 cbv
 refine .intro (ι:=Int) (fun k=>[.hd 0,.top,.top,.i k]++List.replicate 57 .top) (fun _=>[.row 3 1 es]) (fun env _=>Io env 3)
  (fun k=>1<=k/\k<=l.length/\vT l k.toNat=l.take k.toNat) (fun k=>l.length - k.toNat) 1 ?_ (.JK [0] ?_) fun k hk Kn hKn=>?_
 ·refine⟨Int.le_refl _,by (first|omega|((try simp only[nc] at *);(try simp only[Int.ofNat_eq_natCast] at *);omega)),?_⟩
  have hn0:0<l.length:=by (first|omega|((try simp only[nc] at *);(try simp only[Int.ofNat_eq_natCast] at *);omega))
  have hx:l[0]?=some l[0]:=List.getElem?_eq_getElem hn0
  show vT l 1=l.take 1
  rw[U9 hx,if_neg (by simp),db0 hx];rfl
 ·(cbv;repeat (refine⟨rfl,?_⟩;cbv))
 obtain⟨hk1,hk2,hk3⟩:=hk
 cbv
 refine brk (fun h1=>?_) (fun h1=>?_)
 ·simp only[x_lt,x_len,la,decide_eq_true_eq] at h1
  cbv
  refine⟨by (first|omega|((try simp only[nc] at *);(try simp only[Int.ofNat_eq_natCast] at *);omega)),by rw[la];exact h1,?_⟩
  cbv
  refine .map hes (by simp only[wO];(first|omega|((try simp only[nc] at *);(try simp only[Int.ofNat_eq_natCast] at *);omega))) fun x hx=>?_
  simp only[wO] at hx
  have ew:IntKind.i64.wrap (k - 1)=k - 1:=wE (by (first|omega|((try simp only[nc] at *);(try simp only[Int.ofNat_eq_natCast] at *);omega))) (by (first|omega|((try simp only[nc] at *);(try simp only[Int.ofNat_eq_natCast] at *);omega)))
  cbv
  refine⟨by simp only[JE];rw[ew];(first|omega|((try simp only[nc] at *);(try simp only[Int.ofNat_eq_natCast] at *);omega)),by simp only[JE];rw[ew,la];(first|omega|((try simp only[nc] at *);(try simp only[Int.ofNat_eq_natCast] at *);omega)),?_⟩
  cbv
  refine .map hes (by simp only[wO,JE];rw[ew];(first|omega|((try simp only[nc] at *);(try simp only[Int.ofNat_eq_natCast] at *);omega))) fun y hy=>?_
  simp only[wO,JE] at hy
  rw[ew] at hy
  have hy:l[k.toNat - 1]?=some y:=by rw[<- hy];congr 1;(first|omega|((try simp only[nc] at *);(try simp only[Int.ofNat_eq_natCast] at *);omega))
  cbv
  refine brk (fun h2=>?_) (fun h2=>?_)
  ·simp only[x_eq,decide_eq_true_eq] at h2
   cbv
   refine .own ?_
   cbv
   refine⟨by (first|omega|((try simp only[nc] at *);(try simp only[Int.ofNat_eq_natCast] at *);omega)),by rw[la];(first|omega|((try simp only[nc] at *);(try simp only[Int.ofNat_eq_natCast] at *);omega)),?_⟩
   cbv
   refine .intro (ι:=Int×Int×List (List D)) (fun q=>[.hd 0,.top,.top,.i q.1,.rs 0 1 ((Classical.choice zW).1.nat k),.i q.2.1]++List.replicate 55 .top) (fun q=>[.row 3 1 q.2.2]) (fun env own=>(Io env 3,Io env 5,ZX own 0))
    (fun q=>∃ ml:List Int,q.2.2=ml.map dI/\ml.length=l.length/\0<=q.1/\q.1+1<=k+q.2.1/\1<=q.2.1/\k+q.2.1<=l.length/\ml.take q.1.toNat=vT l (k+q.2.1).toNat/\ml.drop (k+q.2.1 - 1).toNat=l.drop (k+q.2.1 - 1).toNat)
    (fun q=>l.length - q.2.1.toNat) (k,1,es) ?_ (.JK [0] ?_) fun q hq Kn2 bg=>?_
   ·refine⟨l,hes,rfl,by (first|omega|((try simp only[nc] at *);(try simp only[Int.ofNat_eq_natCast] at *);omega)),by (first|omega|((try simp only[nc] at *);(try simp only[Int.ofNat_eq_natCast] at *);omega)),by (first|omega|((try simp only[nc] at *);(try simp only[Int.ofNat_eq_natCast] at *);omega)),by (first|omega|((try simp only[nc] at *);(try simp only[Int.ofNat_eq_natCast] at *);omega)),?_,rfl⟩
    have e1:(k+1).toNat=k.toNat+1:=by (first|omega|((try simp only[nc] at *);(try simp only[Int.ofNat_eq_natCast] at *);omega))
    rw[e1,ov0 (by (first|omega|((try simp only[nc] at *);(try simp only[Int.ofNat_eq_natCast] at *);omega))) hx hy h2,hk3]
   ·(cbv;repeat (refine⟨rfl,?_⟩;cbv))
   obtain⟨p,q,es'⟩:=q
   obtain⟨ml,hml,EZ,hp0,hpq,hq1,J3,hmt,hmd⟩:=hq
   dsimp only at hml hp0 hpq hq1 J3 hmt hmd
   have la':es'.length=l.length:=by rw[hml,List.length_map,EZ]
   have hget:∀ j:Nat,k+q - 1<=j->ml[j]?=l[j]?:=fun j hj=>by
    have:(ml.drop (k+q - 1).toNat)[j - (k+q - 1).toNat]?=(l.drop (k+q - 1).toNat)[j - (k+q - 1).toNat]?:=by rw[hmd]
    rw[List.getElem?_drop,List.getElem?_drop] at this
    rw[show (k+q - 1).toNat+(j - (k+q - 1).toNat)=j by omega] at this
    exact this
   cbv
   refine brk (fun h3=>?_) (fun h3=>?_)
   ·simp only[x_lt,wb2,wO,la',decide_eq_true_eq] at h3
    have h4:k+q<l.length:=by (first|omega|((try simp only[nc] at *);(try simp only[Int.ofNat_eq_natCast] at *);omega))
    cbv
    refine⟨by (first|omega|((try simp only[nc] at *);(try simp only[Int.ofNat_eq_natCast] at *);omega)),by simp only[la',wO];(first|omega|((try simp only[nc] at *);(try simp only[Int.ofNat_eq_natCast] at *);omega)),?_⟩
    cbv
    refine .map hml (by simp only[Qb,wO];(first|omega|((try simp only[nc] at *);(try simp only[Int.ofNat_eq_natCast] at *);omega))) fun u hu=>?_
    simp only[Qb,wO] at hu
    have hu2:l[(k+q).toNat]?=some u:=by rw[<- hu,<- hget _ (by (first|omega|((try simp only[nc] at *);(try simp only[Int.ofNat_eq_natCast] at *);omega)))];congr 1;(first|omega|((try simp only[nc] at *);(try simp only[Int.ofNat_eq_natCast] at *);omega))
    have ew:IntKind.i64.wrap (q - 1)=q - 1:=wE (by (first|omega|((try simp only[nc] at *);(try simp only[Int.ofNat_eq_natCast] at *);omega))) (by (first|omega|((try simp only[nc] at *);(try simp only[Int.ofNat_eq_natCast] at *);omega)))
    cbv
    refine⟨by simp only[JE];rw[ew];(first|omega|((try simp only[nc] at *);(try simp only[Int.ofNat_eq_natCast] at *);omega)),by simp only[JE];simp only[ew,la',wO];(first|omega|((try simp only[nc] at *);(try simp only[Int.ofNat_eq_natCast] at *);omega)),?_⟩
    cbv
    refine .map hml (by simp only[Qb,wO,JE];rw[ew];(first|omega|((try simp only[nc] at *);(try simp only[Int.ofNat_eq_natCast] at *);omega))) fun v hv=>?_
    simp only[Qb,wO,JE] at hv
    rw[ew] at hv
    have hv2:l[(k+q).toNat - 1]?=some v:=by rw[<- hv,<- hget _ (by (first|omega|((try simp only[nc] at *);(try simp only[Int.ofNat_eq_natCast] at *);omega)))];congr 1;(first|omega|((try simp only[nc] at *);(try simp only[Int.ofNat_eq_natCast] at *);omega))
    cbv
    refine brk (fun h5=>?_) (fun h5=>?_)
    ·simp only[x_eq,xe2,Bool.not_eq_true',decide_eq_false_iff_not] at h5
     cbv
     refine⟨by (first|omega|((try simp only[nc] at *);(try simp only[Int.ofNat_eq_natCast] at *);omega)),by simp only[la',wO];(first|omega|((try simp only[nc] at *);(try simp only[Int.ofNat_eq_natCast] at *);omega)),?_⟩
     cbv
     refine .map hml (by simp only[Qb,wO];(first|omega|((try simp only[nc] at *);(try simp only[Int.ofNat_eq_natCast] at *);omega))) fun u' hu'=>?_
     simp only[Qb,wO] at hu'
     rw[hu] at hu';cases hu'
     cbv
     refine⟨by (first|omega|((try simp only[nc] at *);(try simp only[Int.ofNat_eq_natCast] at *);omega)),by rw[la'];(first|omega|((try simp only[nc] at *);(try simp only[Int.ofNat_eq_natCast] at *);omega)),?_⟩
     cbv
     refine .map hml (by simp only[wO];(first|omega|((try simp only[nc] at *);(try simp only[Int.ofNat_eq_natCast] at *);omega))) fun z hz=>?_
     cbv
     refine bg _ _ (.JK [0] ?_) ?_ ?_
     ·(cbv;repeat (refine⟨rfl,?_⟩;cbv))
     ·simp only[Io,eu,ZX,bG,OT,of2,wO]
      rw[wE (by (first|omega|((try simp only[nc] at *);(try simp only[Int.ofNat_eq_natCast] at *);omega))) (by (first|omega|((try simp only[nc] at *);(try simp only[Int.ofNat_eq_natCast] at *);omega))),wE (by (first|omega|((try simp only[nc] at *);(try simp only[Int.ofNat_eq_natCast] at *);omega))) (by (first|omega|((try simp only[nc] at *);(try simp only[Int.ofNat_eq_natCast] at *);omega)))]
      refine⟨ml.set p.toNat u,?_,by rw[List.length_set];exact EZ,by (first|omega|((try simp only[nc] at *);(try simp only[Int.ofNat_eq_natCast] at *);omega)),by (first|omega|((try simp only[nc] at *);(try simp only[Int.ofNat_eq_natCast] at *);omega)),by (first|omega|((try simp only[nc] at *);(try simp only[Int.ofNat_eq_natCast] at *);omega)),by (first|omega|((try simp only[nc] at *);(try simp only[Int.ofNat_eq_natCast] at *);omega)),?_,?_⟩
      ·rw[hml,List.map_set];rfl
      ·have hlt:p.toNat<ml.length:=by (first|omega|((try simp only[nc] at *);(try simp only[Int.ofNat_eq_natCast] at *);omega))
       have hg:(ml.set p.toNat u)[p.toNat]?=some u:=by simp[hlt]
       rw[show (k+(q+1)).toNat=(k+q).toNat+1 by (first|omega|((try simp only[nc] at *);(try simp only[Int.ofNat_eq_natCast] at *);omega)),show (p+1).toNat=p.toNat+1 by (first|omega|((try simp only[nc] at *);(try simp only[Int.ofNat_eq_natCast] at *);omega)),kj1 hu2 hv2 h5,db0 hg,List.take_set_of_le (Nat.le_refl _),hmt]
      ·rw[List.drop_set_of_lt (by (first|omega|((try simp only[nc] at *);(try simp only[Int.ofNat_eq_natCast] at *);omega))),show (k+(q+1) - 1).toNat=(k+q - 1).toNat+1 by (first|omega|((try simp only[nc] at *);(try simp only[Int.ofNat_eq_natCast] at *);omega)),<- List.drop_drop,hmd,List.drop_drop]
     ·simp only[Io,eu,OT]
      rw[wE (by (first|omega|((try simp only[nc] at *);(try simp only[Int.ofNat_eq_natCast] at *);omega))) (by (first|omega|((try simp only[nc] at *);(try simp only[Int.ofNat_eq_natCast] at *);omega)))]
      (first|omega|((try simp only[nc] at *);(try simp only[Int.ofNat_eq_natCast] at *);omega))
    ·simp only[x_eq,xe2,Bool.not_eq_false',decide_eq_true_eq] at h5
     cbv
     refine bg _ _ (.JK [0] ?_) ?_ ?_
     ·(cbv;repeat (refine⟨rfl,?_⟩;cbv))
     ·simp only[Io,eu,ZX,bG,OT]
      rw[wE (by (first|omega|((try simp only[nc] at *);(try simp only[Int.ofNat_eq_natCast] at *);omega))) (by (first|omega|((try simp only[nc] at *);(try simp only[Int.ofNat_eq_natCast] at *);omega)))]
      refine⟨ml,hml,EZ,by (first|omega|((try simp only[nc] at *);(try simp only[Int.ofNat_eq_natCast] at *);omega)),by (first|omega|((try simp only[nc] at *);(try simp only[Int.ofNat_eq_natCast] at *);omega)),by (first|omega|((try simp only[nc] at *);(try simp only[Int.ofNat_eq_natCast] at *);omega)),by (first|omega|((try simp only[nc] at *);(try simp only[Int.ofNat_eq_natCast] at *);omega)),?_,?_⟩
      ·rw[show (k+(q+1)).toNat=(k+q).toNat+1 by (first|omega|((try simp only[nc] at *);(try simp only[Int.ofNat_eq_natCast] at *);omega)),ov0 (by (first|omega|((try simp only[nc] at *);(try simp only[Int.ofNat_eq_natCast] at *);omega))) hu2 hv2 h5,hmt]
      ·rw[show (k+(q+1) - 1).toNat=(k+q - 1).toNat+1 by (first|omega|((try simp only[nc] at *);(try simp only[Int.ofNat_eq_natCast] at *);omega)),<- List.drop_drop,hmd,List.drop_drop]
     ·simp only[Io,eu,OT]
      rw[wE (by (first|omega|((try simp only[nc] at *);(try simp only[Int.ofNat_eq_natCast] at *);omega))) (by (first|omega|((try simp only[nc] at *);(try simp only[Int.ofNat_eq_natCast] at *);omega)))]
      (first|omega|((try simp only[nc] at *);(try simp only[Int.ofNat_eq_natCast] at *);omega))
   ·simp only[x_lt,wb2,wO,la',decide_eq_false_iff_not] at h3
    have hpl:p.toNat<=es'.length:=by (first|omega|((try simp only[nc] at *);(try simp only[Int.ofNat_eq_natCast] at *);omega))
    cbv
    refine .own ?_
    cbv
    refine⟨hp0,by rw[la'];(first|omega|((try simp only[nc] at *);(try simp only[Int.ofNat_eq_natCast] at *);omega)),?_⟩
    cbv
    refine⟨by simp only[wO];exact hpl,?_⟩
    cbv
    refine .own ?_
    cbv
    refine⟨hp0,?_,?_⟩
    ·simp only[xi2,wO,List.length_append,List.length_take,List.length_replicate]
     (first|omega|((try simp only[nc] at *);(try simp only[Int.ofNat_eq_natCast] at *);omega))
    cbv
    refine hK _ _ (ZI ?_)
    simp only[xa2,xi2,wO]
    rw[List.take_append_of_le_length (by rw[List.length_take];omega),List.take_take,Nat.min_self,hml,<- List.map_take,hmt,C9]
    congr 2
    (first|omega|((try simp only[nc] at *);(try simp only[Int.ofNat_eq_natCast] at *);omega))
  ·simp only[x_eq,decide_eq_false_iff_not] at h2
   cbv
   refine hKn _ _ (.JK [0] ?_) ?_ ?_
   ·(cbv;repeat (refine⟨rfl,?_⟩;cbv))
   ·simp only[Io,eu,OT]
    rw[wE (by (first|omega|((try simp only[nc] at *);(try simp only[Int.ofNat_eq_natCast] at *);omega))) (by (first|omega|((try simp only[nc] at *);(try simp only[Int.ofNat_eq_natCast] at *);omega))),sv1 (by (first|omega|((try simp only[nc] at *);(try simp only[Int.ofNat_eq_natCast] at *);omega)))]
    refine⟨by (first|omega|((try simp only[nc] at *);(try simp only[Int.ofNat_eq_natCast] at *);omega)),by (first|omega|((try simp only[nc] at *);(try simp only[Int.ofNat_eq_natCast] at *);omega)),?_⟩
    rw[kj1 hx hy h2,hk3,db0 hx]
   ·simp only[Io,eu,OT]
    rw[wE (by (first|omega|((try simp only[nc] at *);(try simp only[Int.ofNat_eq_natCast] at *);omega))) (by (first|omega|((try simp only[nc] at *);(try simp only[Int.ofNat_eq_natCast] at *);omega)))]
    (first|omega|((try simp only[nc] at *);(try simp only[Int.ofNat_eq_natCast] at *);omega))
 ·simp only[x_lt,x_len,la,decide_eq_false_iff_not] at h1
  cbv
  refine hK _ _ (ZI ?_)
  have e1:k.toNat=l.length:=by (first|omega|((try simp only[nc] at *);(try simp only[Int.ofNat_eq_natCast] at *);omega))
  rw[hes,C9,<- e1,hk3,e1,List.take_length]
omit hP in
theorem VJ (l:List Int):W aH l=l.map dI:=by rw[og];rfl
noncomputable def Lp (l:List Int):Option (List Int):=if l.length<=1000000000 then some (C9 l) else none
theorem nu0 (l r:List Int)(h:Lp l=some r) :
  dX P 35 [.row 3 1 (W aH l)] [.hd 0] (fun sv own'=>sv=.d (.sl (W aH r))/\own'=[.gone]):=by
 unfold Lp at h
 split at h
 ·rename_i hl
  cases h
  rw[VJ,VJ]
  exact tf1 hP rfl hl
 ·cases h
end Go.SX.Td
