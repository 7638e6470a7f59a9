/- Parts of the proof. -/
import Derived.Shelf.Strings.BuilderK
import Derived.Test.YtllbabjgpdmblaaDoorZTrydShelf
import Derived.WalkKit
import Derived.Lib.OthersKept
import Derived.BigCall
import Derived.Test.YtllbabjgpdmblaaDoorZTdTab
import Derived.Test.YtllbabjgpdmblaaDoorZTdT
import Derived.Test.YtllbabjgpdmblaaDoorZTd32d
set_option linter.unusedSimpArgs false
set_option linter.unusedVariables false
set_option linter.unusedSectionVars false
namespace Go.Proofs
open Go.RowKit
set_option linter.unusedVariables false
set_option maxHeartbeats 1000000 in
set_option maxRecDepth 100000 in
theorem Tryd.lg0 (b:Nat)(w:World)(h0:w.cell? ⟨b,0,none⟩=some (.pointer (some ⟨b,0,none⟩))) :
  Calls Tryd.prog 79 #[.pointer (some ⟨b,0,none⟩)] w fun e w'=>e=.returned (.tuple #[])∧w'=w:=by
 have hsz:(Tryd.prog.info? 122).map (·.size)=some 2:=by kernel_rfl
 obtain⟨j,hj,_⟩:=Option.map_eq_some_iff.1 hsz
 go_enter Tryd.func79,Tryd.ntmps79
 go_wp2
 rw[Lib.run_neq_ptr_same w _ Tryd.underlying120 hj]
 go_wp2
 go_end0
 exact⟨rfl,rfl⟩
set_option maxHeartbeats 1000000 in
set_option maxRecDepth 100000 in
theorem Tryd.pf0 (b:Nat)(w:World)(h0:w.cell? ⟨b,0,none⟩=some (.pointer none))(hsh:w.shape? b=some (122,2))(hfz:w.frozen? ⟨b,0,none⟩=false) :
  Calls Tryd.prog 79 #[.pointer (some ⟨b,0,none⟩)] w fun e w'=>e=.returned (.tuple #[])∧w'=w.setCell ⟨b,0,none⟩ (.pointer (some ⟨b,0,none⟩)):=by
 have hsz:(Tryd.prog.info? 122).map (·.size)=some 2:=by kernel_rfl
 obtain⟨j,hj,hjs⟩:=Option.map_eq_some_iff.1 hsz
 go_enter Tryd.func79,Tryd.ntmps79
 go_wp2
 rw[Lib.run_to_unsafe w ⟨b,0,none⟩ Tryd.underlying120 Tryd.underlying148 hj (by rw[hjs];decide) hsh (Nat.zero_lt_succ 1)]
 simp only[Result.andThen]
 rw[Oper.upon_value]
 go_wp2
 rw[run_callFunc_extern Tryd.func92 (by kernel_rfl) (by kernel_rfl) (by kernel_rfl) (e:=Extern.AbiNoEscape.same) (by kernel_rfl)]
 rw[Lib.run_noEscape]
 simp only[Result.andThen]
 rw[Oper.upon_value]
 go_wp2
 rw[Lib.run_from_unsafe w ⟨b,0,none⟩ Tryd.underlying148 Tryd.underlying120 hj hsh (by kernel_rfl)]
 simp only[Result.andThen]
 rw[Oper.upon_value]
 go_wp2
 go_end0
 exact⟨rfl,rfl⟩
theorem Tryd.ph0 (B b:Nat)(bs:List Value)(w:World)(h:Lib.IsBuilderF 122 5 B b bs w) :
  Calls Tryd.prog 79 #[.pointer (some ⟨b,0,none⟩)] w fun e w'=>e=.returned (.tuple #[])∧(Lib.BuilderAtF 122 5 B b (.pointer (some ⟨b,0,none⟩)) bs w'∧Below B w w'∧Lib.OthersKept 5 (some b) w w'):=by
 rcases h with h | h
 ·refine(Tryd.pf0 b w h.cell0 h.shape h.frozen0).mono ?_
  rintro e w' ⟨rfl,rfl⟩
  exact⟨rfl,h.used _,(Below.refl B w).setCell (p:=⟨b,0,none⟩) h.1 _,(Lib.OthersKept.refl 5 (some b) w).setCell ⟨b,0,none⟩ rfl _⟩
 ·refine(Tryd.lg0 b w h.cell0).mono ?_
  rintro e w' ⟨rfl,rfl⟩
  exact⟨rfl,h,Below.refl B _,Lib.OthersKept.refl 5 (some b) _⟩
theorem Tryd.copyCheck_f (B b:Nat)(bs:List Value)(w:World)(h:Lib.IsBuilderF 122 5 B b bs w) :
  Calls Tryd.prog 79 #[.pointer (some ⟨b,0,none⟩)] w fun e w'=>e=.returned (.tuple #[])∧(Lib.BuilderAtF 122 5 B b (.pointer (some ⟨b,0,none⟩)) bs w'∧Below B w w') :=
 (Tryd.ph0 B b bs w h).mono fun _ _ h=>⟨h.1,h.2.1,h.2.2.1⟩
set_option maxHeartbeats 2000000 in
set_option maxRecDepth 100000 in
theorem Tryd.gl0 (B b:Nat)(bs:List Value)(s:ByteArray)(w:World)(h:Lib.IsBuilderF 122 5 B b bs w)(hlen:bs.length+s.size≤140737488355328)(hBw:B≤w.heap.size) :
  Calls Tryd.prog 67 #[.pointer (some ⟨b,0,none⟩),.string s] w fun e w'=>e=.returned (.tuple #[.int .i64 s.size,.nilIface])∧(Lib.BuilderAtF 122 5 B b (.pointer (some ⟨b,0,none⟩)) (bs++Lib.strCells s) w'∧Below B w w'∧Lib.OthersKept 5 (some b) w w'):=by
 obtain⟨i0,hi,hz0,hz1,hz2⟩:=info_parts (show (Tryd.prog.info? 5).map (fun i=>(i.zero,i.size,i.bytes))=some (some (.int .u8 0),1,1) by kernel_rfl)
 go_enter Tryd.func67,Tryd.ntmps67
 go_wp2_with (go_at_call 79;refine(Tryd.ph0 B b bs _ h).mono ?_)
 rintro e w1 ⟨rfl,h1,hb1,hk1⟩
 obtain⟨hB,v,hbk,hown,hne⟩:=h1
 have c0:w1.cell? ⟨b,0,none⟩=some (.pointer (some ⟨b,0,none⟩)):=by rw[Lib.cell_of_heap hbk];rfl
 have c1:w1.cell? ⟨b,1,none⟩=some v:=by rw[Lib.cell_of_heap hbk];rfl
 go_wp2_with (at_builtin;refine Lib.wpList_append_own_stringF _ rfl _ _ 60 9 rfl B 5 i0 Tryd.underlying60 Tryd.underlying9 hi hz0 hz1 hz2 _ _ _ rfl hown s rfl ?c3 ?c4 ?c5 ?_)
 case c3=>unfold maxLen;omega
 case c4=>omega
 case c5=>have:=hb1.size;omega
 intro v' w2 hown' hgrow _
 have hlt:b<w1.heap.size:=by
  rcases Nat.lt_or_ge b w1.heap.size with h' | h'
  ·exact h'
  ·simp[Array.getElem?_eq_none h'] at hbk
 have hb2:w2.heap[b]?=some (.cells #[.pointer (some ⟨b,0,none⟩),v] 122 (0,0)):=by
  rw[hgrow.block b hlt (fun e=>hne e.symm)]
  exact hbk
 have d0:w2.cell? ⟨b,0,none⟩=some (.pointer (some ⟨b,0,none⟩)):=by rw[Lib.cell_of_heap hb2];rfl
 have d1:w2.cell? ⟨b,1,none⟩=some v:=by rw[Lib.cell_of_heap hb2];rfl
 have f1:w2.frozen? ⟨b,1,none⟩=false:=Lib.frozen_of_heap hb2 1
 obtain⟨ao,n',cap,rfl⟩:∃ ao n' cap,v'=.slice ao n' cap:=by
  rcases hown'.2 with ⟨hv,_⟩ | ⟨g,cap,cur,fz,hv,_⟩
  ·exact⟨_,_,_,hv⟩
  ·exact⟨_,_,_,hv⟩
 go_wp2
 go_ret2
 refine⟨rfl,?_,?_,?_⟩
 ·exact Lib.BuilderAtF.put (T:=122) (e:=5) hB hb2 (bs':=bs++Lib.strCells s) (by simpa [Lib.strCells_length] using hown') (by decide)
 ·exact(hb1.grown hgrow (by have:=hb1.size;omega) (fun k hk=>(hown.lt k hk).1)).setCell (p:=⟨b,1,none⟩) hB _
 ·refine(hk1.grown hgrow fun g hg=>?_).setCell ⟨b,1,none⟩ rfl _
  rcases hown.2 with ⟨rfl,_⟩ | ⟨g',cap',cur,fz,rfl,_,hgg,_⟩
  ·simp[Value.ownBlock] at hg
  ·simp only[Value.ownBlock,Option.some.injEq] at hg;subst hg
   exact⟨cur,fz,hgg⟩
theorem Tryd.br0 (B b:Nat)(bs:List Value)(s:ByteArray)(w:World)(h:Lib.IsBuilderF 122 5 B b bs w)(hlen:bs.length+s.size≤140737488355328)(hBw:B≤w.heap.size) :
  Calls Tryd.prog 67 #[.pointer (some ⟨b,0,none⟩),.string s] w fun e w'=>e=.returned (.tuple #[.int .i64 s.size,.nilIface])∧(Lib.BuilderAtF 122 5 B b (.pointer (some ⟨b,0,none⟩)) (bs++Lib.strCells s) w'∧Below B w w') :=
 (Tryd.gl0 B b bs s w h hlen hBw).mono fun _ _ h=>⟨h.1,h.2.1,h.2.2.1⟩
set_option maxHeartbeats 2000000 in
set_option maxRecDepth 100000 in
theorem Tryd.WriteByte_f (B b:Nat)(bs:List Value)(c:Int)(w:World)(h:Lib.IsBuilderF 122 5 B b bs w)(hlen:bs.length+1≤140737488355328)(hBw:B≤w.heap.size) :
  Calls Tryd.prog 69 #[.pointer (some ⟨b,0,none⟩),.int .u8 c] w fun e w'=>e=.returned .nilIface∧(Lib.BuilderAtF 122 5 B b (.pointer (some ⟨b,0,none⟩)) (bs++[.int .u8 c]) w'∧Below B w w'):=by
 obtain⟨i0,hi,hz0,hz1,hz2⟩:=info_parts (show (Tryd.prog.info? 5).map (fun i=>(i.zero,i.size,i.bytes))=some (some (.int .u8 0),1,1) by kernel_rfl)
 go_enter Tryd.func69,Tryd.ntmps69
 go_wp2_with (go_at_call 79;refine(Tryd.copyCheck_f B b bs _ h).mono ?_)
 rintro e w1 ⟨rfl,h1,hb1⟩
 obtain⟨hB,v,hbk,hown,hne⟩:=h1
 have c0:w1.cell? ⟨b,0,none⟩=some (.pointer (some ⟨b,0,none⟩)):=by rw[Lib.cell_of_heap hbk];rfl
 have c1:w1.cell? ⟨b,1,none⟩=some v:=by rw[Lib.cell_of_heap hbk];rfl
 go_wp2_with (at_builtin;refine wpList_append_ownF _ rfl _ _ 60 rfl B 5 i0 (.int .u8 0) 1 1 Tryd.underlying60 hi hz0 hz1 hz2 rfl (by decide) _ _ _ rfl (hown.alloc _) ⟨w1.heap.size,0,none⟩ 1 1 [.int .u8 c] rfl rfl ?c1 ?c2 ?c3 ?c4 ?c5 ?_)
 case c1 =>
  intro j u hj
  match j,hj with
  | 0,hj=>simp at hj;subst hj;simp[Addr.add]
 case c2=>intro u hu;simp at hu;subst hu;rfl
 case c3=>unfold maxLen;omega
 case c4=>omega
 case c5=>have:=hb1.size;simp;omega
 intro v' w2 hown' hgrow _
 have hlt:b<w1.heap.size:=by
  rcases Nat.lt_or_ge b w1.heap.size with h' | h'
  ·exact h'
  ·simp[Array.getElem?_eq_none h'] at hbk
 have hb2:w2.heap[b]?=some (.cells #[.pointer (some ⟨b,0,none⟩),v] 122 (0,0)):=by
  rw[hgrow.block b (by simp;omega) (fun e=>hne e.symm),Lib.alloc_old w1 _ b hlt]
  exact hbk
 have d0:w2.cell? ⟨b,0,none⟩=some (.pointer (some ⟨b,0,none⟩)):=by rw[Lib.cell_of_heap hb2];rfl
 have d1:w2.cell? ⟨b,1,none⟩=some v:=by rw[Lib.cell_of_heap hb2];rfl
 have f1:w2.frozen? ⟨b,1,none⟩=false:=Lib.frozen_of_heap hb2 1
 obtain⟨g,cap,rfl⟩:∃ g cap,v'=.slice (some ⟨g,0,none⟩) (bs.length+1) cap:=by
  rcases hown'.2 with ⟨_,h0⟩ | ⟨g,cap,cur,fz,hv,_⟩
  ·omega
  ·exact⟨g,cap,hv⟩
 go_wp2
 go_ret
 refine⟨rfl,?_,?_⟩
 ·exact Lib.BuilderAtF.put (T:=122) (e:=5) hB hb2 (bs':=bs++[.int .u8 c]) (by simpa using hown') (by decide)
 ·exact((hb1.alloc (by have:=hb1.size;omega) _).grown hgrow (by have:=hb1.size;simp;omega) (fun k hk=>(hown.lt k hk).1)).setCell (p:=⟨b,1,none⟩) hB _
end Go.Proofs
namespace Go.SX.Td
open Go Go.SX Go.Proofs Go.RowKit Go.Sort
set_option linter.unusedVariables false
def txtN (n:Int):List UInt8:=Lib.itoa n++[32]
def dn0 (l:List Int):List UInt8:=l.flatMap txtN
def lt0 (l:List Int):List UInt8:=dn0 l++[59]
def vj0 (ls:List (List Int)):List UInt8:=ls.flatMap lt0
def IntOk (n:Int):Prop:=-9223372036854775808≤n∧n≤9223372036854775807
def TextOk (ls:List (List Int)):Prop:=(∀ l∈ls,∀ n∈l,IntOk n)∧(vj0 ls).length≤140737488355328
open Classical in
noncomputable def table_text_g (ls:List (List Int)):Option ByteArray:=if TextOk ls then some ⟨(vj0 ls).toArray⟩ else none
theorem pc0 {T e:TypeId}{B b:Nat}{bs:List Value}{w w':World}(h:Lib.IsBuilderF T e B b bs w)(hw:∀ k,k<w.heap.size→w'.heap[k]?=w.heap[k]?):Lib.IsBuilderF T e B b bs w':=by
 have at_:∀ p,Lib.BuilderAtF T e B b p bs w→Lib.BuilderAtF T e B b p bs w':=by
  rintro p ⟨hB,v,hb,hown,hne⟩
  refine⟨hB,v,by rw[hw b (Array.getElem?_eq_some_iff.1 hb).1];exact hb,⟨hown.1,?_⟩,hne⟩
  rcases hown.2 with hn | ⟨g,cap,cur,fz,rfl,hg,hgg,rest⟩
  ·exact .inl hn
  ·exact .inr ⟨g,cap,cur,fz,rfl,hg,by rw[hw g (Array.getElem?_eq_some_iff.1 hgg).1];exact hgg,rest⟩
 exact h.elim (fun x=>.inl (at_ _ x)) (fun x=>.inr (at_ _ x))
theorem below_grow {B:Nat}{w:World}(hB:B≤w.heap.size)(k:Nat)(os:Array Obj):Below B w (grow (w.drewN k) os) :=
 ⟨rfl,rfl,rfl,by simp[grow,World.drewN],fun i hi=>by simp[grow,World.drewN,Array.getElem?_append,show i<w.heap.size by omega]⟩
theorem txtL_le {ls:List (List Int)}{i:Nat}{l:List Int}(h:ls[i]?=some l){j:Nat}:(vj0 (ls.take i)++dn0 (l.take j)).length≤(vj0 ls).length:=by
 have hi:=(List.getElem?_eq_some_iff.1 h).1
 have e:vj0 ls=vj0 (ls.take i)++(lt0 l++vj0 (ls.drop (i+1))):=by
  have:ls=ls.take i++l::ls.drop (i+1):=by
   rw[← (List.getElem?_eq_some_iff.1 h).2,List.getElem_cons_drop,List.take_append_drop]
  conv=>lhs;rw[this]
  simp[vj0]
 have e2:dn0 l=dn0 (l.take j)++dn0 (l.drop j):=by
  rw[dn0,dn0,dn0,← List.flatMap_append,List.take_append_drop]
 rw[e,lt0,e2]
 simp only[List.length_append]
 omega
theorem txtL_take {ls:List (List Int)}{i:Nat}{l:List Int}(h:ls[i]?=some l):vj0 (ls.take (i+1))=vj0 (ls.take i)++lt0 l:=by
 rw[List.take_add_one,h];simp[vj0]
theorem txtI_take {l:List Int}{j:Nat}{n:Int}(h:l[j]?=some n):dn0 (l.take (j+1))=dn0 (l.take j)++txtN n:=by
 rw[List.take_add_one,h];simp[dn0]
theorem txtL_split (ls:List (List Int))(k:Nat):vj0 ls=vj0 (ls.take k)++vj0 (ls.drop k):=by
 rw[vj0,vj0,vj0,← List.flatMap_append,List.take_append_drop]
def IntsAt (w:World)(v:Value)(l:List Int):Prop :=
 ∃ a cap,v=.slice a l.length cap∧∀ (j:Nat) n,l[j]?=some n→∃ b off,a=some ⟨b,off,none⟩∧b<w.heap.size∧w.cell? ⟨b,off+j,none⟩=some (.int .i64 n)
def ListsAt (w:World)(v:Value)(ls:List (List Int)):Prop :=
 ∃ a cap,v=.slice a ls.length cap∧∀ (i:Nat) l,ls[i]?=some l→∃ b off u,a=some ⟨b,off,none⟩∧b<w.heap.size∧w.cell? ⟨b,off+i,none⟩=some u∧IntsAt w u l
theorem intsAt_of {F:Fz}{w:World}{v:Value}{l:List Int}(hF:∀ b o,F b=some o→w.heap[b]?=some o)(h:Rep F v (.sl (W eIi64 l))):IntsAt w v l:=by
 have hlen:(W eIi64 l).length=l.length:=ja0 _ _
 generalize hd:D.sl (W eIi64 l)=d at h
 cases h with
 | val v h=>cases hd
 | nil a cap h =>
  injection hd with hd
  have:l=[]:=by rw[hd] at hlen;exact List.eq_nil_of_length_eq_zero hlen.symm
  subst this
  exact⟨a,cap,rfl,fun j n hj=>by simp at hj⟩
 | sl b off cap c e fr es sz g hb hcap hsz hc hr =>
  injection hd with hd
  subst hd
  refine⟨some ⟨b,off,none⟩,cap,by rw[hlen],fun j n hj=>?_⟩
  have hes:(W eIi64 l)[j]?=some [.val (.int .i64 n)]:=by rw[dl0,List.getElem?_map,hj];rfl
  have h1:=hsz j _ hes
  have h2:=hc j _ 0 _ hes rfl
  have h3:=hr j _ 0 _ hes rfl
  obtain⟨h3,_⟩:=Rep.kz0.1 h3
  simp at h1
  subst h1
  have hw:=hF _ _ hb
  refine⟨b,off,rfl,(Array.getElem?_eq_some_iff.1 hw).1,?_⟩
  simp only[World.cell?,hw,Option.isSome_none,Bool.false_eq_true,if_false]
  rw[h3] at h2
  simpa using h2
theorem listsAt_of {F:Fz}{w:World}{v:Value}{ls:List (List Int)}(hF:∀ b o,F b=some o→w.heap[b]?=some o)(h:Rep F v (.sl (W eLIi64 ls))):ListsAt w v ls:=by
 have hlen:(W eLIi64 ls).length=ls.length:=ja0 _ _
 generalize hd:D.sl (W eLIi64 ls)=d at h
 cases h with
 | val v h=>cases hd
 | nil a cap h =>
  injection hd with hd
  have:ls=[]:=by rw[hd] at hlen;exact List.eq_nil_of_length_eq_zero hlen.symm
  subst this
  exact⟨a,cap,rfl,fun j n hj=>by simp at hj⟩
 | sl b off cap c e fr es sz g hb hcap hsz hc hr =>
  injection hd with hd
  subst hd
  refine⟨some ⟨b,off,none⟩,cap,by rw[hlen],fun j n hj=>?_⟩
  have hes:(W eLIi64 ls)[j]?=some [.sl (W eIi64 n)]:=by rw[dl0,List.getElem?_map,hj];rfl
  have h1:=hsz j _ hes
  have h2:=hc j _ 0 _ hes rfl
  have h3:=hr j _ 0 _ hes rfl
  simp at h1
  subst h1
  have hw:=hF _ _ hb
  refine⟨b,off,g j 0,rfl,(Array.getElem?_eq_some_iff.1 hw).1,?_,intsAt_of hF h3⟩
  simp only[World.cell?,hw,Option.isSome_none,Bool.false_eq_true,if_false]
  simpa using h2
theorem intsAt_on {w w':World}{v:Value}{l:List Int}(h:IntsAt w v l)(hb:Below w.heap.size w w'):IntsAt w' v l:=by
 obtain⟨a,cap,h1,h2⟩:=h
 refine⟨a,cap,h1,fun j n hj=>?_⟩
 obtain⟨b,off,k1,k2,k3⟩:=h2 j n hj
 exact⟨b,off,k1,Nat.lt_of_lt_of_le k2 hb.size,by rw[hb.cell (p:=⟨b,off+j,none⟩) k2];exact k3⟩
theorem ls_le : ∀ ls:List (List Int),ls.length≤(vj0 ls).length
 | []=>Nat.zero_le _
 | l::ls=>by
  have:=ls_le ls
  have e:vj0 (l::ls)=lt0 l++vj0 ls:=by simp[vj0]
  rw[e,List.length_append,List.length_cons,lt0,List.length_append,List.length_singleton];omega
theorem l_le : ∀ l:List Int,l.length≤(dn0 l).length
 | []=>Nat.zero_le _
 | n::l=>by
  have:=l_le l
  have e:dn0 (n::l)=txtN n++dn0 l:=by simp[dn0]
  rw[e,List.length_append,List.length_cons,txtN,List.length_append,List.length_singleton];omega
set_option maxHeartbeats 4000000 in
set_option maxRecDepth 100000 in
theorem text_walk (ls:List (List Int))(v:Value)(w:World)(hv:ListsAt w v ls)(hok:TextOk ls)(htab:Lib.TabIs Tryd.prog w powName .u64 Lib.pow10Tab) :
  Calls Tryd.prog 38 #[v] w fun e w'=>e=.returned (.string ⟨(vj0 ls).toArray⟩)∧Below w.heap.size w w':=by
 obtain⟨hints,hfit⟩:=hok
 obtain⟨a,cap,rfl,hcell⟩:=hv
 have hlsm:ls.length≤140737488355328:=Nat.le_trans (ls_le ls) hfit
 have h0:Lib.IsBuilderF 122 5 w.heap.size w.heap.size (Lib.byteCells []) (w.alloc (.cells #[.pointer none,.slice none 0 0] 122)):=Lib.IsBuilderF.of (Lib.fresh_isBuilder 122 5 w)
 have b0:Below w.heap.size w (w.alloc (.cells #[.pointer none,.slice none 0 0] 122)):=(Below.refl _ w).alloc (Nat.le_refl _) _
 go_enter Tryd.func38,Tryd.ntmps38
 go_wp2
 go_loopw [10] (fun iv wr=>∃ i:Nat,iv=.int .i64 i∧i≤ls.length∧Lib.IsBuilderF 122 5 w.heap.size w.heap.size (Lib.byteCells (vj0 (ls.take i))) wr∧Below w.heap.size w wr)
  (fun iv _=>ls.length - (RowKit.intOf iv).toNat)
 case atStart=>exact⟨0,rfl,Nat.zero_le _,by simpa [vj0] using h0,b0⟩
 case round =>
  obtain⟨i,rfl,hi,hI,hnx⟩:=hrel
  clear h0 b0
  have hsize:=hnx.size
  by_cases hlt:i<ls.length
  ·obtain⟨l,hl⟩:∃ l,ls[i]?=some l:=⟨ls[i],by simp[hlt]⟩
   obtain⟨b,off,u,rfl,hb,hc,hints'⟩:=hcell i l hl
   obtain⟨a',cap',rfl,hin⟩:=intsAt_on (intsAt_on hints' (Below.refl _ _)) hnx
   have hc':wr.cell? ⟨b,off+i,none⟩=some (.slice a' l.length cap'):=by rw[hnx.cell (p:=⟨b,off+i,none⟩) hb];exact hc
   have hle:=txtL_le hl (j:=l.length)
   have hlm:l.length≤140737488355328:=by
    have:=l_le l
    rw[List.take_length,List.length_append] at hle
    omega
   have hln:∀ n∈l,IntOk n:=hints l (List.mem_of_getElem? hl)
   have hints2:=hints'
   clear hin hints' hcell
   go_wp2
   go_loopw [16] (fun jv wr'=>∃ j:Nat,jv=.int .i64 j∧j≤l.length∧Lib.IsBuilderF 122 5 w.heap.size w.heap.size (Lib.byteCells (vj0 (ls.take i)++dn0 (l.take j))) wr'∧Below w.heap.size w wr')
    (fun jv _=>l.length - (RowKit.intOf jv).toNat)
   case atStart=>exact⟨0,rfl,Nat.zero_le _,by simpa [dn0] using hI,hnx⟩
   case round =>
    obtain⟨j,rfl,hj,hI2,hnx2⟩:=hrel
    have hsize2:=hnx2.size
    by_cases hjlt:j<l.length
    ·obtain⟨n,hn⟩:∃ n,l[j]?=some n:=⟨l[j],by simp[hjlt]⟩
     obtain⟨_,_,e0,hin⟩:=hints2
     cases e0
     obtain⟨b2,off2,rfl,hb2,hc2⟩:=hin j n hn
     have hc2':wr.cell? ⟨b2,off2+j,none⟩=some (.int .i64 n):=by rw[hnx2.cell (p:=⟨b2,off2+j,none⟩) hb2];exact hc2
     have hnok:=hln n (List.mem_of_getElem? hn)
     have htab2:=tab_on htab hnx2
     have hlj:=txtL_le hl (j:=j+1)
     rw[txtI_take hn] at hlj
     simp only[List.length_append] at hlj
     have hcat:¬ 9223372036854775807<(Lib.itoa n).length+1:=by
      have e:(txtN n).length=(Lib.itoa n).length+1:=by simp[txtN]
      omega
     clear hin
     go_wp2_with (go_at_call 68;refine(Tryd.strconv_Itoa n hnok.1 hnok.2 _ htab2).mono ?_;rintro e w3 ⟨rfl,k,os,rfl⟩)
     have hI3:=pc0 (w':=grow (wr.drewN k) os) hI2 (fun q hq=>by simp[grow,World.drewN,Array.getElem?_append,hq])
     have hbl3:=hnx2.trans (below_grow hsize2 k os)
     have hdata:(⟨(Lib.itoa n).toArray⟩++⟨#[32]⟩:ByteArray).data.toList=txtN n:=by rw[ByteArray.data_append];simp[txtN]
     have hstr:Lib.strCells (⟨(Lib.itoa n).toArray⟩++⟨#[32]⟩)=Lib.byteCells (txtN n):=by rw[Lib.strCells_eq,hdata]
     have hsz:(⟨(Lib.itoa n).toArray⟩++⟨#[32]⟩:ByteArray).size=(txtN n).length:=by rw[← Lib.strCells_length,hstr,Lib.byteCells_length]
     refine(Tryd.br0 w.heap.size w.heap.size _ _ _ hI3 (by rw[Lib.byteCells_length,hsz,List.length_append];omega) hbl3.size).mono ?_
     rintro e w4 ⟨rfl,h4,b4⟩
     go_wp2
     go_roundw
     case rel =>
      refine⟨j+1,by go_num,by omega,?_,hbl3.trans b4⟩
      rw[txtI_take hn,← List.append_assoc,Lib.byteCells_append,← hstr]
      exact Or.inr h4
     case measure=>simp[RowKit.intOf];omega
    ·have hjl:j=l.length:=by omega
     subst hjl
     rw[List.take_length] at hI2
     have hls:=txtL_split ls (i+1)
     rw[txtL_take hl,lt0] at hls
     have hls2:=congrArg List.length hls
     simp only[List.length_append,List.length_singleton] at hls2
     go_wp2_with (go_at_call 69;refine(Tryd.WriteByte_f w.heap.size w.heap.size _ 59 _ hI2 (by rw[Lib.byteCells_length,List.length_append];omega) hsize2).mono ?_)
     rintro e w4 ⟨rfl,h4,b4⟩
     go_wp2
     go_roundw
     case rel =>
      refine⟨i+1,by go_num,by omega,?_,hnx2.trans b4⟩
      rw[txtL_take hl,lt0,← List.append_assoc,Lib.byteCells_append]
      exact Or.inr h4
     case measure=>simp[RowKit.intOf];omega
  ·have hil:i=ls.length:=by omega
   subst hil
   rw[List.take_length] at hI
   go_wp2_with (go_at_call 70;refine(Tryd.Builder_String_any_f w.heap.size w.heap.size _ _ hI hsize).mono ?_)
   rintro e w4 ⟨rfl,_,b4⟩
   go_wp2
   go_ret
   exact⟨rfl,hnx.trans b4⟩
theorem ok38 : okFn Tryd.prog 38=true:=by kernel_rfl
theorem table_text_R {P:Program}(hP:P=Tryd.prog)(l:List (List Int))(r:ByteArray)(h:table_text_g l=some r):Fn1 P 38 [vLLIi64 l] (vS r):=by
 subst hP
 unfold table_text_g at h
 split at h
 ·rename_i hok
  cases h
  refine⟨ok38,fun c w us hS hr=>?_⟩
  obtain⟨u,us',rfl,hu,hn⟩:=zg0.zr0.1 hr
  obtain rfl:=zg0.yt0.1 hn
  cases hu with | d hrep =>
  refine(text_walk l u w (listsAt_of hS.le hrep) hok (tab_is hS)).mono ?_
  rintro e w' ⟨rfl,hb⟩
  have hle:=Cx.le.refl c
  have hS':Sat c [] w':=hS.on hle rfl hS.one (fun b hb'=>hb.block b hb') (fun b o hb'=>by rw[hb.block b (hS.F_lt hb')];exact hS.le b o hb') (fun b hb'=>.inl hb')
  exact⟨c,[],_,_,rfl,.d (.val _ rfl),hS',hle,⟨hb.os,hb.tape,hb.output,hb.size,fun b hb' _=>hb.block b hb',fun b hb'=>.inl hb',fun b hb'=>.inl hb',fun _ _ h=>h⟩,rfl⟩
 ·cases h
end Go.SX.Td
namespace Go.SX.Td
open Go Go.SX Go.Proofs
set_option maxRecDepth 100000
noncomputable def table_Valid_l2 (t_:Table):((List (ByteArray×Bool))×(List (Decision×Bool))×Int×Int)→Option (((List (ByteArray×Bool))×(List (Decision×Bool))×Int×Int) ⊕ ((Int) ⊕ (Bool)))
 | (known3,decisions4,leaf5,v6) =>
 bif (io.lt v6 (io.len (W eNode t_.Nodes))) then (
 orR (
 Option.bind (idxG t_.Nodes v6) fun x10 =>
 Option.bind (some [x10.Attr,x10.Leaf]) fun l11 =>
 Option.bind (some [x10.Cuts,x10.Kids,l11]) fun l12 =>
 Option.bind (table_text_g l12) fun key13 =>
 Option.bind (
 Option.bind (some (mlookD known3 key13 false)) fun y15 =>
 bif y15 then (
 some true
 ) else (
 Option.bind (table_formed_g t_ x10) fun v16 =>
 some (io.not v16)
 )
 ) fun v14 =>
 bif v14 then (
 some (.inr (.inr (.inr false)))
 ) else (
 Option.bind (some (mputG known3 key13 true)) fun m17 =>
 bif (io.eq (io.len (W eIi64 x10.Kids)) 0) then (
 Option.bind (
 bif (io.not (io.eq x10.Leaf leaf5)) then (
 some true
 ) else (
 Option.bind (idxG t_.Leaves leaf5) fun x19 =>
 Option.bind (some (mlookD decisions4 x19 false)) fun y20 =>
 some y20
 )
 ) fun v18 =>
 bif v18 then (
 some (.inr (.inr (.inr false)))
 ) else (
 Option.bind (idxG t_.Leaves leaf5) fun x21 =>
 Option.bind (some (mputG decisions4 x21 true)) fun m22 =>
 some (.inl (m17,m22,(io.ar .add .i64 leaf5 1)))
 )
 ) else (
 some (.inl (m17,decisions4,leaf5))
 )
 )
 ) fun (known7,decisions8,leaf9) =>
 some (.inl (known7,decisions8,leaf9,(io.ar .add .i64 v6 1)))
 ) else (
 some (.inr (.inl leaf5))
 )
noncomputable def table_Valid_g (t_:Table):Option (Bool) :=
 Option.bind (
 bif (io.lt (io.len (W eNode t_.Nodes)) 1) then (
 some true
 ) else (
 some (io.lt 20000 (io.len (W eNode t_.Nodes)))
 )
 ) fun v1 =>
 bif v1 then (
 some false
 ) else (
 orR (
 whileG (table_Valid_l2 t_) ([],[],0,0)
 ) fun leaf2 =>
 Option.bind (
 Option.bind (walkV t_.Nodes 11 0 ([]:(List (Int×Bool))) 0) fun r24 =>
 some r24.2
 ) fun next23 =>
 bif (io.eq next23 (io.len (W eNode t_.Nodes))) then (
 some (io.eq leaf2 (io.len (W eDecision t_.Leaves)))
 ) else (
 some false
 )
 )
end Go.SX.Td
namespace Go.SX.Td
open Go Go.SX Go.Proofs
set_option maxRecDepth 100000
noncomputable def decide_Holds_l26 (f:(A10 Int))(x3:(A10 Range)):Int→Option ((Int) ⊕ ((Unit) ⊕ (Bool)))
 | v4 =>
 bif (io.lt v4 10) then (
 Option.bind (
 Option.bind (pixG 10 v4) fun i6 =>
 some (f.get i6)
 ) fun n5 =>
 Option.bind (
 Option.bind (pixG 10 v4) fun ix8 =>
 bif (io.lt n5 (x3.get ix8).Lo) then (
 some true
 ) else (
 some (io.lt (x3.get ix8).Hi n5)
 )
 ) fun v7 =>
 bif v7 then (
 some (.inr (.inr false))
 ) else (
 some (.inl (io.ar .add .i64 v4 1))
 )
 ) else (
 some (.inr (.inl ()))
 )
noncomputable def decide_Holds_l22 (r_:Rule)(f:(A10 Int)):Int→Option ((Int) ⊕ ((Unit) ⊕ (Bool)))
 | v1 =>
 bif (io.lt v1 (io.len (W eA10Range r_.Zones))) then (
 Option.bind (
 Option.bind (idxG r_.Zones v1) fun x3 =>
 orR (
 whileG (decide_Holds_l26 f x3) 0
 ) fun _ =>
 some true
 ) fun v2 =>
 bif v2 then (
 some (.inr (.inr (io.le 0 v1)))
 ) else (
 some (.inl (io.ar .add .i64 v1 1))
 )
 ) else (
 some (.inr (.inl ()))
 )
noncomputable def decide_Holds_g (r_:Rule)(f:(A10 Int)):Option (Bool) :=
 orR (
 whileG (decide_Holds_l22 r_ f) 0
 ) fun _ =>
 some (io.le 0 (-1))
end Go.SX.Td
namespace Go.SX.Td
open Go Go.SX Go.Proofs
set_option maxRecDepth 100000
noncomputable def decide_Decide_l2 (p:Policy)(f:(A10 Int)):(Bool×Bool×Int×Int×Int×Int×Int×Int×Int×Int×Int×Int×Int×Int×Bool×Bool×Bool×Int×Int×Int)→Option ((Bool×Bool×Int×Int×Int×Int×Int×Int×Int×Int×Int×Int×Int×Int×Bool×Bool×Bool×Int×Int×Int) ⊕ (Bool×Bool×Int×Int×Int×Int×Int×Int×Int×Int×Int×Int×Int×Int×Bool×Bool×Bool×Int×Int))
 | (Together20,Single21,Limit22,Price23,Num24,Den25,Num26,Den27,Num28,Den29,Num30,Den31,Num32,Den33,priced34,sold35,back36,allowed37,denied38,v39) =>
 bif (io.lt v39 (io.len (W eRule p.Rules))) then (
 Option.bind (
 Option.bind (idxG p.Rules v39) fun x59 =>
 bif (io.eq x59.Kind 1) then (
 Option.bind (
 Option.bind (decide_Holds_g x59 f) fun v61 =>
 some v61
 ) fun v60 =>
 bif v60 then (
 Option.bind (
 bif (io.lt allowed37 0) then (
 some v39
 ) else (
 some allowed37
 )
 ) fun allowed62 =>
 Option.bind (
 bif (io.lt 0 x59.N) then (
 bif (io.eq Limit22 0) then (
 some true
 ) else (
 some (io.lt x59.N Limit22)
 )
 ) else (
 some false
 )
 ) fun v63 =>
 bif v63 then (
 some (Together20,Single21,x59.N,Price23,Num24,Den25,Num26,Den27,Num28,Den29,Num30,Den31,Num32,Den33,priced34,sold35,back36,allowed62,denied38)
 ) else (
 some (Together20,Single21,Limit22,Price23,Num24,Den25,Num26,Den27,Num28,Den29,Num30,Den31,Num32,Den33,priced34,sold35,back36,allowed62,denied38)
 )
 ) else (
 some (Together20,Single21,Limit22,Price23,Num24,Den25,Num26,Den27,Num28,Den29,Num30,Den31,Num32,Den33,priced34,sold35,back36,allowed37,denied38)
 )
 ) else (
 bif (io.eq x59.Kind 2) then (
 Option.bind (
 Option.bind (decide_Holds_g x59 f) fun v65 =>
 some v65
 ) fun v64 =>
 bif v64 then (
 bif (io.lt denied38 0) then (
 some (Together20,Single21,Limit22,Price23,Num24,Den25,Num26,Den27,Num28,Den29,Num30,Den31,Num32,Den33,priced34,sold35,back36,allowed37,v39)
 ) else (
 some (Together20,Single21,Limit22,Price23,Num24,Den25,Num26,Den27,Num28,Den29,Num30,Den31,Num32,Den33,priced34,sold35,back36,allowed37,denied38)
 )
 ) else (
 some (Together20,Single21,Limit22,Price23,Num24,Den25,Num26,Den27,Num28,Den29,Num30,Den31,Num32,Den33,priced34,sold35,back36,allowed37,denied38)
 )
 ) else (
 bif (io.eq x59.Kind 3) then (
 Option.bind (
 Option.bind (decide_Holds_g x59 f) fun v67 =>
 some v67
 ) fun v66 =>
 bif v66 then (
 bif (io.not priced34) then (
 some (Together20,Single21,Limit22,x59.N,x59.R.Num,x59.R.Den,x59.S.Num,x59.S.Den,Num28,Den29,Num30,Den31,Num32,Den33,true,sold35,back36,allowed37,denied38)
 ) else (
 some (Together20,Single21,Limit22,Price23,Num24,Den25,Num26,Den27,Num28,Den29,Num30,Den31,Num32,Den33,priced34,sold35,back36,allowed37,denied38)
 )
 ) else (
 some (Together20,Single21,Limit22,Price23,Num24,Den25,Num26,Den27,Num28,Den29,Num30,Den31,Num32,Den33,priced34,sold35,back36,allowed37,denied38)
 )
 ) else (
 bif (io.eq x59.Kind 4) then (
 Option.bind (
 Option.bind (decide_Holds_g x59 f) fun v69 =>
 some v69
 ) fun v68 =>
 bif v68 then (
 bif (io.not sold35) then (
 some (Together20,Single21,Limit22,Price23,Num24,Den25,Num26,Den27,x59.R.Num,x59.R.Den,x59.S.Num,x59.S.Den,Num32,Den33,priced34,true,back36,allowed37,denied38)
 ) else (
 some (Together20,Single21,Limit22,Price23,Num24,Den25,Num26,Den27,Num28,Den29,Num30,Den31,Num32,Den33,priced34,sold35,back36,allowed37,denied38)
 )
 ) else (
 some (Together20,Single21,Limit22,Price23,Num24,Den25,Num26,Den27,Num28,Den29,Num30,Den31,Num32,Den33,priced34,sold35,back36,allowed37,denied38)
 )
 ) else (
 bif (io.eq x59.Kind 5) then (
 Option.bind (
 Option.bind (decide_Holds_g x59 f) fun v71 =>
 some v71
 ) fun v70 =>
 bif v70 then (
 bif (io.not back36) then (
 some (Together20,Single21,Limit22,Price23,Num24,Den25,Num26,Den27,Num28,Den29,Num30,Den31,x59.R.Num,x59.R.Den,priced34,sold35,true,allowed37,denied38)
 ) else (
 some (Together20,Single21,Limit22,Price23,Num24,Den25,Num26,Den27,Num28,Den29,Num30,Den31,Num32,Den33,priced34,sold35,back36,allowed37,denied38)
 )
 ) else (
 some (Together20,Single21,Limit22,Price23,Num24,Den25,Num26,Den27,Num28,Den29,Num30,Den31,Num32,Den33,priced34,sold35,back36,allowed37,denied38)
 )
 ) else (
 bif (io.eq x59.Kind 6) then (
 Option.bind (
 Option.bind (decide_Holds_g x59 f) fun v73 =>
 some v73
 ) fun v72 =>
 bif v72 then (
 some (true,Single21,Limit22,Price23,Num24,Den25,Num26,Den27,Num28,Den29,Num30,Den31,Num32,Den33,priced34,sold35,back36,allowed37,denied38)
 ) else (
 some (Together20,Single21,Limit22,Price23,Num24,Den25,Num26,Den27,Num28,Den29,Num30,Den31,Num32,Den33,priced34,sold35,back36,allowed37,denied38)
 )
 ) else (
 bif (io.eq x59.Kind 7) then (
 Option.bind (
 Option.bind (decide_Holds_g x59 f) fun v75 =>
 some v75
 ) fun v74 =>
 bif v74 then (
 some (Together20,true,Limit22,Price23,Num24,Den25,Num26,Den27,Num28,Den29,Num30,Den31,Num32,Den33,priced34,sold35,back36,allowed37,denied38)
 ) else (
 some (Together20,Single21,Limit22,Price23,Num24,Den25,Num26,Den27,Num28,Den29,Num30,Den31,Num32,Den33,priced34,sold35,back36,allowed37,denied38)
 )
 ) else (
 Option.bind (
 some ()
 ) fun _ =>
 some (Together20,Single21,Limit22,Price23,Num24,Den25,Num26,Den27,Num28,Den29,Num30,Den31,Num32,Den33,priced34,sold35,back36,allowed37,denied38)
 )
 )
 )
 )
 )
 )
 )
 ) fun (Together40,Single41,Limit42,Price43,Num44,Den45,Num46,Den47,Num48,Den49,Num50,Den51,Num52,Den53,priced54,sold55,back56,allowed57,denied58) =>
 some (.inl (Together40,Single41,Limit42,Price43,Num44,Den45,Num46,Den47,Num48,Den49,Num50,Den51,Num52,Den53,priced54,sold55,back56,allowed57,denied58,(io.ar .add .i64 v39 1)))
 ) else (
 some (.inr (Together20,Single21,Limit22,Price23,Num24,Den25,Num26,Den27,Num28,Den29,Num30,Den31,Num32,Den33,priced34,sold35,back36,allowed37,denied38))
 )
noncomputable def decide_Decide_g (p:Policy)(f:(A10 Int)):Option (Decision) :=
 Option.bind (
 whileG (decide_Decide_l2 p f) (false,false,0,0,0,1,0,1,0,1,0,1,0,1,false,false,false,(-1),(-1),0)
 ) fun (Together1,Single2,Limit3,Price4,Num5,Den6,Num7,Den8,Num9,Den10,Num11,Den12,Num13,Den14,priced15,sold16,back17,allowed18,denied19) =>
 Option.bind (
 bif (io.le 0 allowed18) then (
 bif priced15 then (
 some (io.lt denied19 0)
 ) else (
 some false
 )
 ) else (
 some false
 )
 ) fun Allowed76 =>
 Option.bind (
 bif (io.le 0 denied19) then (
 some denied19
 ) else (
 some allowed18
 )
 ) fun By77 =>
 some (Decision.mk Allowed76 Together1 Single2 Limit3 Price4 (Ratio.mk Num5 Den6) (Ratio.mk Num7 Den8) (Ratio.mk Num9 Den10) (Ratio.mk Num11 Den12) (Ratio.mk Num13 Den14) By77)
end Go.SX.Td
namespace Go.SX.Td
open Go Go.SX Go.Proofs Go.RowKit Go.Sort
theorem ok57 : okFn Tryd.prog 57=true:=by kernel_rfl
noncomputable def sortL (l:List Int):List Int:=l.mergeSort fun x y=>decide (x≤y)
theorem ky0 (l:List Int):(sortL l).length=l.length:=by simp[sortL]
noncomputable def sortG (l:List Int):Option (List Int):=if l.length≤1000000000 then some (sortL l) else none
theorem WI_flat (l:List Int):(W eIi64 l).flatten=l.map fun n=>D.val (.int .i64 n):=by
 rw[dl0]
 induction l with
 | nil=>rfl
 | cons a l ih=>simp only[List.map_cons,List.flatten_cons,ih];rfl
theorem WI_len (l:List Int):∀ ds∈W eIi64 l,ds.length=1:=by
 rw[dl0];intro ds hd
 simp only[List.mem_map] at hd
 obtain⟨x,_,rfl⟩:=hd;rfl
theorem slices_Sort_R {P:Program}(hP:P=Tryd.prog)(l r:List Int)(h:sortG l=some r) :
  SCall P 57 [.row 3 1 (W eIi64 l)] [.hd 0] (fun sv own'=>sv=.tup []∧own'=[.row 3 1 (W eIi64 r)]):=by
 subst hP
 unfold sortG at h
 split at h
 ·rename_i hl
  cases h
  refine⟨ok57,fun c w us hS hr=>?_⟩
  obtain⟨u,us',rfl,hu,hn⟩:=zg0.zr0.1 hr
  obtain rfl:=zg0.yt0.1 hn
  cases hu with | hd hr0 hθ =>
  obtain⟨hd1,xs,⟨hxl,hv⟩,hc⟩:=hS.res 0 _ rfl
  rw[hθ] at hv
  rcases hv with ⟨rfl,h0⟩ | ⟨g,cap,cur,rfl,_,hb,hle,hm,hcs,htake⟩
  ·have hl0:l=[]:=by rw[ja0] at h0;exact List.eq_nil_of_length_eq_zero h0
   subst hl0
   refine(Tryd.slices_Sort_int_none none 0 w).mono ?_
   rintro e w' ⟨rfl,rfl⟩
   exact⟨c,_,.tup [],_,rfl,.tup rfl (fun i s u hs=>by simp at hs),hS,.refl c,.refl c _ _,rfl,by simp[sortL]⟩
  ·have hwl:(W eIi64 l).length=l.length:=ja0 _ _
   have hcell:∀ j,j<l.length→cur[j]?=some (.int .i64 (l[j]?.getD 0)):=fun j hj=>by
    obtain⟨u,h1,h2⟩:=hc j (.val (.int .i64 l[j])) (by rw[WI_flat];simp[hj])
    obtain⟨rfl,_⟩:=Rep.kz0.1 h2
    rw[← htake,List.getElem?_take] at h1
    split at h1
    ·rw[Array.getElem?_toList] at h1;rw[h1];simp[hj]
    ·cases h1
   have hH:Holds (Value.int .i64) w g 0 l.toArray:=fun j hj=>by
    have hj':j<l.length:=by simpa using hj
    refine⟨?_,?_⟩
    ·simp only[World.cell?,hb,Nat.zero_add,hcell j hj']
     simp[hj']
    ·simp[World.frozen?,hb]
   have hblk:g<w.heap.size:=(Array.getElem?_eq_some_iff.1 hb).1
   have:=Tryd.slices_Sort_int g 0 cap l w hH hblk (by omega)
   rw[← hwl] at this
   refine this.mono ?_
   rintro e w' ⟨rfl,n,os,rfl⟩
   have hput:(putRow (Value.int .i64) (Go.Sort.ahead w n) g 0 (sortL l).toArray).heap[g]?=some (.cells (putCells (Value.int .i64) 0 (sortL l).toArray cur) 3 (0,0)):=by
    simp only[putRow,mapBlock,Go.Sort.ahead,Array.getElem?_modify,if_true,hb,Option.map_some];rfl
   have hoth:∀ k,k≠g→(putRow (Value.int .i64) (Go.Sort.ahead w n) g 0 (sortL l).toArray).heap[k]?=w.heap[k]?:=fun k hk=>by
    simp only[putRow,mapBlock,Go.Sort.ahead,Array.getElem?_modify,if_neg (Ne.symm hk)]
   have hsl:(sortL l).length=l.length:=ky0 l
   obtain⟨k1,k2⟩:=hS.update (w':=putRow (Value.int .i64) (Go.Sort.ahead w n) g 0 (sortL l).toArray) (x':=.row 3 1 (W eIi64 (sortL l))) (r:=0) rfl rfl rfl (by rw[hθ];rfl) rfl rfl rfl (by simp[putRow,mapBlock,Go.Sort.ahead]) hoth
    ⟨WI_len _,(sortL l).map (Value.int .i64),by
     rw[hθ]
     refine⟨by simp[ja0],.inr ⟨g,cap,_,by rw[ja0,ja0,hsl],Nat.zero_le _,hput,by rw[ja0,hsl,← hwl];exact hle,hm,by simp[putCells,hcs],?_⟩⟩
     apply List.ext_getElem?
     intro j
     rw[List.getElem?_take,ja0,hsl,List.getElem?_map]
     have hgs:l.length≤cur.size:=by rw[hcs];omega
     split
     ·rename_i hj
      have hjl:j<l.length:=by omega
      rw[Array.getElem?_toList]
      have hjs:j<(sortL l).length:=by omega
      have hjc:j<cur.size:=by omega
      simp[putCells,hjl,hjs,hjc,hsl]
     ·rename_i hj
      rw[List.getElem?_eq_none (by omega)];rfl,fun j d hj=>by
     rw[WI_flat,List.getElem?_map,Option.map_eq_some_iff] at hj
     obtain⟨z,hz,rfl⟩:=hj
     exact⟨.int .i64 z,by rw[List.getElem?_map,hz];rfl,.val _ rfl⟩⟩
   have hgrow:∀ b,b<(putRow (Value.int .i64) (Go.Sort.ahead w n) g 0 (sortL l).toArray).heap.size→(grow (putRow (Value.int .i64) (Go.Sort.ahead w n) g 0 (sortL l).toArray) os).heap[b]?=(putRow (Value.int .i64) (Go.Sort.ahead w n) g 0 (sortL l).toArray).heap[b]?:=fun b hb'=>by
    simp only[grow];rw[Array.getElem?_append_left hb']
   refine⟨c,[.row 3 1 (W eIi64 (sortL l))],.tup [],_,rfl,.tup rfl (fun i s u hs=>by simp at hs),?_,.refl c,k2.trans ⟨rfl,rfl,rfl,by simp[grow],fun b hb' _=>hgrow b hb',fun _ hb=>.inl hb,fun _ hb=>.inl hb,fun _ _ hb=>hb⟩,rfl,rfl⟩
   exact k1.on (.refl c) rfl k1.one hgrow (fun b x hb'=>(hgrow b (k1.F_lt hb')).trans (k1.le b x hb')) (fun b hb=>.inl hb)
 ·cases h
end Go.SX.Td
