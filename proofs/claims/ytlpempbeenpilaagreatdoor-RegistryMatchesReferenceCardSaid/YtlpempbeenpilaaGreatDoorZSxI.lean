/- Parts of the proof. -/
import Derived.Test.YtlpempbeenpilaaGreatDoorZSxF
import Derived.MapKept
import Derived.ChangeMaps4
set_option linter.unusedSimpArgs false
set_option linter.unusedVariables false
set_option linter.unusedSectionVars false
namespace Go.SX
open Go
variable [Tabs]
section
variable {P:Program}{c:Cx}{own:List Res}{env:List SV}{a:Act}{w w':World}{o:Oper}{K:SV→List Res→Prop}{Q:Exit→Act→World→Prop}
theorem bsl_fill (hS:Sat c own w){sz:Nat}(ps:List (Nat×SV)):∀ (k:Nat)(es:List (List D))(vs:List (Nat×Value))(cells:Array Value),bsl own sz k ps=some es→vs.length=ps.length →
  (∀ (i:Nat) p v,ps[i]?=some p→vs[i]?=some v→v.1=p.1∧Rel c p.2 v.2)→(k+ps.length) * sz≤cells.size →
  ∃ cells',Instr.fill (fun i=>some (i * sz,sz)) cells vs=some cells'∧cells'.size=cells.size∧cells'.toList.take (k * sz)=cells.toList.take (k * sz)∧es.length=ps.length∧(∀ ds∈es,ds.length=sz) ∧
   ∀ (j:Nat) d,es.flatten[j]?=some d→∃ u,cells'[k * sz+j]?=some u∧Rep c.F u d:=by
 induction ps with
 | nil =>
  intro k es vs cells h hl _ _;simp at hl;subst hl;simp[bsl] at h;subst h;exact⟨cells,rfl,rfl,rfl,rfl,by simp,by simp⟩
 | cons p ps ih =>
  intro k es vs cells h hl hp hsz;obtain⟨i,s⟩:=p
  cases vs with
  | nil=>simp at hl
  | cons v vs =>
   obtain⟨i',v⟩:=v;obtain⟨rfl,hr⟩:=hp 0 _ _ rfl rfl;simp only[bsl] at h;split at h
   ·rename_i hcond;obtain⟨hk,hf,hlen⟩:=hcond;subst hk;split at h
    ·rename_i ds r hd1 hd2;cases h;simp only[qV] at hsz hl;have hvc:=cells_rel hS.one hr hf;obtain⟨hdl,hdr⟩:=toDs_rel hS _ hvc hd1;have hvl:v.cells.toList.length=sz:=by rw[hvc.1,hlen]
     have hfit:i' * sz+sz≤cells.size:=by
      have:(i'+1) * sz≤(i'+(ps.length+1)) * sz:=Nat.mul_le_mul_right _ (by omega);rw[Nat.add_mul,Nat.one_mul] at this;omega
     have hfold:=zip_fold v.cells.toList 0 (i' * sz) cells (by omega);simp only[Nat.add_zero] at hfold;have hsize1:(v.cells.zipIdx.foldl (fun cs x=>cs.setIfInBounds (i' * sz+x.2) x.1) cells).size=cells.size:=by
      rw[← Array.foldl_toList,Array.toList_zipIdx,← Array.length_toList,hfold];simp only[qP,qW,List.length_drop,Array.length_toList,hvl];simp at hvl;omega
     obtain⟨cells',h1,h2,h3,h4,h5,h6⟩:=ih (i'+1) r vs (v.cells.zipIdx.foldl (fun cs x=>cs.setIfInBounds (i' * sz+x.2) x.1) cells) hd2 (by omega) (fun i p v h1 h2=>hp (i+1) p v (by simpa using h1) (by simpa using h2)) (by
      rw[hsize1];have:i'+1+ps.length=i'+(ps.length+1):=by omega
      rw[this];exact hsz)
     have hlist1:(v.cells.zipIdx.foldl (fun cs x=>cs.setIfInBounds (i' * sz+x.2) x.1) cells).toList=cells.toList.take (i' * sz)++v.cells.toList++cells.toList.drop (i' * sz+v.cells.toList.length):=by
      rw[← Array.foldl_toList,Array.toList_zipIdx,hfold]
     have e1:(i'+1) * sz=i' * sz+sz:=by rw[Nat.add_mul,Nat.one_mul]
     have e0:(cells.toList.take (i' * sz)).length=i' * sz:=by rw[qW,Array.length_toList];omega
     have htake:cells'.toList.take (i' * sz+sz)=cells.toList.take (i' * sz)++v.cells.toList:=by
      rw[← e1,h3,hlist1,e1];exact List.take_left' (by rw[qP,e0,hvl])
     refine⟨cells',?_,by rw[h2,hsize1],?_,by simp[h4],?_,?_⟩
     ·simp only[Instr.fill];rw[if_neg (by simp at hvl;simp[hvl];omega)];exact h1
     ·have:(cells'.toList.take (i' * sz+sz)).take (i' * sz)=cells'.toList.take (i' * sz):=by rw[List.take_take];congr 1;omega
      rw[← this,htake,List.take_append,List.take_of_length_le (by omega),e0];simp
     ·intro d hd;simp at hd;rcases hd with rfl | hd
      ·rw[hdl,hlen]
      ·exact h5 d hd
     ·intro j d hj;rw[List.flatten_cons] at hj;by_cases hjs:j<sz
      ·rw[qM (by rw[hdl,hlen];exact hjs)] at hj;obtain⟨u,hu,hru⟩:=hdr j d hj;refine⟨u,?_,hru⟩;have:cells'.toList[i' * sz+j]?=(cells'.toList.take (i' * sz+sz))[i' * sz+j]?:=by rw[List.getElem?_take,if_pos (by omega)]
       rw[← Array.getElem?_toList,this,htake,qN (by omega),e0];rw[Nat.add_sub_cancel_left];exact hu
      ·rw[qN (by rw[hdl,hlen];omega),hdl,hlen] at hj;obtain⟨u,hu,hru⟩:=h6 _ d hj;refine⟨u,?_,hru⟩;rw[e1] at hu;have:i' * sz+sz+(j - sz)=i' * sz+j:=by omega
       rwa [this] at hu
    ·cases h
   ·cases h
theorem bsl_len {sz:Nat}(ps:List (Nat×SV)):∀ (k:Nat)(es:List (List D)),bsl own sz k ps=some es→es.length=ps.length:=by
 induction ps with
 | nil=>intro k es h;simp[bsl] at h;subst h;rfl
 | cons p ps ih =>
  intro k es h;obtain⟨i,s⟩:=p;simp only[bsl] at h;split at h
  ·split at h
   ·rename_i ds r h1 h2;cases h;simp[ih _ _ h2]
   ·cases h
  ·cases h
theorem bslice_run (hS:Sat c own w){t e sz n:Nat}{ps:List (Nat×Operand)}{f:Operand→SV}(ht:P.underlying t=some (.slice e))(hs:sizeB P e=some sz){z:Value}(hz:zeroB P e=some z)(_h0:sz≠0)
  (hf:∀ x,Rel c (f x) (a.eval x)) {es:List (List D)} (hb:bsl own sz 0 (ps.map fun p=>(p.1,f p.2))=some es) (hlen:es.length=n) (hle:n * sz≤16777216) :
  ∃ cells',(Instr.buildSlice t n (ps.map fun p=>(p.1,a.eval p.2)).toArray).run P w=.ok (.slice (some ⟨w.heap.size,0,none⟩) n n) (w.alloc (.cells cells' e))∧cells'.size=n * sz∧(∀ ds∈es,ds.length=sz) ∧
   ∀ (j:Nat) d,es.flatten[j]?=some d→∃ u,cells'[j]?=some u∧Rep c.F u d:=by
 have hpl:=bsl_len _ _ _ hb;rw[hlen,qO] at hpl;obtain⟨cells',h1,h2,_,h4,h5,h6⟩:=bsl_fill hS (ps.map fun p=>(p.1,f p.2)) 0 es (ps.map fun p=>(p.1,a.eval p.2)) ((Array.range (n * sz)).map (z.cells[· % z.cells.size]!)) hb (by simp) (fun i p v h1 h2=>by
  simp only[qI,Option.map_eq_some_iff] at h1 h2;obtain⟨q,hq,rfl⟩:=h1;obtain⟨q',hq',rfl⟩:=h2;rw[hq] at hq';cases hq';exact⟨rfl,hf _⟩) (by simp[← hpl])
 simp only[Array.size_map,Array.size_range] at h2;refine⟨cells',?_,h2,h5,fun j d hj=>?_⟩
 ·simp only[Instr.buildSlice,qG,run_underlying ht,qF,run_sizeOf hs];rw[if_neg (by simpa using hle)];by_cases hn:n * sz=0
  ·have e0:((Array.range (n * sz)).map fun x=>z.cells[x % z.cells.size]!)=(Array.range (n * sz)).map fun x=>(#[]:Array Value)[x % (#[]:Array Value).size]!:=by rw[hn];simp
   rw[e0] at h1;rw[if_pos hn];simp only[qG,qF,Sem.run_pure,h1,newRow,run_newObj,World.alloc_eq]
  ·rw[if_neg hn];simp only[qG,run_zeroB hz,qF,Sem.run_pure,h1,newRow,run_newObj,World.alloc_eq]
 ·obtain⟨u,hu,hr⟩:=h6 j d hj;rw[Nat.zero_mul,Nat.zero_add] at hu;exact⟨u,hu,hr⟩
theorem bsliceN_sound (hS:Sat c own w){t e sz n:Nat}{ps:List (Nat×Operand)}{f:Operand→SV}(ht:P.underlying t=some (.slice e))(hs:sizeB P e=some sz){z:Value}(hz:zeroB P e=some z)(h0:sz≠0)
  (hf:∀ x,Rel c (f x) (a.eval x)) (h:BsliceN own e sz n (bsl own sz 0 (ps.map fun p=>(p.1,f p.2))) K) :
  ∃ u w',(Instr.buildSlice t n (ps.map fun p=>(p.1,a.eval p.2)).toArray).run P w=.ok u w'∧Fin c own w a o.dst K (a.put o.dst u) w':=by
 unfold BsliceN at h;split at h
 ·rename_i es hb;obtain⟨hlen,hle,hK⟩:=h;obtain⟨cells',hrun,h2,h5,h6⟩:=bslice_run hS ht hs hz h0 hf hb hlen hle;obtain⟨k1,k2,k3⟩:=hS.alloc (.cells cells' e) (.slice (some ⟨w.heap.size,0,none⟩) n n) (.row e sz es) rfl rfl
   ⟨h5,cells'.toList,⟨by simp[h2,hlen],.inr ⟨w.heap.size,n,cells',by rw[hlen],Nat.zero_le _,heap_alloc_new w _,by omega,by
    simp only[maxLen];have:n≤n * sz:=Nat.le_mul_of_pos_right n (Nat.pos_of_ne_zero h0);omega,h2,by rw[hlen,← h2,← Array.length_toList,List.take_length]⟩⟩,fun j d hj=>by
     obtain⟨u,hu,hr⟩:=h6 j d hj;exact⟨u,by simpa using hu,hr.mono (c.push_le _).f⟩⟩
  exact⟨_,_,hrun,_,_,_,_,rfl,.hd (by simp[Cx.push,hS.n]) (by simp[Cx.push,hS.n]),k1,k2,k3,hK⟩
 ·exact h.elim
theorem src_rel (hS:Sat c own w){s:SV}{u:Value}{ys:List (List D)}{sz:Nat}(hr:Rel c s u)(hs:src own s=some ys)(hd:∀ ds∈ys,ds.length=sz) :
  (ys=[]∧u=.slice none 0 0)∨∃ (ad:Addr)(cap:Nat)(news:List Value),u=.slice (some ad) ys.length cap∧news.length=ys.length * sz∧(∀ (j:Nat) v,news[j]?=some v→w.cell? (ad.add j)=some v) ∧
   (∀ v∈news,v.oneCell'=true)∧∀ (j:Nat) d,ys.flatten[j]?=some d→∃ v,news[j]?=some v∧Rep c.F v d:=by
 unfold src at hs;split at hs
 ·rename_i es;cases hs;cases hr with | d hr =>
  cases hr with
  | nil ad cap h0 =>
   cases ad with
   | none=>rw[h0 rfl];exact .inl ⟨rfl,rfl⟩
   | some ad=>exact .inr ⟨ad,cap,[],rfl,by simp,by simp,by simp,by simp⟩
  | sl b off cap cs e fr _ sz' g hF hcap hsz hc hrep =>
   refine .inr ⟨⟨b,off,none⟩,cap,(List.range (ys.length * sz)).map fun q=>g (q / sz) (q % sz),rfl,by simp,?_,?_,?_⟩
   ·intro j v hj;simp only[qI,Option.map_eq_some_iff] at hj;obtain⟨q,hq,rfl⟩:=hj;have hlt:j<ys.length * sz:=by have:=(qC.1 hq).1;simpa using this
    rw[List.getElem?_range hlt] at hq;cases hq;have hspos:0<sz:=by rcases Nat.eq_zero_or_pos sz with h | h;(subst h;simp at hlt);exact h
    have hqd:j / sz<ys.length:=(Nat.div_lt_iff_lt_mul hspos).2 hlt;have hqm:j % sz<sz:=Nat.mod_lt _ hspos;have hl:=hd ys[j / sz] (by simp);have hget:ys[j / sz]?=some ys[j / sz]:=by simp[hqd]
    have hsz':=hsz _ _ hget;rw[add_none,cell_of_row w b _ _ _ _ (hS.le b _ hF)];have:=hc (j / sz) _ (j % sz) (ys[j / sz][j % sz]'(by omega)) hget (by simp[hl,hqm]);rw[← hsz',hl] at this;have e1:off+j / sz * sz+j % sz=off+j:=by rw[Nat.add_assoc,Nat.mul_comm (j / sz) sz,Nat.div_add_mod]
    rwa [e1] at this
   ·intro v hv;simp only[List.mem_map,List.mem_range] at hv;obtain⟨q,hq,rfl⟩:=hv;have hspos:0<sz:=by rcases Nat.eq_zero_or_pos sz with h | h;(subst h;simp at hq);exact h
    have hqd:q / sz<ys.length:=(Nat.div_lt_iff_lt_mul hspos).2 hq;have hqm:q % sz<sz:=Nat.mod_lt _ hspos;have hl:=hd ys[q / sz] (by simp);exact(hrep (q / sz) ys[q / sz] (q % sz) (ys[q / sz][q % sz]'(by omega)) (by simp[hqd]) (by simp[hl,hqm])).one
   ·intro j d hj;have hlt:j<ys.length * sz:=by have:=(qC.1 hj).1;rwa [flatten_len hd] at this
    have hspos:0<sz:=by rcases Nat.eq_zero_or_pos sz with h | h;(subst h;simp at hlt);exact h
    have hqd:j / sz<ys.length:=(Nat.div_lt_iff_lt_mul hspos).2 hlt;have hqm:j % sz<sz:=Nat.mod_lt _ hspos;have hfl:=flatten_get hd (j / sz) (j % sz) ys[j / sz] (by simp[hqd]) hqm;have e1:j / sz * sz+j % sz=j:=by rw[Nat.mul_comm];exact Nat.div_add_mod j sz
    rw[e1,hj] at hfl;exact⟨g (j / sz) (j % sz),by simp[List.getElem?_range hlt],hrep _ _ _ d (by simp[hqd]) hfl.symm⟩
 ·cases hs;exact .inl ⟨rfl,hr.of_val⟩
 ·rename_i r;split at hs
  ·rename_i ty sz' es hg;cases hs;have hx:=getr_some hg (by simp);obtain⟨hd',us,⟨hn,hv⟩,hc⟩:=hS.res r _ hx;cases hr with | hd hr hv' =>
   rcases hv with ⟨hv,h0⟩ | ⟨b,cap,cur,hv,_,hb,hle,hm,hcs,htake⟩
   ·exact .inl ⟨List.eq_nil_of_length_eq_zero h0,by rw[← hv',hv]⟩
   ·have hsz':ys.length * sz'=ys.length * sz:=by
     rcases Nat.eq_zero_or_pos ys.length with h | h
     ·rw[h];simp
     ·have:ys[0]∈ys:=by simp
      rw[← hd' _ this,← hd _ this]
    refine .inr ⟨⟨b,0,none⟩,cap,us,by rw[← hv',hv],by rw[hn,hsz'],?_,?_,hc⟩
    ·intro j v hj;rw[add_none,cell_of_row w b _ _ _ _ hb];rw[← htake,List.getElem?_take] at hj;split at hj
     ·rw[Nat.zero_add];simpa using hj
     ·cases hj
    ·intro v hv;obtain⟨i,hi⟩:=List.getElem?_of_mem hv;have hlt:i<ys.flatten.length:=by rw[flatten_len hd',← hn];exact(qC.1 hi).1
     obtain⟨u,hu,hr⟩:=hc i ys.flatten[i] (by simp[]);rw[hu] at hi;cases hi;exact hr.one
  ·cases hs
 ·cases hs
theorem numsOf_one : ∀ {es:List (List D)}{ns:List Int},numsOf es=some ns→es=ns.map fun n=>[.val (.int .u8 n)]
 | [],ns,h=>by simp[numsOf] at h;subst h;rfl
 | ds::l,ns,h=>by
  unfold numsOf at h;split at h
  ·cases h;simp_all
  ·rename_i n l' he;cases he;rw[Option.map_eq_some_iff] at h;obtain⟨ns',h1,rfl⟩:=h;simp[← numsOf_one h1]
  ·cases h
theorem flat_one (ns:List Int):(ns.map fun n=>[D.val (.int .u8 n)]).flatten=ns.map fun n=>D.val (.int .u8 n):=by
 induction ns with
 | nil=>rfl
 | cons a l ih=>simp[ih]
theorem b2sN_sound (hS:Sat c own w){x:SV}{u:Value}{K:SV→Prop}{s t e:TypeId}(hs:P.underlying s=some (.slice e))(he:P.underlying e=some (.int .u8))(ht:P.underlying t=some .string)
  (hx:Rel c x u) (h:B2sN (src own x) K):∃ p sv,(convert s t u).run P w=.ok p w∧Rel c sv p∧K sv:=by
 unfold B2sN at h;split at h
 ·rename_i es hes;obtain⟨ns,hn,hK⟩:=h;have hes':=numsOf_one hn;rcases src_rel (sz:=1) hS hx hes (fun ds hd=>by rw[hes'] at hd;simp only[List.mem_map] at hd;obtain⟨n,_,rfl⟩:=hd;rfl) with ⟨h0,rfl⟩ | ⟨ad,cap,news,rfl,hl,hcell,_,hr⟩
  ·have h0':ns=[]:=by rw[h0] at hes';exact(List.map_eq_nil_iff.1 hes'.symm)
   subst h0';exact⟨_,_,run_convert_bytes_nil w s e hs he 0 0 t ht,.d (.val _ rfl),hK⟩
  ·have hnews:news=ns.map (Value.int .u8):=by
    apply List.ext_getElem?;intro j;have hfl:es.flatten=ns.map fun n=>D.val (.int .u8 n):=by rw[hes'];exact flat_one ns
    rw[qI]
    cases hj:ns[j]? with
    | none =>
     have hge:ns.length≤j:=by rwa [List.getElem?_eq_none_iff] at hj
     rw[qX (by rw[hl,hes'];simpa using hge)];rfl
    | some n =>
     obtain⟨v,h1,h2⟩:=hr j (.val (.int .u8 n)) (by rw[hfl,qI,hj];rfl);obtain⟨rfl,_⟩:=Rep.val_iff.1 h2;rw[h1];rfl
   have hload:(loadCells ad es.length).run P w=.ok (ns.map (Value.int .u8)).toArray w:=by
    have:=run_loadCells_list (P:=P) w ad news hcell;rw[hnews] at this;have hlen:es.length=(ns.map (Value.int .u8)).length:=by rw[hes'];simp
    rw[hlen];exact this
   refine⟨_,_,?_,.d (.val _ rfl),hK⟩;rw[run_convert_bytes_string w s t e _ es.length cap hs he ht,run_bytesToString w _ es.length cap ns hload,foldl_push_bytes];simp[strOfNums,ByteArray.empty,ByteArray.emptyWithCapacity];rfl
 ·exact h.elim
theorem flatten_append_get {xs ys:List (List D)}{us vs:List Value}{F:Fz}{sz:Nat}(hl:us.length=xs.length * sz)(hd:∀ ds∈xs,ds.length=sz)(h1:∀ (j:Nat) d,xs.flatten[j]?=some d→∃ u,us[j]?=some u∧Rep F u d)
  (h2:∀ (j:Nat) d,ys.flatten[j]?=some d→∃ u,vs[j]?=some u∧Rep F u d):∀ (j:Nat) d,(xs++ys).flatten[j]?=some d→∃ u,(us++vs)[j]?=some u∧Rep F u d:=by
 intro j d hj;have hx:xs.flatten.length=us.length:=by rw[flatten_len hd,hl]
 rw[List.flatten_append] at hj;by_cases h:j<us.length
 ·rw[qM (by omega)] at hj;rw[qM h];exact h1 j d hj
 ·rw[qN (by omega),hx] at hj;rw[qN (by omega)];exact h2 _ d hj
theorem appN_sound (hS:Sat c own w){t ty e:TypeId}{i:TypeInfo}{z:Value}(ht:P.underlying t=some (.slice e))(hi:P.info? e=some i)(hz:i.zero=some z)(hzs:z.cells.size=i.size)(hpos:0<i.size)
  {x y:SV} {u v:Value} (hx:Rel c x u) (hy:Rel c y v) (h:AppN own e i.size i.bytes x (src own y) K) :
  ∃ r w',(Builtin.append_ #[t,t] ty #[u,v]).run P w=.ok r w'∧Fin c own w a o.dst K (a.put o.dst r) w':=by
 unfold AppN at h;split at h
 ·exact h.elim
 rename_i ys hys;have step:∀ (xs:List (List D))(us:List Value)(own0:List Res),(∀ ds∈ys,ds.length=i.size)→(xs.length+ys.length) * i.bytes≤140737488355328→xs.length+ys.length≤maxLen→(∀ ds∈xs,ds.length=i.size) →
   w.ownsRow 0 e i.size u xs.length us→(∀ (j:Nat) d,xs.flatten[j]?=some d→∃ u,us[j]?=some u∧Rep c.F u d)→own0.length=own.length →
   (∀ (s:Nat) y,own0[s]?=some y→y=.gone∨(own[s]?=some y∧(y.live=true→∀ b,blkOf u=some b→blkOf (c.θ s)≠some b)))→(∀ b,blkOf u=some b→Own c own b) →
   K (.hd own.length) (own0++[.row e i.size (xs++ys)])→∃ r w',(Builtin.append_ #[t,t] ty #[u,v]).run P w=.ok r w'∧Fin c own w a o.dst K (a.put o.dst r) w':=by
  intro xs us own0 hd hby h63 hdx hown hus hl0 h0 hrow hK;have hdxy:∀ ds∈xs++ys,ds.length=i.size:=fun ds hm=>by
   rcases qT.1 hm with h | h
   ·exact hdx ds h
   ·exact hd ds h
  have hob:u.ownBlock=blkOf u:=by
   rcases hown.2 with ⟨rfl,_⟩ | ⟨g,cap,cur,rfl,_⟩<;>rfl
  have h48:(xs.length+ys.length) * i.bytes≤281474976710656:=by omega
  rcases src_rel hS hy hys hd with ⟨rfl,rfl⟩ | ⟨ad,cap,news,rfl,hnl,hnews,hone,hnr⟩
  ·
   have hrun:=run_append_owned_none (P:=P) w 0 t ty e i i.size ht hi u xs.length us hown;have hvone:u.oneCell'=true:=by rcases hown.2 with ⟨rfl,_⟩ | ⟨g,cap,cur,rfl,_⟩<;>rfl
   obtain⟨k1,k2,k3⟩:=hS.push (w':=w) (blkOf u) own0 hl0 h0 hrow rfl rfl rfl (qQ _) (fun _ _ _=>rfl) u (.row e i.size (xs++[])) hvone (fun b hb=>.inr hb)
    ⟨hdxy,us,by simpa using hown,fun j d hj=>by
     obtain⟨u,h1,h2⟩:=hus j d (by simpa using hj);exact⟨u,h1,h2.mono (c.push_le _).f⟩⟩
   exact⟨_,_,hrun,_,_,_,_,rfl,.hd (by simp[Cx.push,hS.n]) (by simp[Cx.push,hS.n]),k1,k2,k3,hK⟩
  ·obtain⟨v',w',hrun,hown',hg,hnil⟩:=run_append_own (P:=P) w 0 t ty e i z i.size i.bytes ht hi hz rfl rfl hzs hpos u xs.length us hown ad ys.length cap news hnl hnews hone h63 hby (Nat.zero_le _);have hvone:v'.oneCell'=true:=by rcases hown'.2 with ⟨rfl,_⟩ | ⟨g,cap,cur,rfl,_⟩<;>rfl
   have hfresh:∀ b,blkOf v'=some b→w.heap.size≤b∨blkOf u=some b:=by
    intro b hb;rcases hown.2 with ⟨rfl,hx0⟩ | ⟨g,cp,cur,rfl,_,hgb,hle,_,hcs,_⟩
    ·by_cases hm:ys.length=0
     ·rw[hnil.2 ⟨rfl,hm⟩] at hb;cases hb
     ·have:=run_append_nil (P:=P) w t ty e i z ht hi hz ad ys.length cap news hnl hnews (by omega) (by simp only[maxLen] at h63;omega) (by rw[hx0,Nat.zero_add] at h48;exact h48);rw[this] at hrun;cases hrun;simp[blkOf] at hb;exact .inl (by omega)
    ·by_cases hroom:xs.length+ys.length≤cp
     ·have:=run_append_room (P:=P) w t ty e i ht hi g xs.length cp cur hgb ad ys.length cap news hnl hnews hone hroom (by rw[hnl,hcs,← Nat.add_mul];exact Nat.mul_le_mul_right _ hroom);rw[this] at hrun;cases hrun;exact .inr (by simpa [blkOf] using hb)
     ·have:=run_append_grow (P:=P) w t ty e i z ht hi hz ⟨g,0,none⟩ xs.length cp us hown.1 (hown.cells (g:=g) rfl) ad ys.length cap news hnl hnews (by omega) (by simp only[maxLen] at h63;omega) (growslice_fits (by omega) hby);rw[this] at hrun;cases hrun;simp[blkOf] at hb;exact .inl (by omega)
   obtain⟨k1,k2,k3⟩:=hS.push (w':=w') (blkOf u) own0 hl0 h0 hrow hg.os hg.tape hg.output hg.size (fun b hb hne=>hg.block b hb (by rw[hob];exact hne)) v' (.row e i.size (xs++ys)) hvone hfresh
    ⟨hdxy,us++news,by rw[qP];exact hown',fun j d hj=>by
     obtain⟨u,h1,h2⟩:=flatten_append_get hown.1 hdx hus hnr j d hj;exact⟨u,h1,h2.mono (c.push_le _).f⟩⟩
   exact⟨_,_,hrun,_,_,_,_,rfl,.hd (by simp[Cx.push,hS.n]) (by simp[Cx.push,hS.n]),k1,k2,k3,hK⟩
 split at h
 ·obtain rfl:=hx.of_val;obtain⟨h1,h2,h3,hK⟩:=h;exact step [] [] own h1 (by simpa using h2) (by simpa using h3) (by simp) (World.ownsRow_nil w 0 e i.size) (by simp) rfl (fun s y hy=>.inr ⟨hy,fun _ b hb=>by cases hb⟩) (fun b hb=>by cases hb) (by simpa using hK)
 ·rename_i r;split at h
  ·rename_i ty' sz' xs hg;obtain⟨rfl,rfl,h1,h2,h3,hK⟩:=h;have hx':=getr_some hg (by simp);obtain⟨hdx,us,hown,hus⟩:=hS.res r _ hx';cases hx with | hd hr hv =>
   rw[hv] at hown;have hrlt:r<own.length:=(qC.1 hx').1;rw[setr_eq] at hK;refine step xs us (own.set r .gone) h1 h2 h3 hdx hown hus (by simp) (fun s y hy=>?_) (fun b hb=>⟨r,_,hx',rfl,by rw[hv];exact hb⟩) hK;rw[List.getElem?_set] at hy;split at hy
   ·rename_i e';subst e';simp[] at hy;exact .inl hy.symm
   ·rename_i e';exact .inr ⟨hy,fun hl b hb hb'=>e' (hS.apart r s _ y b hx' hy rfl hl (by rw[hv];exact hb) hb')⟩
  ·exact h.elim
 ·exact h.elim
end
end Go.SX
namespace Go.SX
open Go
variable [Tabs]
section
variable {P:Program}{c:Cx}{own:List Res}{env:List SV}{a:Act}{w w':World}{o:Oper}{K:SV→List Res→Prop}{Q:Exit→Act→World→Prop}
def RelO (c:Cx):Option SV→Option Value→Prop
 | none,none=>True
 | some s,some u=>Rel c s u
 | _,_=>False
theorem relO_map {f:Operand→SV}(hf:∀ x,Rel c (f x) (a.eval x))(x:Option Operand):RelO c (x.map f) (x.map a.eval):=by
 cases x with
 | none=>trivial
 | some x=>exact hf x
theorem bnd_inv {dflt:Int}{x:Option SV}{u:Option Value}{n:Int}(hr:RelO c x u)(h:bnd dflt x=some n):(u=none∧n=dflt)∨∃ k,u=some (.int k n):=by
 cases x with
 | none =>
  cases u with
  | none=>simp[bnd] at h;exact .inl ⟨rfl,h.symm⟩
  | some v=>exact hr.elim
 | some s =>
  cases u with
  | none=>exact hr.elim
  | some v =>
   unfold bnd at h;split at h
   ·rename_i e;cases e
   ·rename_i e;cases e;cases h;obtain rfl:=Rel.of_val hr;exact .inr ⟨_,rfl⟩
   ·cases h
theorem bnds {isS:Bool}{lo hi:Option SV}{u v:Option Value}{len cap:Nat}{l h:Int}(hl:RelO c lo u)(hh:RelO c hi v)(h1:bnd 0 lo=some l)(h2:bnd len hi=some h)(h0:0≤l)(hlh:l≤h)(hhc:h≤cap) :
  (Instr.sliceBounds isS len cap u v none).run P w=.ok (l.toNat,h.toNat,cap) w:=by
 have e1:∀ k code,(Instr.sliceBound (.int k h) cap code).run P w=.ok h.toNat w:=fun k code=>run_sliceBound w k h cap code (by omega) hhc
 have e2:∀ k code,(Instr.sliceBound (.int k l) h.toNat code).run P w=.ok l.toNat w:=fun k code=>run_sliceBound w k l h.toNat code h0 (by omega)
 rcases bnd_inv hl h1 with ⟨rfl,rfl⟩ | ⟨k,rfl⟩<;>rcases bnd_inv hh h2 with ⟨rfl,rfl⟩ | ⟨k',rfl⟩
 ·simp[Instr.sliceBounds]
 ·simp[Instr.sliceBounds,e1]
 ·have e3:(Instr.sliceBound (.int k l) len .sliceB).run P w=.ok l.toNat w:=by have:=e2 k .sliceB;simpa using this
  simp[Instr.sliceBounds,e3]
 ·simp[Instr.sliceBounds,e1,e2]
theorem slcN_sound (_hS:Sat c own w){t e:TypeId}{sz:Nat}{x:SV}{lo hi:Option SV}{u:Value}{lv hv:Option Value}{K:SV→Prop}(ht:P.underlying t=some (.slice e))(hs:sizeB P e=some sz)
  (hx:Rel c x u) (hl:RelO c lo lv) (hh:RelO c hi hv) (h:SlcN sz x lo hi K):∃ v sv,(Instr.sliceAt t u lv hv none).run P w=.ok v w∧Rel c sv v∧K sv:=by
 unfold SlcN at h;split at h
 ·rename_i es;split at h
  ·rename_i l h' h1 h2;obtain⟨h0,hlh,hhe,hd,hK⟩:=h;cases hx with | d hx =>
   have run:∀ (ad:Option Addr)(cap:Nat),es.length≤cap→(Instr.sliceAt t (.slice ad es.length cap) lv hv none).run P w =
     .ok (.slice (if cap=l.toNat then ad else ad.map (·.add (l.toNat * sz))) (h'.toNat - l.toNat) (cap - l.toNat)) w:=fun ad cap hc=>by
    have hb:=bnds (P:=P) (w:=w) (isS:=true) (cap:=cap) hl hh h1 h2 h0 hlh (by omega);simp only[Instr.sliceAt,qG,run_underlying ht,qF,Instr.slice,hb,run_sizeOf hs,Sem.run_pure]
   suffices hgoal:∃ v,(Instr.sliceAt t u lv hv none).run P w=.ok v w∧Rep c.F v (.sl ((es.take h'.toNat).drop l.toNat)) from let ⟨v,g1,g2⟩:=hgoal;⟨v,_,g1,.d g2,hK⟩
   cases hx with
   | nil ad cap hn =>
    refine⟨_,run ad cap (by simp),?_⟩;simp only[List.take_nil,List.drop_nil];have e1:h'.toNat - l.toNat=0:=by simp at hhe;omega
    have e2:l.toNat=0:=by simp at hhe;omega
    rw[e1,e2];refine .nil _ _ fun hnone=>?_
    split at hnone
    ·rw[hn hnone]
    ·simp at hnone;rw[hn hnone]
   | sl b off cap cs e' fr es sz' g hF hcap hsz hc hr =>
    refine⟨_,run _ cap hcap,?_⟩;by_cases heq:h'=l
    ·subst heq;have:(es.take h'.toNat).drop h'.toNat=[]:=by rw[List.drop_eq_nil_iff,qW];omega
     rw[this,Nat.sub_self];refine .nil _ _ fun hnone=>?_
     split at hnone<;>simp at hnone
    ·have hne:¬ cap=l.toNat:=by omega
     have hlt:l.toNat<es.length:=by omega
     have hl0:=hd es[l.toNat] (by simp);have hl1:=hsz l.toNat es[l.toNat] (by simp[hlt]);have hss:sz'=sz:=by rw[← hl1,hl0]
     subst hss;rw[if_neg hne];simp only[qS,add_none];have hlen:((es.take h'.toNat).drop l.toNat).length=h'.toNat - l.toNat:=by simp;omega
     have hget:∀ (i:Nat) ds,((es.take h'.toNat).drop l.toNat)[i]?=some ds→es[l.toNat+i]?=some ds:=fun i ds hi=>by
      rw[List.getElem?_drop,List.getElem?_take] at hi;split at hi
      ·exact hi
      ·cases hi
     rw[← hlen];refine .sl b (off+l.toNat * sz') _ cs e' fr _ sz' (fun i j=>g (l.toNat+i) j) hF (by rw[hlen];omega) (fun i ds hi=>hsz _ ds (hget i ds hi)) (fun i ds j d hi hj=>?_) (fun i ds j d hi hj=>hr _ ds j d (hget i ds hi) hj);have:=hc _ ds j d (hget i ds hi) hj;rw[Nat.add_mul] at this;have e:off+l.toNat * sz'+i * sz'+j=off+(l.toNat * sz'+i * sz')+j:=by omega
     rw[e];exact this
  ·exact h.elim
 ·exact h.elim
theorem nilN_sound (hS:Sat c own w){t:TypeId}{n:Bool}{x:SV}{u:Value}{K:SV→Prop}(ht:∃ e,P.underlying t=some (.slice e))(hx:Rel c x u)(h:NilN own x (fun b=>K (.d (.val (.bool (b != n)))))){ox oy:Operand} :
  ∃ v sv,(do eqGuard (if n then .neq else .eql) t ox oy u (.slice none 0 0);binOp (if n then .neq else .eql) t u (.slice none 0 0):Sem Value).run P w=.ok v w∧Rel c sv v∧K sv:=by
 obtain⟨te,ht⟩:=ht;have key:∀ (p:Option Addr)(m k:Nat),(Op.equal t (.slice p m k) (.slice none 0 0)).run P w=.ok p.isNone w:=by
  intro p m k;unfold Op.equal;rw[show Op.maxDepth=9999+1 from rfl,Op.equalIn];simp only[qG,run_underlying ht,qF,Sem.run_pure];cases p<;>rfl
 have run:∀ (p:Option Addr)(m k:Nat),(do eqGuard (if n then .neq else .eql) t ox oy (.slice p m k) (.slice none 0 0);binOp (if n then .neq else .eql) t (.slice p m k) (.slice none 0 0):Sem Value).run P w=.ok (.bool (p.isNone != n)) w:=by
  intro p m k;have hg:(eqGuard (if n then .neq else .eql) t ox oy (.slice p m k) (.slice none 0 0)).run P w=.ok () w:=by cases n<;>simp[eqGuard]
  rw[qG,hg,qF];cases n
  ·simp only[binOp,Bool.false_eq_true,if_false,qG,key,qF,Sem.run_pure,Bool.bne_false]
  ·simp only[binOp,if_true,qG,key,qF,Sem.run_pure,Bool.bne_true]
 have fin:∀ (p:Option Addr)(m k:Nat),u=.slice p m k→K (.d (.val (.bool (p.isNone != n))))→∃ v sv,(do eqGuard (if n then .neq else .eql) t ox oy u (.slice none 0 0);binOp (if n then .neq else .eql) t u (.slice none 0 0):Sem Value).run P w=.ok v w∧Rel c sv v∧K sv:=by
  rintro p m k rfl hK;exact⟨_,_,run p m k,.d (.val _ rfl),hK⟩
 unfold NilN NilG at h;split at h
 ·exact fin none 0 0 hx.of_val h
 ·rename_i es;obtain⟨h1,h2⟩:=h;cases hx with | d hx =>
  cases hx with
  | nil ad k hk =>
   cases ad with
   | none=>exact fin none 0 k rfl (h1 rfl)
   | some p=>exact fin (some p) 0 k rfl h2
  | sl b off cap cc e fr es sz g hF hcap=>exact fin (some _) _ _ rfl h2
 ·rename_i r;split at h
  ·rename_i ty sz es hg;obtain⟨h1,h2⟩:=h;have hx':=getr_some hg (by simp);obtain⟨hd,us,⟨hn,hv'⟩,hc⟩:=hS.res r _ hx';cases hx with | hd hr hval =>
   rcases hv' with ⟨k1,k2⟩ | ⟨b,cap,cur,k1,_⟩
   ·exact fin none 0 0 (by rw[← hval,k1]) (h1 (List.eq_nil_of_length_eq_zero k2))
   ·exact fin (some _) _ _ (by rw[← hval,k1]) h2
  ·exact h.elim
 ·exact h.elim
theorem slcRN_sound (hS:Sat c own w){t e:TypeId}{sz:Nat}{x:SV}{lo hi:Option SV}{u:Value}{lv hv:Option Value}(ht:P.underlying t=some (.slice e))(hs:sizeB P e=some sz)
  (hx:Rel c x u) (hl:RelO c lo lv) (hh:RelO c hi hv) (h:SlcRN own sz x lo hi K):∃ v,(Instr.sliceAt t u lv hv none).run P w=.ok v w∧Fin c own w a o.dst K (a.put o.dst v) w:=by
 unfold SlcRN at h;split at h
 ·rename_i r;split at h
  ·rename_i ty s es hg;have hx':=getr_some hg (by simp);obtain⟨hd,us,⟨hn,hv'⟩,hc⟩:=hS.res r _ hx';have hrlt:r<own.length:=(qC.1 hx').1;cases hx with | hd hr hval =>
   obtain⟨ad,cap,hu,hcap,hmax,had⟩:∃ ad cap,c.θ r=.slice ad es.length cap∧es.length≤cap∧cap≤maxLen∧((ad=none∧cap=0)∨∃ b cur,ad=some ⟨b,0,none⟩∧w.heap[b]?=some (.cells cur ty (0,0))∧cur.size=cap * s∧cur.toList.take (es.length * s)=us):=by
    rcases hv' with ⟨h1,h2⟩ | ⟨b,cap,cur,h1,_,h2,h3,h4,h5,h6⟩
    ·exact⟨none,0,by rw[h1,h2],by omega,by simp[maxLen],.inl ⟨rfl,rfl⟩⟩
    ·exact⟨_,cap,h1,h3,h4,.inr ⟨b,cur,rfl,h2,h5,h6⟩⟩
   have run:∀ (l h':Int),bnd 0 lo=some l→bnd es.length hi=some h'→0≤l→l≤h'→h'≤es.length→(Instr.sliceAt t u lv hv none).run P w =
     .ok (.slice (if cap=l.toNat then ad else ad.map (·.add (l.toNat * sz))) (h'.toNat - l.toNat) (cap - l.toNat)) w:=fun l h' h1 h2 h0 hlh hle=>by
    have hb:=bnds (P:=P) (w:=w) (isS:=true) (cap:=cap) hl hh h1 h2 h0 hlh (by omega);rw[← hval,hu];simp only[Instr.sliceAt,qG,run_underlying ht,qF,Instr.slice,hb,run_sizeOf hs,Sem.run_pure]
   split at h
   ·
    rename_i kk h';obtain⟨h0,hle,hK⟩:=h;refine⟨_,run 0 h' rfl rfl (Int.le_refl _) h0 hle,?_⟩;simp only[Int.toNat_zero,Nat.zero_mul,Nat.sub_zero];have had0:(if cap=0 then ad else ad.map (·.add 0))=ad:=by
     split
     ·rfl
     ·rcases had with ⟨rfl,_⟩ | ⟨b,cur,rfl,_⟩
      ·rfl
      ·simp[add_none]
    rw[had0];have hlen:(es.take h'.toNat).length=h'.toNat:=by rw[qW];omega
    have hsplit:es.flatten=(es.take h'.toNat).flatten++(es.drop h'.toNat).flatten:=by rw[← List.flatten_append,List.take_append_drop]
    have hd':∀ ds∈es.take h'.toNat,ds.length=s:=fun ds hm=>hd ds (List.mem_of_mem_take hm)
    have hle':h'.toNat * s≤es.length * s:=Nat.mul_le_mul_right _ (by omega);have hres:ResOk (c.push (.slice ad h'.toNat cap)) w (.slice ad h'.toNat cap) (.row ty s (es.take h'.toNat)):=by
     refine⟨hd',us.take (h'.toNat * s),⟨by rw[qW,hlen,hn];omega,?_⟩,fun j d hj=>?_⟩
     ·rcases had with ⟨rfl,rfl⟩ | ⟨b,cur,rfl,h2,h5,h6⟩
      ·left
       have:h'.toNat=0:=by omega
       rw[hlen,this];exact⟨rfl,rfl⟩
      ·right
       refine⟨b,cap,cur,by rw[hlen],Nat.zero_le _,h2,by omega,hmax,h5,?_⟩;rw[hlen,← h6,List.take_take,Nat.min_eq_left hle']
     ·have hlt:=(qC.1 hj).1;rw[flatten_len hd',hlen] at hlt;obtain⟨u',k1,k2⟩:=hc j d (by rw[hsplit,qM (qC.1 hj).1];exact hj);exact⟨u',by rw[List.getElem?_take,if_pos hlt];exact k1,k2.mono (c.push_le _).f⟩
    obtain⟨k1,k2,k3⟩:=hS.push (w':=w) (blkOf (c.θ r)) (own.set r .gone) (by simp) (fun q y hy=>by
      rw[List.getElem?_set] at hy;split at hy
      ·rename_i e';subst e';simp[] at hy;exact .inl hy.symm
      ·rename_i e';exact .inr ⟨hy,fun hl b hb hb'=>e' (hS.apart r q _ y b hx' hy rfl hl hb hb')⟩) (fun b hb=>⟨r,_,hx',rfl,hb⟩) rfl rfl rfl (qQ _) (fun _ _ _=>rfl) (.slice ad h'.toNat cap) (.row ty s (es.take h'.toNat)) rfl
      (fun b hb=>.inr (by rw[hu];rcases had with ⟨rfl,_⟩ | ⟨b',cur,rfl,_⟩<;>exact hb)) hres
    rw[setr_eq] at hK;exact⟨_,_,_,_,rfl,.hd (by simp[Cx.push,hS.n]) (by simp[Cx.push,hS.n]),k1,k2,k3,hK⟩
   ·
    rename_i kk l;obtain⟨rfl,h0,hle,hK⟩:=h;refine⟨_,run l es.length rfl rfl h0 hle (Int.le_refl _),fin_same hS (.rs hr ⟨ad,es.length,cap,hu,by omega,by simp⟩) hK⟩
   ·exact h.elim
  ·exact h.elim
 ·unfold SlcNilN at h;split at h
  ·split at h
   ·rename_i kk h';obtain⟨rfl,hK⟩:=h;obtain rfl:=hx.of_val;have hb:=bnds (P:=P) (w:=w) (isS:=true) (cap:=0) (len:=0) hl hh (l:=0) (h:=0) rfl rfl (Int.le_refl _) (Int.le_refl _) (Int.le_refl _);refine⟨_,by simp only[Instr.sliceAt,qG,run_underlying ht,qF,Instr.slice,hb,run_sizeOf hs,Sem.run_pure];rfl,fin_same hS (.d (.val _ rfl)) hK⟩
   ·exact h.elim
  ·exact h.elim
 ·exact h.elim
theorem clrN_sound (hS:Sat c own w){t e ty':TypeId}{z:Value}{K:List Res→Prop}(ht:P.underlying t=some (.slice e))(hz:zeroB P e=some z){x:SV}{u:Value}
  (hx:Rel c x u) (h:ClrN own z.cells.size (toDs own (cval z).cells) x K):∃ w' own',(Builtin.clear_ #[t] ty' #[u]).run P w=.ok (.tuple #[]) w'∧Sat c own' w'∧Goes c own w c own' w'∧K own':=by
 generalize hzs:toDs own (cval z).cells=zz at h;unfold ClrN at h;split at h
 ·rename_i r s i;split at h
  ·rename_i ty s' es zs hg;obtain⟨rfl,rfl,hi,hzl,hK⟩:=h;have hx':=getr_some hg (by simp);obtain⟨hd,us,⟨hn,hv'⟩,hc⟩:=hS.res r _ hx';obtain⟨hdl,hdr⟩:=toDs_rel hS _ (cval_cells (c:=c) (z:=z)) hzs;cases hx with | rs hr hval =>
   obtain⟨ad,n,cap,hu,hin,rfl⟩:=hval;generalize hsz:z.cells.size=sz at *;rw[setr_eq] at hK;by_cases hie:i=es.length
   ·
    have hnn:n=es.length:=by
     rcases hv' with ⟨h1,h2⟩ | ⟨b,cap',cur,h1,_⟩
     ·rw[h1] at hu;cases hu;exact h2.symm
     ·rw[h1] at hu;cases hu;rfl
    have e1:es.take i++List.replicate (es.length - i) zs=es:=by rw[hie,Nat.sub_self];simp
    rw[e1] at hK;have e2:own.set r (.row ty sz es)=own:=by
     apply List.ext_getElem?;intro j;rw[List.getElem?_set];split
     ·rename_i e';subst e';rw[hx'];simp[(qC.1 hx').1]
     ·rfl
    rw[e2] at hK;refine⟨w,own,?_,hS,.refl c own w,hK⟩;have e3:n - i=0:=by omega
    rw[e3];generalize (if cap=i then ad else ad.map (·.add (i * sz)))=ad';cases ad'<;>simp[Builtin.clear_,run_underlying ht]
   ·rcases hv' with ⟨h1,h2⟩ | ⟨b,cap',cur,h1,h0,hb,hcap,hm,hcs,htake⟩
    ·omega
    rw[h1] at hu;cases hu;have hne:¬ cap=i:=by omega
    rw[if_neg hne];simp only[qS,add_none,Nat.zero_add];have hil:i<es.length:=by omega
    obtain⟨m,hm'⟩:∃ m,es.length - i=m+1:=⟨es.length - i - 1,by omega⟩;have hzc:(Builtin.zeroCells z.cells (es.length - i)).toList.length=(es.length - i) * sz:=by simp[Builtin.zeroCells,hsz]
    have hzone:∀ v∈(Builtin.zeroCells z.cells (es.length - i)).toList,v.oneCell'=true:=fun v hv=>by
     simp only[Builtin.zeroCells,Array.toList_map,Array.toList_range,List.mem_map,List.mem_range,hsz] at hv;obtain⟨j,hj,rfl⟩:=hv;have hspos:0<sz:=by rcases Nat.eq_zero_or_pos sz with h | h;(subst h;simp at hj);exact h
     have hjm:j % sz<zs.length:=by rw[hzl];exact Nat.mod_lt _ hspos
     obtain⟨u,hu,hr⟩:=hdr (j % sz) zs[j % sz] (by simp[hjm]);rw[Array.getElem?_toList] at hu;rw[getElem!_def,hu];exact hr.one
    have hfit:i * sz+(es.length - i) * sz=es.length * sz:=by rw[← Nat.add_mul];congr 1;omega
    have hlec:es.length * sz≤cur.size:=by rw[hcs];exact Nat.mul_le_mul_right _ hcap
    have hst:=run_storeCells_at P b (i * sz) ty (Builtin.zeroCells z.cells (es.length - i)).toList 0 cur w hb (by rw[hzc];omega) hzone;simp only[Nat.add_zero] at hst;have hrun:(Builtin.clear_ #[t] ty' #[.slice (some ⟨b,i * sz,none⟩) (es.length - i) (cap - i)]).run P w=.ok (.tuple #[]) (w.setRow b (Go.SX.splice (i * sz) (Builtin.zeroCells z.cells (es.length - i)).toList cur.toList).toArray):=by
     have hzv:=run_zeroB (P:=P) (w:=w) hz;rw[hm'] at hst ⊢;simp only[Builtin.clear_,List.getElem?_toArray,List.getElem?_cons_zero,qG,run_underlying ht,qF,hzv,hst,Sem.run_pure];rfl
    have hd2:∀ ds∈es.take i++List.replicate (es.length - i) zs,ds.length=sz:=fun ds hm=>by
     rcases qT.1 hm with h | h
     ·exact hd ds (List.mem_of_mem_take h)
     ·rw[List.eq_of_mem_replicate h];exact hzl
    have hl2:(es.take i++List.replicate (es.length - i) zs).length=es.length:=by simp;omega
    obtain⟨k1,k2⟩:=hS.update (w':=w.setRow b (Go.SX.splice (i * sz) (Builtin.zeroCells z.cells (es.length - i)).toList cur.toList).toArray) (x':=.row ty sz (es.take i++List.replicate (es.length - i) zs)) hx' rfl rfl (by rw[h1];rfl) rfl rfl rfl (by simp) (fun j hj=>setRow_other w b j _ hj)
     ⟨hd2,(Go.SX.splice (i * sz) (Builtin.zeroCells z.cells (es.length - i)).toList cur.toList).take (es.length * sz),⟨by
       rw[hl2];simp only[Go.SX.splice,qW,qP,List.length_drop,hzc,Array.length_toList];omega,
      .inr ⟨b,_,_,by rw[h1,hl2],h0,setRow_heap w b cur _ ty _ hb,by rw[hl2];exact hcap,hm,by
       simp only[List.size_toArray,Go.SX.splice,qP,qW,List.length_drop,hzc,Array.length_toList];omega,by simp[hl2]⟩⟩,fun q d hq=>by
      have hql:q<es.length * sz:=by
       have:=(qC.1 hq).1
       rwa [flatten_len hd2,hl2] at this
      have hspos:0<sz:=by rcases Nat.eq_zero_or_pos sz with h | h;(subst h;simp at hql);exact h
      rw[List.getElem?_take,if_pos hql];simp only[Go.SX.splice,List.append_assoc];rw[List.flatten_append] at hq;have hft:(es.take i).flatten.length=i * sz:=by rw[flatten_len (fun ds hm=>hd ds (List.mem_of_mem_take hm)),qW];congr 1;omega
      by_cases c1:q<i * sz
      ·rw[qM (by rw[hft];exact c1)] at hq;have hsplit:es.flatten=(es.take i).flatten++(es.drop i).flatten:=by rw[← List.flatten_append,List.take_append_drop]
       obtain⟨u,k1,k2⟩:=hc q d (by rw[hsplit,qM (by rw[hft];exact c1)];exact hq);refine⟨u,?_,k2⟩;rw[qM (by simp;omega),List.getElem?_take,if_pos c1];rw[← htake,List.getElem?_take,if_pos hql] at k1;exact k1
      ·rw[qN (by rw[hft];omega),hft] at hq;have e1:(List.take (i * sz) cur.toList).length=i * sz:=by simp;omega
       rw[qN (by rw[e1];omega),e1,qM (by rw[hzc];omega)];generalize hj:q - i * sz=j at hq;have hjl:j<(es.length - i) * sz:=by omega
       have hqd:j / sz<es.length - i:=(Nat.div_lt_iff_lt_mul hspos).2 hjl;have hqm:j % sz<sz:=Nat.mod_lt _ hspos;have hfl:=flatten_get (es:=List.replicate (es.length - i) zs) (fun ds hm=>by rw[List.eq_of_mem_replicate hm];exact hzl) (j / sz) (j % sz) zs (by simp[hqd]) hqm;have e2:j / sz * sz+j % sz=j:=by rw[Nat.mul_comm];exact Nat.div_add_mod j sz
       rw[e2,hq] at hfl;obtain⟨u,hu,hr⟩:=hdr _ d hfl.symm;refine⟨u,?_,hr⟩;simp only[Builtin.zeroCells,hsz,Array.toList_map,Array.toList_range,qI,List.getElem?_range hjl,qS];rw[Array.getElem?_toList] at hu;rw[getElem!_def,hu]⟩
    exact⟨_,_,hrun,k1,k2,hK⟩
  ·exact h.elim
 ·exact h.elim
theorem slcSN_sound {t:TypeId}{x:SV}{lo hi:Option SV}{u:Value}{lv hv:Option Value}{K:SV→Prop}(ht:P.underlying t=some .string)
  (hx:Rel c x u) (hl:RelO c lo lv) (hh:RelO c hi hv) (h:SlcSN x lo hi K):∃ v sv,(Instr.sliceAt t u lv hv none).run P w=.ok v w∧Rel c sv v∧K sv:=by
 unfold SlcSN at h;split at h
 ·rename_i s;split at h
  ·rename_i l h' h1 h2;obtain⟨h0,hlh,hhe,hK⟩:=h;obtain rfl:=hx.of_val;have hb:=bnds (P:=P) (w:=w) (isS:=false) (cap:=s.size) hl hh h1 h2 h0 hlh (by omega);refine⟨_,_,?_,.d (.val _ rfl),hK⟩;simp[Instr.sliceAt,run_underlying ht,Instr.slice,hb]
  ·exact h.elim
 ·exact h.elim
theorem mksN_sound (hS:Sat c own w){t e sz:Nat}{i:TypeInfo}{z:Value}(ht:P.underlying t=some (.slice e))(hi:P.info? e=some i)(hz:i.zero=some z)(hsz:i.size=sz)
  {l k:SV} {u v:Value} (hl:Rel c l u) (hk:Rel c k v) (h:MksN own e sz i.bytes (toDs own (cval z).cells) l k K) :
  ∃ r w',(Instr.makeSlice t u v).run P w=.ok r w'∧Fin c own w a o.dst K (a.put o.dst r) w':=by
 generalize hzs:toDs own (cval z).cells=zz at h;unfold MksN at h;split at h
 ·rename_i zs n m;obtain⟨hzl,h0,rfl,hby,h63,hK⟩:=h;obtain rfl:=hl.of_val;obtain rfl:=hk.of_val;obtain⟨hdl,hdr⟩:=toDs_rel hS _ (cval_cells (c:=c) (z:=z)) hzs;obtain⟨w1,hrun,hown,hg⟩:=run_make_full (P:=P) w 0 t e i z sz ht hi hz hsz .i64 .i64 n.toNat (by rw[Nat.mul_comm];omega) (by omega) (Nat.zero_le _);have en:((n.toNat:Nat):Int)=n:=by omega
  rw[en] at hrun;have hd:∀ ds∈List.replicate n.toNat zs,ds.length=sz:=fun ds hm=>by rw[List.eq_of_mem_replicate hm];exact hzl
  have hzsz:z.cells.size=zs.length:=by rw[hdl,← (cval_cells (c:=c) (z:=z)).1];simp
  obtain⟨k1,k2,k3⟩:=hS.push (w':=w1) none own rfl (fun s y hy=>.inr ⟨hy,fun _ b hb=>by cases hb⟩) (fun b hb=>by cases hb) hg.os hg.tape hg.output hg.size (fun b hb hne=>hg.block b hb hne)
   (.slice (some ⟨w.heap.size,0,none⟩) n.toNat n.toNat) (.row e sz (List.replicate n.toNat zs)) rfl (fun b hb=>.inl (by simp[blkOf] at hb;omega))
   ⟨hd,(madeCells z.cells (n.toNat * sz)).toList,by simpa using hown,fun j d hj=>by
    have hlt:j<n.toNat * sz:=by have:=(qC.1 hj).1;rwa [flatten_len hd,List.length_replicate] at this
    have hspos:0<sz:=by rcases Nat.eq_zero_or_pos sz with h | h;(subst h;simp at hlt);exact h
    have hqd:j / sz<n.toNat:=(Nat.div_lt_iff_lt_mul hspos).2 hlt;have hqm:j % sz<sz:=Nat.mod_lt _ hspos;have hfl:=flatten_get hd (j / sz) (j % sz) zs (by simp[hqd]) hqm;have e1:j / sz * sz+j % sz=j:=by rw[Nat.mul_comm];exact Nat.div_add_mod j sz
    rw[e1,hj] at hfl;obtain⟨u,hu,hr⟩:=hdr _ d hfl.symm;refine⟨u,?_,hr.mono (c.push_le _).f⟩;have hzz:z.cells.size=sz:=by rw[hzsz,hzl]
    simp only[madeCells,Array.toList_map,Array.toList_range,qI,List.getElem?_range hlt,qS,hzz];rw[Array.getElem?_toList] at hu;rw[getElem!_def,hu]⟩
  exact⟨_,_,hrun,_,_,_,_,rfl,.hd (by simp[Cx.push,hS.n]) (by simp[Cx.push,hS.n]),k1,k2,k3,hK⟩
 ·exact h.elim
theorem run_append_zeros {t u ty e:TypeId}{i:TypeInfo}{z:Value}(ht:P.underlying t=some (.slice e))(hu:P.underlying u=some (.int .i64))(hi:P.info? e=some i)(hz:i.zero=some z)
  (n:Nat) (h0:0<n) (hsz:0<i.size) (h63:(n:Int)≤9223372036854775807) (h48:n * i.bytes≤281474976710656) :
  (Builtin.append_ #[t,u] ty #[.slice none 0 0,.int .i64 n]).run P w =
   .ok (.slice (some ⟨w.heap.size,0,none⟩) n (grownCap w n 0 e)) (w.drew.alloc (.cells (Builtin.zeroCells z.cells n++Builtin.zeroCells z.cells (grownCap w n 0 e - n)) e)):=by
 have hn:n≠0:=by omega
 have h63':¬ (9223372036854775807<(n:Int)):=by omega
 have h48':¬ (281474976710656<Builtin.nextslicecap n 0 * i.bytes):=by rw[nextslicecap_zero h0];omega
 have hw:IntKind.i64.wrap (n:Int)=(n:Int):=by rw[IntKind.wrap_i64];omega
 have h48i:¬ (281474976710656<(n:Int) * (i.bytes:Int)):=by
  have:((n * i.bytes:Nat):Int)≤281474976710656:=by omega
  rw[Int.natCast_mul] at this;omega
 have hns:¬ (n * i.size=0):=by have:=Nat.mul_pos h0 hsz;omega
 have hneg:¬ ((n:Int)<0):=by omega
 simp[Builtin.append_,run_underlying ht,run_underlying hu,sizeOf,typeInfo,zeroValue,hi,hz,asInt,asIntOf,hw,hn,hns,hneg,h63',h48',h48i,Question.forced,run_firstCells_none,newRow,grownCap]
theorem appzN_sound (hS:Sat c own w){t ui ty e:TypeId}{i:TypeInfo}{z:Value}(ht:P.underlying t=some (.slice e))(hui:P.underlying ui=some (.int .i64))(hi:P.info? e=some i)(hz:i.zero=some z)(hzs:z.cells.size=i.size)(hpos:0<i.size)
  {x y y':SV} {u v:Value} (hx:Rel c x u) (hy:Rel c y v) (_hy':Rel c y' v) (h:IfNil x (MksN own e i.size i.bytes (toDs own (cval z).cells) y y' K)) :
  ∃ r w',(Builtin.append_ #[t,ui] ty #[u,v]).run P w=.ok r w'∧Fin c own w a o.dst K (a.put o.dst r) w':=by
 unfold IfNil at h;split at h
 ·obtain rfl:=hx.of_val;generalize hzz:toDs own (cval z).cells=zz at h;unfold MksN at h;split at h
  ·rename_i zs n m;obtain⟨hzl,h0,rfl,hby,h63,hK⟩:=h;obtain rfl:=hy.of_val;obtain⟨hdl,hdr⟩:=toDs_rel hS _ (cval_cells (c:=c) (z:=z)) hzz;have en:((n.toNat:Nat):Int)=n:=by omega
   have hd:∀ ds∈List.replicate n.toNat zs,ds.length=i.size:=fun ds hm=>by rw[List.eq_of_mem_replicate hm];exact hzl
   by_cases hn0:n.toNat=0
   ·have hn0':n=0:=by omega
    subst hn0';have hrun:(Builtin.append_ #[t,ui] ty #[.slice none 0 0,.int .i64 0]).run P w=.ok (.slice none 0 0) w:=by
     have hw:IntKind.i64.wrap 0=0:=by decide
     simp[Builtin.append_,run_underlying ht,run_underlying hui,sizeOf,typeInfo,hi,asInt,asIntOf,hw]
    obtain⟨k1,k2,k3⟩:=hS.push (w':=w) none own rfl (fun s y hy=>.inr ⟨hy,fun _ b hb=>by cases hb⟩) (fun b hb=>by cases hb) rfl rfl rfl (qQ _) (fun _ _ _=>rfl)
     (.slice none 0 0) (.row e i.size (List.replicate (0:Int).toNat zs)) rfl (fun b hb=>by simp[blkOf] at hb) ⟨hd,[],World.ownsRow_nil w 0 e i.size,by simp⟩
    exact⟨_,_,hrun,_,_,_,_,rfl,.hd (by simp[Cx.push,hS.n]) (by simp[Cx.push,hS.n]),k1,k2,k3,hK⟩
   ·have hml:n.toNat≤maxLen:=by omega
    have hrun:=run_append_zeros (P:=P) (w:=w) (ty:=ty) ht hui hi hz n.toNat (by omega) hpos (by simp only[maxLen] at h63;omega) (by omega);rw[en] at hrun;have hge:=grownCap_ge w n.toNat 0 e;have hcm:grownCap w n.toNat 0 e≤maxLen:=grownCap_le_maxLen w n.toNat 0 e hml;have hzz1:(Builtin.zeroCells z.cells n.toNat).size=n.toNat * i.size:=by rw[size_zeroCells,hzs]
    obtain⟨k1,k2,k3⟩:=hS.push (w':=w.drew.alloc (.cells (Builtin.zeroCells z.cells n.toNat++Builtin.zeroCells z.cells (grownCap w n.toNat 0 e - n.toNat)) e)) none own rfl (fun s y hy=>.inr ⟨hy,fun _ b hb=>by cases hb⟩) (fun b hb=>by cases hb) rfl rfl rfl (by simp) (fun b hb _=>heap_alloc_old w.drew (.cells _ e) hb)
     (.slice (some ⟨w.heap.size,0,none⟩) n.toNat (grownCap w n.toNat 0 e)) (.row e i.size (List.replicate n.toNat zs)) rfl (fun b hb=>.inl (by simp[blkOf] at hb;omega))
     ⟨hd,(Builtin.zeroCells z.cells n.toNat).toList,⟨by simp[hzz1],.inr ⟨w.heap.size,_,_,by simp,Nat.zero_le _,heap_alloc_new w.drew _,by simpa using hge,hcm,by
       rw[Array.size_append,hzz1,size_zeroCells,hzs,← Nat.add_mul];congr 1;omega,by
       rw[Array.toList_append,List.length_replicate,← hzz1,← Array.length_toList];exact List.take_left⟩⟩,fun j d hj=>by
      have hlt:j<n.toNat * i.size:=by have:=(qC.1 hj).1;rwa [flatten_len hd,List.length_replicate] at this
      have hqd:j / i.size<n.toNat:=(Nat.div_lt_iff_lt_mul hpos).2 hlt;have hqm:j % i.size<i.size:=Nat.mod_lt _ hpos;have hfl:=flatten_get hd (j / i.size) (j % i.size) zs (by simp[hqd]) hqm;have e1:j / i.size * i.size+j % i.size=j:=by rw[Nat.mul_comm];exact Nat.div_add_mod j i.size
      rw[e1,hj] at hfl;obtain⟨u,hu,hr⟩:=hdr _ d hfl.symm;refine⟨u,?_,hr.mono (c.push_le _).f⟩;simp only[Builtin.zeroCells,Array.toList_map,Array.toList_range,qI,hzs,List.getElem?_range hlt,qS];rw[Array.getElem?_toList] at hu;rw[getElem!_def,hu]⟩
    exact⟨_,_,hrun,_,_,_,_,rfl,.hd (by simp[Cx.push,hS.n]) (by simp[Cx.push,hS.n]),k1,k2,k3,hK⟩
  ·exact h.elim
 ·exact h.elim
theorem divN_sound {op:BinOp}{t:TypeId}{x y:SV}{u v:Value}{K:SV→Prop}(hx:Rel c x u)(hy:Rel c y v)(h:DivN op x y K) :
  ((∃ k n,u=.int k n)∨(∃ s,u=.string s)∨∃ b,u=.bool b)∧∃ r sv,(binOp op t u v).run P w=.ok r w∧Rel c sv r∧K sv:=by
 unfold DivN at h;split at h
 ·rename_i k p k' q;obtain rfl:=hx.of_val;obtain rfl:=hy.of_val;obtain⟨hq,hK⟩:=h;refine⟨.inl ⟨_,_,rfl⟩,?_⟩;cases op
  case quo =>
   obtain⟨rfl,hq⟩:k=k'∧q≠0:=hq;exact⟨_,_,by simp[binOp,Op.intDiv,hq];rfl,.d (.val _ rfl),hK⟩
  case rem =>
   obtain⟨rfl,hq⟩:k=k'∧q≠0:=hq;exact⟨_,_,by simp[binOp,Op.intDiv,hq];rfl,.d (.val _ rfl),hK⟩
  case shl =>
   have hq:¬ q<0:=Int.not_lt.2 hq;exact⟨_,_,by simp[binOp,Op.shift,hq];rfl,.d (.val _ rfl),hK⟩
  case shr =>
   have hq:¬ q<0:=Int.not_lt.2 hq;exact⟨_,_,by simp[binOp,Op.shift,hq];rfl,.d (.val _ rfl),hK⟩
  all_goals exact hq.elim
 ·rename_i p q;obtain rfl:=hx.of_val;obtain rfl:=hy.of_val;obtain⟨⟨rfl,hq⟩,hK⟩:=h;have h':¬ (((p.size+q.size:Nat):Int) > IntKind.i64.max):=by simp[IntKind.max,IntKind.bits,IntKind.signed];omega
  exact⟨.inr (.inl ⟨_,rfl⟩),_,_,by simp only[binOp,Op.stringOp];rw[if_neg h'];rfl,.d (.val _ rfl),hK⟩
 ·exact h.elim
theorem run_callFunc {f:FuncId}{args:Array Value}(h:okFn P f=true):(callFunc f args).run P w=.ok (.enter f args) w:=by
 unfold okFn at h
 cases hf:P.funcs[f]? with
 | none=>simp[hf] at h
 | some fn =>
  simp only[hf,qJ,bne_iff_ne,ne_eq] at h;obtain⟨h1,h2⟩:=h
  cases hb:fn.body with
  | none=>simp[hb] at h2
  | some b=>simp[callFunc,hf,h1,hb]
theorem callD_wp {f:FuncId}{args:List SV}{us:List Value}{own1:List Res}{c1:Cx}(hS:Sat c1 own1 w)(hle:c.le c1)(hg:Goes c own w c1 own1 w)(hr:RelL c1 args us)
  (he:(execOp a.eval o).run P w=(callFunc f us.toArray).run P w) (h:SCall P f own1 args K):o.wp P a w (Fin c own w a o.dst K) Q:=by
 unfold Oper.wp;rw[he,run_callFunc h.1];refine(h.2 c1 w us hS hr).mono ?_;rintro e w' ⟨c',own',sv,u,rfl,h2,h3,h4,h5,h6⟩;exact⟨c',sv,own',u,rfl,h2,h3,hle.trans h4,hg.trans h5,h6⟩
theorem callN_wp {f:FuncId}{args:List SV}{us:List Value}(hS:Sat c own w)(hr:RelL c args us)
  (he:(execOp a.eval o).run P w=(callFunc f us.toArray).run P w) (h:CallN P f own args K):o.wp P a w (Fin c own w a o.dst K) Q:=by
 obtain⟨own1,args1,h1,h2,h3⟩:=h;obtain⟨c1,k1,k2,k3⟩:=h1 c w hS;exact callD_wp k1 k2 k3 (h2 c1 w us k1 (hr.mono k2)) he h3
end
end Go.SX
namespace Go.SX
open Go
variable [Tabs]
section
variable {P:Program}{c:Cx}{own:List Res}{a:Act}{w:World}{o:Oper}{K:SV→List Res→Prop}
theorem ba_beq (s t:ByteArray):(s == t)=decide (s.data=t.data):=by
 cases s with | mk a=>cases t with | mk b =>
 show (a == b)=_;by_cases h:a=b
 ·subst h;simp
 ·simp[h]
def MkAt (P:Program)(kt:TypeId):MK→Prop
 | .agg ks=>(∃ fs,P.underlying kt=some (.struct fs))∧eqT P 100 kt=some ks∧noArr P 100 kt=true
 | mk=>P.underlying kt=some mk.desc
theorem mkOf_spec {kt:TypeId}{mk:MK}(h:mkOf P kt=some mk):MkAt P kt mk:=by
 unfold mkOf at h;split at h
 ·cases h;assumption
 ·cases h;assumption
 ·cases h;assumption
 ·rename_i fs hu;split at h
  ·rename_i hn;split at h
   ·rename_i k ks he;cases h;exact⟨⟨fs,hu⟩,he,hn⟩
   ·cases h
  ·cases h
 ·cases h
theorem CK.ok_int {u:Value}(h:CK.int.ok u=true):∃ a,u=.int .i64 a:=by
 cases u with
 | int k a=>cases k<;>first | exact⟨_,rfl⟩ | (simp[CK.ok] at h)
 | _=>simp[CK.ok] at h
theorem CK.ok_bool {u:Value}(h:CK.bool.ok u=true):∃ a,u=.bool a:=by
 cases u with
 | bool a=>exact⟨_,rfl⟩
 | _=>simp[CK.ok] at h
theorem CK.ok_str {u:Value}(h:CK.str.ok u=true):∃ a,u=.string a:=by
 cases u with
 | string a=>exact⟨_,rfl⟩
 | _=>simp[CK.ok] at h
theorem okL_len : ∀ {ks:List CK}{vs:List Value},okL ks vs=true→vs.length=ks.length
 | [],[],_=>rfl
 | [],_::_,h=>by simp[okL] at h
 | _::_,[],h=>by simp[okL] at h
 | _::ks,_::vs,h=>by simp only[okL,qJ] at h;simp[okL_len h.2]
theorem run_chkFs {d:Nat}{e:Bool}{n:Nat}{xs:List Value}(IH:∀ (t:TypeId)(ks:List CK),eqT P d t=some ks→noArr P d t=true→∀ (ys:List Value),ys.length=ks.length→(Instr.checkKey e n t (vOf P t ys)).run P w=.ok () w) :
  ∀ (fs:List Field)(off:Nat)(ks:List CK),eqFs P (eqT P d) fs off=some ks→(fs.all fun f=>noArr P d f.type)=true→off+ks.length≤xs.length →
   (forIn (m:=Sem) fs PUnit.unit fun f _=>do
    if f.name ≠ "_" then Instr.checkKey e n f.type (← part f.type xs.toArray f.offset)
    pure (ForInStep.yield PUnit.unit)).run P w=.ok PUnit.unit w
 | [],off,ks,_,_,_=>rfl
 | f::fs,off,ks,h,ha,hl=>by
  simp only[eqFs] at h;split at h
  ·rename_i hf;obtain⟨hn,rfl,hi⟩:=hf;split at h
   ·rename_i k hk;split at h
    ·rename_i hc;split at h
     ·rename_i r hr;cases h;simp only[List.all_cons,qJ] at ha;simp only[qP] at hl;have p1:=run_part_v w (xs:=xs) (off:=f.offset) hk hi hc (by omega);have p2:=IH f.type k hk ha.1 ((xs.drop f.offset).take k.length) (by rw[qW,List.length_drop];omega);have p3:=run_chkFs (xs:=xs) IH fs (f.offset+k.length) r hr ha.2 (by omega);simp only[List.forIn_cons,qG,hn,ne_eq,not_false_eq_true,if_true,p1,qF,p2,Sem.run_pure];exact p3
     ·cases h
    ·cases h
   ·cases h
  ·cases h
theorem run_chkV (e:Bool):∀ (d n:Nat),d≤n→∀ (t:TypeId)(ks:List CK),eqT P d t=some ks→noArr P d t=true→∀ (xs:List Value),xs.length=ks.length→(Instr.checkKey e n t (vOf P t xs)).run P w=.ok () w
 | 0,_,_,t,ks,h,_,_,_=>by simp[eqT] at h
 | d+1,0,h,_,_,_,_,_,_=>by omega
 | d+1,n+1,hdn,t,ks,h,ha,xs,hl=>by
  unfold Instr.checkKey;rcases eqT_one h with ⟨hu,rfl⟩ | ⟨⟨q,hu⟩,rfl⟩ | ⟨hu,rfl⟩ | ⟨m,el,k,hu,_⟩ | ⟨fs,hu,hs,_,hf⟩
  ·rw[qG,run_underlying hu];simp only[qF];cases vOf P t xs<;>rfl
  ·rw[qG,run_underlying hu];simp only[qF];cases vOf P t xs<;>rfl
  ·rw[qG,run_underlying hu];simp only[qF];cases vOf P t xs<;>rfl
  ·simp only[noArr,hu] at ha;cases ha
  ·have hv:vOf P t xs=.agg xs.toArray:=by simp[vOf,hu]
   rw[hv,qG,run_underlying hu];simp only[qF];simp only[noArr,hu] at ha;have:=run_chkFs (w:=w) (e:=e) (xs:=xs) (fun t ks h1 h2 ys hy=>run_chkV e d n (by omega) t ks h1 h2 ys hy) fs.toList 0 ks hf ha (by rw[hl];omega);rw[← Array.forIn_toList];simp only[qG,this,qF];rfl
theorem run_chk {mk:MK}{kt:TypeId}{kv:Value}(hd:MkAt P kt mk)(hk:mk.ok kv=true)(e:Bool)(n:Nat)(hn:100≤n+1):(Instr.checkKey e (n+1) kt kv).run P w=.ok () w:=by
 have simple:P.underlying kt=some mk.desc→(∀ ks,mk≠.agg ks)→(Instr.checkKey e (n+1) kt kv).run P w=.ok () w:=fun hd hna=>by
  unfold Instr.checkKey;rw[qG,run_underlying hd];cases mk<;>cases kv<;>first | rfl | (simp[MK.ok] at hk;done) | exact absurd rfl (hna _)
 cases mk with
 | agg ks =>
  obtain⟨⟨fs,hu⟩,he,ha⟩:=hd;cases kv<;>simp[MK.ok] at hk;rename_i us;have hv:vOf P kt us.toList=.agg us:=by simp[vOf,hu]
  rw[← hv];exact run_chkV e 100 (n+1) hn kt ks he ha us.toList (okL_len hk)
 | int q=>exact simple hd fun _ h=>by cases h
 | str=>exact simple hd fun _ h=>by cases h
 | bool=>exact simple hd fun _ h=>by cases h
def MK.isAgg : MK→Bool
 | .agg _=>true
 | _=>false
theorem sameNow_eq {mk:MK}(hm:mk.isAgg=false){x k:Value}(hx:mk.ok x=true)(hk:mk.ok k=true):Instr.sameNow mk.desc x k=some (keyEq x k):=by
 cases mk<;>first | (cases hm;done) | skip
 all_goals cases x<;>simp[MK.ok] at hx<;>cases k<;>simp[MK.ok] at hk
 ·subst hx;subst hk;simp[Instr.sameNow,MK.desc,keyEq,BEq.beq]
 ·rename_i s t;simp only[Instr.sameNow,MK.desc,keyEq,ba_beq]
 ·rfl
def midx {α:Type}:List (Value×α)→Value→Option Nat
 | [],_=>none
 | (k,_)::l,x=>if keyEq x k then some 0 else (midx l x).map (·+1)
theorem mget_idx {α:Type}(es:List (Value×α))(x:Value):mget es x=(midx es x).bind fun j=>(es[j]?).map (·.2):=by
 induction es with
 | nil=>rfl
 | cons p l ih =>
  obtain⟨k,d⟩:=p;simp only[mget,midx];split
  ·rfl
  ·rw[ih];cases midx l x<;>rfl
theorem mput_idx {α:Type}(es:List (Value×α))(x:Value)(d:α):mput es x d=match midx es x with | none=>es++[(x,d)] | some j=>es.set j (x,d):=by
 induction es with
 | nil=>rfl
 | cons p l ih =>
  obtain⟨k,d'⟩:=p;simp only[mput,midx];split
  ·rfl
  ·rw[ih];cases midx l x<;>rfl
theorem midx_lt {α:Type}{es:List (Value×α)}{x:Value}{j:Nat}(h:midx es x=some j):∃ k ds,es[j]?=some (k,ds)∧keyEq x k=true:=by
 induction es generalizing j with
 | nil=>cases h
 | cons p l ih =>
  obtain⟨k,d⟩:=p;simp only[midx] at h;split at h
  ·cases h;exact⟨k,d,rfl,by assumption⟩
  ·cases hm:midx l x with
   | none=>simp[hm] at h
   | some i=>simp[hm] at h;subst h;obtain⟨k',ds,h1,h2⟩:=ih hm;exact⟨k',ds,by simpa using h1,h2⟩
theorem findNow_spec {α:Type}{mk:MK}(hm:mk.isAgg=false){x:Value}(hx:mk.ok x=true):∀ (es:List (Value×α))(ms:List MapEntry)(i0:Nat),ms.length=es.length →
  (∀ (i:Nat) k ds,es[i]?=some (k,ds)→mk.ok k=true∧∃ m,ms[i]?=some m∧m.key=k) →
  Instr.findNow mk.desc x ms i0=some (match midx es x with | none=>none | some j=>(ms[j]?).map fun m=>(i0+j,m.val))
 | [],[],_,_,_=>rfl
 | [],_::_,_,h,_=>by simp at h
 | _::_,[],_,h,_=>by simp at h
 | (k,d)::es,m::ms,i0,hl,h=>by
  obtain⟨h1,m',h2,h3⟩:=h 0 k d rfl;simp at h2;subst h2;simp only[Instr.findNow,h3,sameNow_eq hm hx h1,midx];cases hk:keyEq x k
  ·simp only[Bool.false_eq_true,if_false];rw[findNow_spec hm hx es ms (i0+1) (by simpa using hl) fun i k ds hi=>by
    obtain⟨h1,m,h2,h3⟩:=h (i+1) k ds (by simpa using hi);exact⟨h1,m,by simpa using h2,h3⟩]
   cases midx es x with
   | none=>rfl
   | some j=>simp[Nat.add_assoc,Nat.add_comm 1 j]
  ·simp
theorem ok_veqs : ∀ {ks:List CK}{xs ys:List Value},okL ks xs=true→okL ks ys=true→veqs ks xs ys=some (keyEqL xs ys)
 | [],[],[],_,_=>rfl
 | [],_::_,_,h,_=>by simp[okL] at h
 | [],[],_::_,_,h=>by simp[okL] at h
 | _::_,[],_,h,_=>by simp[okL] at h
 | _::_,_::_,[],_,h=>by simp[okL] at h
 | k::ks,u::l,v::l',h,h'=>by
  simp only[okL,qJ] at h h';have ih:=ok_veqs h.2 h'.2;have h1:ckeq k u v=some (keyEq1 u v):=by
   obtain⟨h,_⟩:=h;obtain⟨h',_⟩:=h'
   cases k with
   | int=>obtain⟨a,rfl⟩:=CK.ok_int h;obtain⟨b,rfl⟩:=CK.ok_int h';simp[ckeq,keyEq1]
   | bool=>obtain⟨a,rfl⟩:=CK.ok_bool h;obtain⟨b,rfl⟩:=CK.ok_bool h';simp[ckeq,keyEq1]
   | str =>
    obtain⟨s,rfl⟩:=CK.ok_str h;obtain⟨t,rfl⟩:=CK.ok_str h';simp only[ckeq,keyEq1,qZ];rw[Bool.eq_iff_iff];simp only[beq_iff_eq,zB];exact⟨fun e=>by rw[ByteArray.toList_eq,ByteArray.toList_eq] at e;exact Array.ext' e,fun e=>by rw[ByteArray.toList_eq,ByteArray.toList_eq,e]⟩
  simp only[veqs,h1,ih,keyEqL]
theorem findAsk_spec {α:Type}{ks:List CK}{kt:TypeId}(hd:MkAt P kt (.agg ks)){x:Array Value}(hx:okL ks x.toList=true):∀ (es:List (Value×α))(ms:List MapEntry)(i0:Nat),ms.length=es.length →
  (∀ (i:Nat) k ds,es[i]?=some (k,ds)→(MK.agg ks).ok k=true∧∃ m,ms[i]?=some m∧m.key=k) →
  (Instr.findAsking kt (.agg x) ms i0).run P w=.ok (match midx es (.agg x) with | none=>none | some j=>(ms[j]?).map fun m=>(i0+j,m.val)) w
 | [],[],_,_,_=>rfl
 | [],_::_,_,h,_=>by simp at h
 | _::_,[],_,h,_=>by simp at h
 | (k,d)::es,m::ms,i0,hl,h=>by
  obtain⟨h1,m',h2,h3⟩:=h 0 k d rfl;simp at h2;subst h2;obtain⟨⟨fs,hu⟩,he,_⟩:=id hd;cases k<;>simp[MK.ok] at h1;rename_i us;have hq:=run_eq_agg (w:=w) (d:=100) (by omega) he (by rw[hu];rfl) (ok_veqs hx h1);simp only[Array.toArray_toList] at hq;simp only[Instr.findAsking,h3,qG,hq,qF,midx];have hke:keyEq (.agg x) (.agg us)=keyEqL x.toList us.toList:=rfl;rw[hke];cases hk:keyEqL x.toList us.toList
  ·simp only[Bool.false_eq_true,if_false];rw[findAsk_spec hd hx es ms (i0+1) (by simpa using hl) fun i k ds hi=>by
    obtain⟨h1,m,h2,h3⟩:=h (i+1) k ds (by simpa using hi);exact⟨h1,m,by simpa using h2,h3⟩]
   cases midx es (.agg x) with
   | none=>rfl
   | some j=>simp[Nat.add_assoc,Nat.add_comm 1 j]
  ·simp
theorem findKey_run {α:Type}{mk:MK}{kt:TypeId}{x:Value}(hd:MkAt P kt mk)(hx:mk.ok x=true){es:List (Value×α)}{ms:Array MapEntry}(hl:ms.size=es.length)
  (h:∀ (i:Nat) k ds,es[i]?=some (k,ds)→mk.ok k=true∧∃ m,ms[i]?=some m∧m.key=k) :
  (Instr.findKey kt x ms.toList).run P w=.ok (match midx es x with | none=>none | some j=>(ms[j]?).map fun m=>(j,m.val)) w:=by
 cases hagg:mk.isAgg with
 | true =>
  cases mk<;>first | (cases hagg;done) | skip
  rename_i ks;cases x<;>simp[MK.ok] at hx;rename_i us;obtain⟨⟨fs,hu⟩,_,_⟩:=id hd;have ask:=findAsk_spec (w:=w) hd hx es ms.toList 0 (by simpa using hl) fun i k ds hi=>by
   obtain⟨h1,m,h2,h3⟩:=h i k ds hi;exact⟨h1,m,by simpa using h2,h3⟩
  unfold Instr.findKey;rw[qG,run_underlying hu];simp only[qF]
  cases hes:ms.toList with
  | nil =>
   have:es=[]:=List.eq_nil_of_length_eq_zero (by rw[← hl,← Array.length_toList,hes];rfl);subst this;rfl
  | cons m l =>
   have hnow:Instr.findNow (.struct fs) (.agg us) (m::l) 0=none:=by
    simp[Instr.findNow,Instr.sameNow]
   simp only[hnow];rw[← hes,ask]
   cases midx es (.agg us) with
   | none=>rfl
   | some j=>simp
 | false =>
 have hd:P.underlying kt=some mk.desc:=by cases mk<;>first | (cases hagg;done) | exact hd
 have:=findNow_spec hagg hx es ms.toList 0 (by simpa using hl) fun i k ds hi=>by
  obtain⟨h1,m,h2,h3⟩:=h i k ds hi;exact⟨h1,m,by simpa using h2,h3⟩
 unfold Instr.findKey;rw[qG,run_underlying hd];simp only[qF,this]
 cases midx es x with
 | none=>rfl
 | some j=>simp
theorem keyEqL_same : ∀ {ks:List CK}{xs ys:List Value},okL ks xs=true→okL ks ys=true→keyEqL xs ys=true→xs=ys
 | [],[],[],_,_,_=>rfl
 | [],_::_,_,h,_,_=>by simp[okL] at h
 | [],[],_::_,_,h,_=>by simp[okL] at h
 | _::_,[],_,h,_,_=>by simp[okL] at h
 | _::_,_::_,[],_,h,_=>by simp[okL] at h
 | k::ks,u::l,v::l',h,h',hq=>by
  simp only[okL,keyEqL,qJ] at h h' hq;have ih:=keyEqL_same h.2 h'.2 hq.2;have:u=v:=by
   obtain⟨h,_⟩:=h;obtain⟨h',_⟩:=h';obtain⟨hq,_⟩:=hq
   cases k with
   | int=>obtain⟨a,rfl⟩:=CK.ok_int h;obtain⟨b,rfl⟩:=CK.ok_int h';simp[keyEq1] at hq;rw[hq]
   | bool=>obtain⟨a,rfl⟩:=CK.ok_bool h;obtain⟨b,rfl⟩:=CK.ok_bool h';simp[keyEq1] at hq;rw[hq]
   | str =>
    obtain⟨s,rfl⟩:=CK.ok_str h;obtain⟨t,rfl⟩:=CK.ok_str h';obtain⟨a⟩:=s;obtain⟨b⟩:=t;simp[keyEq1] at hq;rw[hq]
  rw[this,ih]
theorem keyEq_same {mk:MK}{x k:Value}(hx:mk.ok x=true)(hk:mk.ok k=true)(h:keyEq x k=true):x=k:=by
 cases hagg:mk.isAgg with
 | true =>
  cases mk<;>first | (cases hagg;done) | skip
  cases x<;>simp[MK.ok] at hx;cases k<;>simp[MK.ok] at hk;rename_i ks us vs;rw[Array.ext' (keyEqL_same hx hk h)]
 | false =>
 cases mk<;>first | (cases hagg;done) | skip
 all_goals cases x<;>simp[MK.ok] at hx<;>cases k<;>simp[MK.ok] at hk
 ·simp[keyEq] at h;obtain⟨rfl,rfl⟩:=h;rfl
 ·rename_i s t;simp only[keyEq,zB] at h;obtain⟨a⟩:=s;obtain⟨b⟩:=t;rw[show a=b from h]
 ·simp[keyEq] at h;rw[h]
theorem stays_run {mk:MK}{x:Value}(hx:mk.ok x=true):(Instr.keyThatStays x x).run P w=.ok x w:=by
 have:Instr.sameBits 10000 x x=true:=by
  cases hagg:mk.isAgg with
  | true =>
   cases mk<;>first | (cases hagg;done) | skip
   cases x<;>simp[MK.ok] at hx;rename_i ks us;have all:∀ (ks:List CK)(l:List Value),okL ks l=true→((l.zip l).all fun (x,y)=>Instr.sameBits 9999 x y)=true:=by
    intro ks l
    induction l generalizing ks with
    | nil=>intro _;rfl
    | cons u l ih =>
     intro h
     cases ks with
     | nil=>simp[okL] at h
     | cons k ks =>
      simp only[okL,qJ] at h;simp only[List.zip_cons_cons,List.all_cons,qJ];refine⟨?_,ih ks h.2⟩;obtain⟨h,_⟩:=h
      cases k with
      | int=>obtain⟨a,rfl⟩:=CK.ok_int h;simp[Instr.sameBits]
      | bool=>obtain⟨a,rfl⟩:=CK.ok_bool h;simp[Instr.sameBits]
      | str=>obtain⟨a,rfl⟩:=CK.ok_str h;simp[Instr.sameBits,ba_beq]
   have:=all ks us.toList hx;simp only[Instr.sameBits,BEq.rfl,Bool.true_and];exact this
  | false =>
  cases mk<;>first | (cases hagg;done) | skip
  all_goals cases x<;>simp[MK.ok] at hx<;>simp[Instr.sameBits,ba_beq]
 simp[Instr.keyThatStays,this]
theorem mkmN_sound {t:TypeId}{mk:MK}{agg:Bool}(hS:Sat c own w)(h:MkmN own mk agg K) :
  ∃ u w',(Instr.makeMap t none).run P w=.ok u w'∧Fin c own w a o.dst K (a.put o.dst u) w':=by
 obtain⟨k1,k2,k3⟩:=hS.alloc (.map #[] 0) (.map (some w.heap.size)) (.mp mk agg []) rfl rfl ⟨w.heap.size,#[],0,rfl,⟨heap_alloc_new w _,MapKept.stamped_empty _⟩,rfl,fun i k ds hi=>by simp at hi⟩;refine⟨.map (some w.heap.size),w.alloc (.map #[] 0),?_,c.push (.map (some w.heap.size)),_,_,_,rfl,.hd (by simp[Cx.push,hS.n]) (by simp[Cx.push,hS.n]),k1,k2,k3,h⟩;simp only[Instr.makeMap,qG,Sem.run_pure,run_newObj,qF,World.alloc_eq]
theorem mkf_sound {t:TypeId}{mk:MK}(hS:Sat c own w)(h:K (.hd own.length) (own++[.mpf mk []])) :
  ∃ u w',(Instr.makeMap t none).run P w=.ok u w'∧Fin c own w a o.dst K (a.put o.dst u) w':=by
 obtain⟨k1,k2,k3⟩:=hS.alloc (.map #[] 0) (.map (some w.heap.size)) (.mpf mk []) rfl rfl ⟨w.heap.size,#[],0,rfl,heap_alloc_new w _,rfl,fun i k ds hi=>by simp at hi⟩;refine⟨.map (some w.heap.size),w.alloc (.map #[] 0),?_,c.push (.map (some w.heap.size)),_,_,_,rfl,.hd (by simp[Cx.push,hS.n]) (by simp[Cx.push,hS.n]),k1,k2,k3,h⟩;simp only[Instr.makeMap,qG,Sem.run_pure,run_newObj,qF,World.alloc_eq]
theorem setBlock_heap {b:Nat}{o o':Obj}(hb:w.heap[b]?=some o):(ChangeMaps.setBlock w b o').heap[b]?=some o':=by
 have hlt:=(qB.1 hb).1;simp[ChangeMaps.setBlock,hlt]
theorem setBlock_other {b j:Nat}{o':Obj}(hj:j≠b):(ChangeMaps.setBlock w b o').heap[j]?=w.heap[j]?:=by
 simp only[ChangeMaps.setBlock,Array.getElem?_setIfInBounds];rw[if_neg (fun e=>hj e.symm)]
theorem mval_of (hS:Sat c own w){agg:Bool}{v:SV}{y:Value}{ds:List D}(hv:Rel c v y)(hf:v.flat=true)(hag:v.isAgg=agg)(hds:toDs own v.cells=some ds):MVal c.F agg ds y:=by
 obtain⟨h1,h2⟩:=toDs_rel hS _ (cells_rel hS.one hv hf) hds;unfold MVal;subst hag
 cases v with
 | agg cs =>
  obtain⟨us,rfl,hr⟩:=Rel.agg_iff.1 hv;simp only[SV.isAgg,if_true];refine⟨us.toArray,rfl,?_,fun j d hj=>?_⟩
  ·simp[SV.cells] at h1;simp[h1,hr.1]
  ·obtain⟨u,k1,k2⟩:=h2 j d hj;exact⟨u,by simpa [Value.cells] using k1,k2⟩
 | tup=>simp[SV.flat] at hf
 | top=>simp[SV.flat] at hf
 | _ =>
  simp only[SV.isAgg,Bool.false_eq_true,if_false];simp only[SV.cells,zA] at h1;obtain⟨d,rfl⟩:∃ d,ds=[d]:=by
   match ds,h1 with
   | [d],_=>exact⟨d,rfl⟩
  obtain⟨u,k1,k2⟩:=h2 0 d rfl;have hone:y.oneCell'=true:=hv.one hS.one rfl;rw[one_cells hone] at k1;simp at k1;exact⟨d,rfl,k1▸k2⟩
theorem valsOf_rel {c:Cx}:∀ {cs:List SV}{us l:List Value},RelL c cs us→valsOf cs=some l→l=us
 | [],us,l,h,e=>by
  rw[RelL.nil_iff.1 h];simp[valsOf] at e;exact e
 | s::cs,us,l,h,e=>by
  obtain⟨u,us',rfl,h1,h2⟩:=RelL.cons_iff.1 h;unfold valsOf at e;split at e
  ·rename_i e0;cases e0
  ·rename_i v l0 e0;cases e0;split at e
   ·rename_i r hr;cases e;rw[valsOf_rel h2 hr,h1.of_val]
   ·cases e
  ·cases e
theorem kvS_rel {c:Cx}{k:SV}{uk kv:Value}(h:Rel c k uk)(e:kvS k=.d (.val kv)):kv=uk:=by
 unfold kvS at e;split at e
 ·rename_i cs;split at e
  ·rename_i l hl;cases e;obtain⟨us,rfl,hr⟩:=Rel.agg_iff.1 h;rw[valsOf_rel hr hl]
  ·cases e
 ·subst e;exact h.of_val.symm
theorem keyEq1_refl : ∀ {c:CK}{v:Value},c.ok v=true→keyEq1 v v=true:=by
 intro c v h;cases c<;>cases v<;>simp[CK.ok] at h<;>simp[keyEq1]
theorem keyEqL_refl : ∀ {ks:List CK}{l:List Value},okL ks l=true→keyEqL l l=true
 | [],[],_=>rfl
 | k::ks,v::l,h=>by
  simp only[okL,qJ] at h;simp only[keyEqL,qJ];exact⟨keyEq1_refl h.1,keyEqL_refl h.2⟩
 | [],_::_,h=>by simp[okL] at h
 | _::_,[],h=>by simp[okL] at h
theorem keyEq_refl {mk:MK}{v:Value}(h:mk.ok v=true):keyEq v v=true:=by
 cases mk<;>cases v<;>simp[MK.ok] at h<;>simp only[keyEq]
 ·simp
 ·simp
 ·simp
 ·exact keyEqL_refl h
theorem midx_nokey {α:Type}:∀ {es:List (Value×α)}{kv:Value},midx es kv=none→∀ p∈es,keyEq kv p.1=false
 | [],_,_,p,hp=>by cases hp
 | (k,d)::l,kv,h,p,hp=>by
  unfold midx at h;split at h
  ·cases h
  ·rename_i hk;rcases List.mem_cons.1 hp with rfl | hp
   ·simpa using hk
   ·exact midx_nokey (by simpa using h) p hp
theorem midx_no {α:Type}{mk:MK}{es:List (Value×α)}{ms:Array MapEntry}{kv:Value}(hok:mk.ok kv=true)(hsz:ms.size=es.length)(hc:∀ (i:Nat) k ds,es[i]?=some (k,ds)→mk.ok k=true∧∃ m,ms[i]?=some m∧m.key=k)(hm:midx es kv=none) :
  ∀ x∈ms.toList,x.key≠kv:=by
 intro x hx e;obtain⟨i,hi⟩:=List.mem_iff_getElem?.1 hx;have hlt:i<es.length:=by have:=(qC.1 hi).1;simp at this;omega
 obtain⟨_,m,h2,h3⟩:=hc i es[i].1 es[i].2 (qK hlt);rw[Array.getElem?_toList,h2] at hi;cases hi;have:=midx_nokey hm _ (List.getElem_mem hlt);rw[← h3,e,keyEq_refl hok] at this;cases this
theorem mset_core {α:Type}{t kt e:TypeId}{mk:MK}{b:Nat}{ms:Array MapEntry}{clock:Nat}{es:List (Value×α)}{kv uv:Value}{d:α}{Q:α→Value→Prop}(ht:P.underlying t=some (.map kt e))(hd:MkAt P kt mk)
  (hok:mk.ok kv=true) (hb:w.heap[b]?=some (.map ms clock)) (hsz:ms.size=es.length) (hc:∀ (i:Nat) k d,es[i]?=some (k,d)→mk.ok k=true∧∃ m,ms[i]?=some m∧m.key=k∧Q d m.val) (hmv:Q d uv) :
  ∃ ms' clock',(Instr.mapUpdate t (.map (some b)) kv uv).run P w=.ok () (ChangeMaps.setBlock w b (.map ms' clock'))∧(MapKept.Stamped ms clock→MapKept.Stamped ms' clock')∧ms'.size=(mput es kv d).length ∧
   ∀ (i:Nat) k d',(mput es kv d)[i]?=some (k,d')→mk.ok k=true∧∃ m,ms'[i]?=some m∧m.key=k∧Q d' m.val:=by
 have hc':∀ (i:Nat) k ds,es[i]?=some (k,ds)→mk.ok k=true∧∃ m,ms[i]?=some m∧m.key=k:=fun i k ds hi=>let ⟨h1,m,h2,h3,_⟩:=hc i k ds hi;⟨h1,m,h2,h3⟩
 have hfk:=findKey_run (w:=w) hd hok hsz hc';have hput:=mput_idx es kv d
 cases hm:midx es kv with
 | none =>
  rw[hm] at hfk hput;simp only at hput;refine⟨ms.push { key:=kv,val:=uv,born:=clock },clock+1,?_,fun hst=>MapKept.stamped_push hst (midx_no hok hsz hc' hm),by rw[hput];simp[hsz],fun i k ds' hi=>?_⟩
  ·simp[Instr.mapUpdate,run_underlying ht,MapKept.run_getObj_map hb,run_chk hd hok _ 9999 (by omega),hfk,MapKept.run_setObj_map _ hb,Result.andThen,ChangeMaps.setBlock]
  ·rw[hput,List.getElem?_append] at hi;split at hi
   ·obtain⟨h1,m,h2,h3,h4⟩:=hc i k ds' hi;have hil:=(qB.1 h2).1;exact⟨h1,m,by rw[Array.getElem?_push_lt hil,← Array.getElem?_eq_getElem hil];exact h2,h3,h4⟩
   ·rename_i hge;have hi0:i=es.length:=by
     have:=(qC.1 hi).1;simp at this;omega
    subst hi0;simp at hi;obtain⟨rfl,rfl⟩:=hi;exact⟨hok,{ key:=kv,val:=uv,born:=clock },by rw[← hsz];simp,rfl,hmv⟩
 | some j =>
  rw[hm] at hfk hput;simp only at hput;obtain⟨k0,ds0,hj0,hkk⟩:=midx_lt hm;obtain⟨h1,m,h2,h3,h4⟩:=hc j k0 ds0 hj0;have hkv:=keyEq_same hok h1 hkk;have hjl:=(qB.1 h2).1;simp only[h2,qS] at hfk;refine⟨ms.modify j fun e=>{ e with key:=kv,val:=uv },clock,?_,fun hst=>MapKept.stamped_modify hst j _ (fun _ _=>rfl) (fun e _ he=>by rw[h2] at he;cases he;exact hkv.trans h3.symm),by rw[hput];simp[hsz],fun i k ds' hi=>?_⟩
  ·have hst:(Instr.keyThatStays (((ms[j]?).map (·.key)).getD kv) kv).run P w=.ok kv w:=by
    rw[h2];simp only[qS,Option.getD_some,h3,← hkv];exact stays_run hok
   simp only[h2,qS,Option.getD_some] at hst;simp[Instr.mapUpdate,run_underlying ht,MapKept.run_getObj_map hb,run_chk hd hok _ 9999 (by omega),hfk,h2,hst,MapKept.run_setObj_map _ hb,Result.andThen,ChangeMaps.setBlock]
  ·rw[hput,List.getElem?_set] at hi;split at hi
   ·rename_i hji;subst hji;split at hi
    ·cases hi;exact⟨hok,{ m with key:=kv,val:=uv },by rw[Array.getElem?_modify,h2];simp,rfl,hmv⟩
    ·cases hi
   ·rename_i hji;obtain⟨k1,m',k2,k3,k4⟩:=hc i k ds' hi;exact⟨k1,m',by rw[Array.getElem?_modify,if_neg hji];exact k2,k3,k4⟩
theorem msetN_sound (hS:Sat c own w){t kt e:TypeId}{mk:MK}{agg:Bool}{x k v:SV}{ux uk uv:Value}{K:List Res→Prop}(ht:P.underlying t=some (.map kt e))(hd:MkAt P kt mk)
  (hx:Rel c x ux) (hk:Rel c k uk) (hv:Rel c v uv) (h:MsetN own mk agg x (kvS k) v K) :
  ∃ w' own',(Instr.mapUpdate t ux uk uv).run P w=.ok () w'∧Sat c own' w'∧Goes c own w c own' w'∧K own':=by
 have hkk:∀ kv,kvS k=.d (.val kv)→kv=uk:=fun kv e=>kvS_rel hk e
 generalize kvS k=kk at h hkk;unfold MsetN at h;split at h
 ·rename_i r kv;split at h
  ·rename_i mk' agg' es hg;obtain⟨rfl,rfl,hok,hf,hag,ds,hds,hK⟩:=h;have hx':=getr_some hg (by simp);obtain⟨b,ms,clock,hθ,⟨hb,hst⟩,hsz,hc⟩:=hS.res r _ hx';cases hx with | hd hr ht' =>
   rw[hθ] at ht';subst ht';obtain rfl:kv=uk:=hkk kv rfl;obtain⟨ms',clock',hrun,hst',hs,hm⟩:=mset_core (Q:=MVal c.F agg') ht hd hok hb hsz hc (mval_of hS hv hf hag hds);rw[setr_eq] at hK;obtain⟨k1,k2⟩:=hS.update (w':=ChangeMaps.setBlock w b (.map ms' clock')) (x':=.mp mk' agg' (mput es kv ds)) hx' rfl rfl (by rw[hθ];rfl) rfl rfl rfl (by simp[ChangeMaps.setBlock]) (fun j hj=>setBlock_other hj)
    ⟨b,ms',clock',hθ,⟨setBlock_heap hb,hst' hst⟩,hs,hm⟩
   exact⟨_,_,hrun,k1,k2,hK⟩
  ·rename_i mk' es hg;obtain⟨rfl,rfl,hok,hcl,hK⟩:=h;have hx':=getr_some hg (by simp);obtain⟨b,ms,clock,hθ,hb,hsz,hc⟩:=hS.res r _ hx';cases hx with | hd hr ht' =>
   rw[hθ] at ht';subst ht';obtain rfl:kv=uk:=hkk kv rfl;obtain⟨ms',clock',hrun,_,hs,hm⟩:=mset_core (Q:=fun s u=>Rel c s u) ht hd hok hb hsz hc hv;rw[setr_eq] at hK;obtain⟨k1,k2⟩:=hS.update (w':=ChangeMaps.setBlock w b (.map ms' clock')) (x':=.mpf mk' (mput es kv v)) hx' rfl rfl (by rw[hθ];rfl) rfl rfl rfl (by simp[ChangeMaps.setBlock]) (fun j hj=>setBlock_other hj)
    ⟨b,ms',clock',hθ,setBlock_heap hb,hs,hm⟩
   exact⟨_,_,hrun,k1,k2,hK⟩
  ·exact h.elim
 ·exact h.elim
theorem mdel_idx {α:Type}(es:List (Value×α))(x:Value):mdel es x=match midx es x with | some j=>es.eraseIdx j | none=>es:=by
 induction es with
 | nil=>rfl
 | cons p l ih =>
  obtain⟨k,d⟩:=p;simp only[mdel,midx];split
  ·rfl
  ·rw[ih];cases midx l x<;>rfl
theorem mdelN_sound (hS:Sat c own w){t tk kt e ty:TypeId}{mk:MK}{x k:SV}{ux uk:Value}{K:List Res→Prop}(ht:P.underlying t=some (.map kt e))(hd:MkAt P kt mk)
  (hx:Rel c x ux) (hk:Rel c k uk) (h:MdelN own mk x (kvS k) K) :
  ∃ w' own',(Builtin.delete_ #[t,tk] ty #[ux,uk]).run P w=.ok (.tuple #[]) w'∧Sat c own' w'∧Goes c own w c own' w'∧K own':=by
 have hkk:∀ kv,kvS k=.d (.val kv)→kv=uk:=fun kv e=>kvS_rel hk e
 generalize kvS k=kk at h hkk;unfold MdelN at h;split at h
 ·rename_i r kv;split at h
  ·rename_i mk' agg' es hg;obtain⟨rfl,hok,hK⟩:=h;have hx':=getr_some hg (by simp);obtain⟨b,ms,clock,hθ,⟨hb,hst⟩,hsz,hc⟩:=hS.res r _ hx';cases hx with | hd hr ht' =>
   rw[hθ] at ht';subst ht';obtain rfl:kv=uk:=hkk kv rfl;have hc':∀ (i:Nat) k ds,es[i]?=some (k,ds)→mk'.ok k=true∧∃ m,ms[i]?=some m∧m.key=k:=fun i k ds hi=>let ⟨h1,m,h2,h3,_⟩:=hc i k ds hi;⟨h1,m,h2,h3⟩
   have hfk:=findKey_run (w:=w) hd hok hsz hc';have hdel:=mdel_idx es kv;rw[setr_eq] at hK
   cases hm:midx es kv with
   | none =>
    rw[hm] at hfk hdel;simp only at hdel;rw[hdel] at hK;obtain⟨k1,k2⟩:=hS.update (w':=ChangeMaps.setBlock w b (.map ms clock)) (x':=.mp mk' agg' es) hx' rfl rfl (by rw[hθ];rfl) rfl rfl rfl (by simp[ChangeMaps.setBlock]) (fun j hj=>setBlock_other hj)
     ⟨b,ms,clock,hθ,⟨setBlock_heap hb,hst⟩,hsz,hc⟩
    refine⟨_,_,?_,k1,k2,hK⟩;simp[Builtin.delete_,run_underlying ht,MapKept.run_getObj_map hb,run_chk hd hok _ 9999 (by omega),hfk,MapKept.run_setObj_map _ hb,Result.andThen,ChangeMaps.setBlock]
   | some j =>
    rw[hm] at hfk hdel;simp only at hdel;rw[hdel] at hK;obtain⟨k0,ds0,hj0,hkk0⟩:=midx_lt hm;obtain⟨h1,m,h2,h3,h4⟩:=hc j k0 ds0 hj0;have hjl:=(qB.1 h2).1;have hjl':=(qC.1 hj0).1;simp only[h2,qS] at hfk;obtain⟨k1,k2⟩:=hS.update (w':=ChangeMaps.setBlock w b (.map (ms.eraseIdxIfInBounds j) clock)) (x':=.mp mk' agg' (es.eraseIdx j)) hx' rfl rfl (by rw[hθ];rfl) rfl rfl rfl (by simp[ChangeMaps.setBlock]) (fun j hj=>setBlock_other hj)
     ⟨b,ms.eraseIdxIfInBounds j,clock,hθ,⟨setBlock_heap hb,MapKept.stamped_erase hst j⟩,by
      rw[Array.eraseIdxIfInBounds,dif_pos hjl,Array.size_eraseIdx,List.length_eraseIdx,if_pos hjl',hsz],fun i k ds hi=>by
      rw[Array.eraseIdxIfInBounds,dif_pos hjl,Array.getElem?_eraseIdx];rw[List.getElem?_eraseIdx] at hi;split at hi<;>rename_i hij
      ·rw[if_pos hij];exact hc i k ds hi
      ·rw[if_neg hij];exact hc (i+1) k ds hi⟩
    refine⟨_,_,?_,k1,k2,hK⟩;simp[Builtin.delete_,run_underlying ht,MapKept.run_getObj_map hb,run_chk hd hok _ 9999 (by omega),hfk,MapKept.run_setObj_map _ hb,Result.andThen,ChangeMaps.setBlock]
  ·exact h.elim
 ·exact h.elim
theorem dsv_rel {agg:Bool}{ds:List D}{u:Value}(h:MVal c.F agg ds u):Rel c (dsv agg ds) u:=by
 unfold MVal at h
 cases agg with
 | false =>
  simp only[Bool.false_eq_true,if_false] at h;obtain⟨d,rfl,h⟩:=h;exact .d h
 | true =>
  simp only[if_true] at h;obtain⟨us,rfl,h1,h2⟩:=h;refine .agg (by simp[h1]) fun i s u hs hu=>?_
  rw[qI,Option.map_eq_some_iff] at hs;obtain⟨d,hd,rfl⟩:=hs;obtain⟨x,k1,k2⟩:=h2 i d hd;rw[k1] at hu;cases hu;exact .d k2
theorem mgetN_sound (hS:Sat c own w){t kt e:TypeId}{mk:MK}{agg ok:Bool}{z:Value}{x k:SV}{ux uk:Value}{K:SV→Prop}(ht:P.underlying t=some (.map kt e))(hd:MkAt P kt mk)(hz:zeroB P e=some z)
  (hx:Rel c x ux) (hk:Rel c k uk) (h:MgetN own mk agg ok (cval z) x (kvS k) K) :
  ∃ u sv,(Instr.lookup t ux uk ok).run P w=.ok u w∧Rel c sv u∧K sv:=by
 have tup:∀ {s:SV}{u:Value}(b:Bool),Rel c s u→Rel c (mres ok s b) (if ok then .tuple #[u,.bool b] else u):=fun {s u} b hr=>by
  cases ok with
  | false=>exact hr
  | true =>
   simp only[mres,if_true];exact Rel.tup_iff.2 ⟨[u,.bool b],rfl,.cons hr (.cons (.d (.val _ rfl)) .nil)⟩
 have hkk:∀ kv,kvS k=.d (.val kv)→kv=uk:=fun kv e=>kvS_rel hk e
 generalize kvS k=kk at h hkk;unfold MgetN at h;split at h
 ·rename_i kv;obtain rfl:kv=uk:=hkk kv rfl;split at h
  ·rename_i r;split at h
   ·rename_i mk' agg' es hg;obtain⟨rfl,rfl,hok,hA,hB⟩:=h;have hx':=getr_some hg (by simp);obtain⟨b,ms,clock,hθ,⟨hb,hst⟩,hsz,hc⟩:=hS.res r _ hx';cases hx with | hd hr ht' =>
    rw[hθ] at ht';subst ht';have hc':∀ (i:Nat) k ds,es[i]?=some (k,ds)→mk'.ok k=true∧∃ m,ms[i]?=some m∧m.key=k:=fun i k ds hi=>let ⟨h1,m,h2,h3,_⟩:=hc i k ds hi;⟨h1,m,h2,h3⟩
    have hfk:=findKey_run (w:=w) hd hok hsz hc'
    cases hm:midx es kv with
    | none =>
     rw[hm] at hfk;refine⟨_,_,?_,tup false (cval_rel c z),hB (by rw[mget_idx,hm];rfl)⟩;simp[Instr.lookup,run_underlying ht,MapKept.run_getObj_map hb,run_chk hd hok _ 9999 (by omega),hfk,run_zeroB hz,Result.andThen]
    | some j =>
     rw[hm] at hfk;obtain⟨k0,ds0,hj0,hkk⟩:=midx_lt hm;obtain⟨h1,m,h2,h3,h4⟩:=hc j k0 ds0 hj0;simp only[h2,qS] at hfk;refine⟨_,_,?_,tup true (dsv_rel h4),hA ds0 (by rw[mget_idx,hm];simp[hj0])⟩;simp[Instr.lookup,run_underlying ht,MapKept.run_getObj_map hb,run_chk hd hok _ 9999 (by omega),hfk,Result.andThen]
   ·rename_i mk' es hg;obtain⟨rfl,rfl,hok,hA,hB⟩:=h;have hx':=getr_some hg (by simp);obtain⟨b,ms,clock,hθ,hb,hsz,hc⟩:=hS.res r _ hx';cases hx with | hd hr ht' =>
    rw[hθ] at ht';subst ht';have hc':∀ (i:Nat) k s,es[i]?=some (k,s)→mk'.ok k=true∧∃ m,ms[i]?=some m∧m.key=k:=fun i k s hi=>let ⟨h1,m,h2,h3,_⟩:=hc i k s hi;⟨h1,m,h2,h3⟩
    have hfk:=findKey_run (w:=w) hd hok hsz hc'
    cases hm:midx es kv with
    | none =>
     rw[hm] at hfk;refine⟨_,_,?_,tup false (cval_rel c z),hB (by rw[mget_idx,hm];rfl)⟩;simp[Instr.lookup,run_underlying ht,MapKept.run_getObj_map hb,run_chk hd hok _ 9999 (by omega),hfk,run_zeroB hz,Result.andThen]
    | some j =>
     rw[hm] at hfk;obtain⟨k0,s0,hj0,hkk⟩:=midx_lt hm;obtain⟨h1,m,h2,h3,h4⟩:=hc j k0 s0 hj0;simp only[h2,qS] at hfk;refine⟨_,_,?_,tup true h4,hA s0 (by rw[mget_idx,hm];simp[hj0])⟩;simp[Instr.lookup,run_underlying ht,MapKept.run_getObj_map hb,run_chk hd hok _ 9999 (by omega),hfk,Result.andThen]
   ·exact h.elim
  ·obtain rfl:=hx.of_val;obtain⟨hok,hK⟩:=h;refine⟨_,_,?_,tup false (cval_rel c z),hK⟩;have hfk:=findKey_run (α:=List D) (P:=P) (w:=w) (es:=[]) (ms:=#[]) hd hok rfl (fun i k ds hi=>by simp at hi);simp only[midx] at hfk;simp[Instr.lookup,run_underlying ht,run_chk hd hok _ 9999 (by omega),hfk,run_zeroB hz,Result.andThen]
  ·exact h.elim
 ·exact h.elim
end
end Go.SX
namespace Go.SX
open Go
variable [Tabs]
section
variable {P:Program}{c:Cx}{own:List Res}{env:List SV}{a:Act}{w w':World}{o:Oper}{K:SV→List Res→Prop}{Q:Exit→Act→World→Prop}
theorem fin_ons_wp {own1:List Res}{c1:Cx}(hle:c.le c1)(hg:Goes c own w c1 own1 w)(h:o.wp P a w (Fin c1 own1 w a o.dst K) Q):o.wp P a w (Fin c own w a o.dst K) Q :=
 Oper.wp_mono (fun _ _ h=>fin_ons hle hg h) h
theorem opN_sound {d:DOp}(hc:compOp P o.op=some d)(hE:EnvOk c env a)(hS:Sat c own w)(h:opN P d env own K):o.wp P a w (Fin c own w a o.dst K) Q:=by
 have hf:∀ x,Rel c (evn own env x) (a.eval x):=fun x=>nrm_rel hS (ev_rel hE x)
 have pure:∀ sv,pureOp own (evn own env) d=some sv→K sv own→o.wp P a w (Fin c own w a o.dst K) Q:=fun sv hp hK=>by
  obtain⟨u,h1,h2⟩:=pure_sound (w:=w) hf hS hc hp;exact wp_val h1 (fin_same hS h2 hK)
 have pureN:∀ x,pureOp own (evn own env) d=x→PureN x (fun sv=>K sv own)→o.wp P a w (Fin c own w a o.dst K) Q:=fun x hx hP=>by
  obtain⟨sv,h1,h2⟩:=pureN_iff.1 hP;exact pure sv (hx.trans h1) h2
 have val:∀ (s:Sem Value),execOp a.eval o=(do Pure.pure (Next.value (← s)):Sem Next)→(∃ u sv,s.run P w=.ok u w∧Rel c sv u∧K sv own)→o.wp P a w (Fin c own w a o.dst K) Q:=by
  rintro s he ⟨u,sv,h1,h2,h3⟩;exact wp_sem he h1 (fin_same hS h2 h3)
 have valF:∀ (s:Sem Value),execOp a.eval o=(do Pure.pure (Next.value (← s)):Sem Next)→(∃ u w',s.run P w=.ok u w'∧Fin c own w a o.dst K (a.put o.dst u) w')→o.wp P a w (Fin c own w a o.dst K) Q:=by
  rintro s he ⟨u,w',h1,h2⟩;exact wp_sem he h1 h2
 cases hop:o.op with
 | move x=>rw[hop] at hc;cases hc;exact pure _ rfl h
 | assign x=>rw[hop] at hc;cases hc;exact pure _ rfl h
 | pick x y z=>rw[hop] at hc;cases hc;exact pureN _ rfl h
 | binOp op t x y ty =>
  have hc':=hc;rw[hop] at hc';simp only[compOp] at hc';have dv:d=.div op x y→o.wp P a w (Fin c own w a o.dst K) Q:=by
   rintro rfl;obtain⟨hk,r,sv,h1,h2,h3⟩:=divN_sound (P:=P) (w:=w) (t:=t) (K:=fun sv=>K sv own) (hf x) (hf y) h;refine val (do eqGuard op t x y (a.eval x) (a.eval y);binOp op t (a.eval x) (a.eval y)) (by simp only[execOp,hop]) ⟨r,sv,?_,h2,h3⟩;rw[qG,eqGuard_scalar hk];exact h1
  split at hc'
  ·split at hc'
   ·cases hc';exact pureN _ rfl h
   ·cases hc';exact pureN _ rfl h
   ·cases hc'
  ·split at hc'
   ·cases hc';exact pureN _ rfl h
   ·cases hc';exact pureN _ rfl h
   ·cases hc'
  ·rename_i te ht;split at hc'
   ·rename_i hyn;split at hc'
    ·cases hc';obtain⟨r,sv,h1,h2,h3⟩:=nilN_sound (P:=P) (w:=w) (n:=false) (K:=fun sv=>K sv own) hS ⟨te,ht⟩ (hf x) h;exact val (do eqGuard .eql t x (.const (.slice none 0 0)) (a.eval x) (.slice none 0 0);binOp .eql t (a.eval x) (.slice none 0 0)) (by simp only[execOp,hop];rfl) ⟨r,sv,h1,h2,h3⟩
    ·cases hc';obtain⟨r,sv,h1,h2,h3⟩:=nilN_sound (P:=P) (w:=w) (n:=true) (K:=fun sv=>K sv own) hS ⟨te,ht⟩ (hf x) h;exact val (do eqGuard .neq t x (.const (.slice none 0 0)) (a.eval x) (.slice none 0 0);binOp .neq t (a.eval x) (.slice none 0 0)) (by simp only[execOp,hop];rfl) ⟨r,sv,h1,h2,h3⟩
    ·cases hc'
   ·cases hc'
  ·split at hc'
   ·cases hc';exact dv rfl
   ·cases hc';exact dv rfl
   ·rcases shOp_or .shl x y with hs | hs
    ·rw[hs] at hc';cases hc';exact pureN _ rfl h
    ·rw[hs] at hc';cases hc';exact dv rfl
   ·rcases shOp_or .shr x y with hs | hs
    ·rw[hs] at hc';cases hc';exact pureN _ rfl h
    ·rw[hs] at hc';cases hc';exact dv rfl
   ·cases hc';exact pureN _ rfl h
  ·split at hc'
   ·cases hc';exact dv rfl
   ·cases hc';exact pureN _ rfl h
  ·obtain⟨rfl,⟨rfl,rfl⟩ | ⟨rfl,rfl⟩⟩:=pnOp_some hc'
   ·exact pureN _ rfl h
   ·exact pureN _ rfl h
  ·unfold aggEq at hc';split at hc'
   ·split at hc'
    ·split at hc'
     ·cases hc';exact pureN _ rfl h
     ·cases hc';exact pureN _ rfl h
     ·cases hc'
    ·cases hc'
   ·cases hc'
 | unOp op t x=>rw[hop] at hc;cases hc;exact pureN _ rfl h
 | convert s t x =>
  have hc':=hc;rw[hop] at hc';simp only[compOp] at hc';split at hc'
  ·cases hc';exact pureN _ rfl h
  ·rename_i e hs ht;split at hc'
   ·rename_i he;cases hc';obtain⟨p,sv,h1,h2,h3⟩:=b2sN_sound (P:=P) (w:=w) (K:=fun sv=>K sv own) hS hs he ht (hf x) h;exact val (convert s t (a.eval x)) (by simp only[execOp,hop]) ⟨p,sv,h1,h2,h3⟩
   ·cases hc'
  ·cases hc'
 | fieldAddr t x f =>
  have hc':=hc;rw[hop] at hc';simp only[compOp] at hc';split at hc'
  ·simp only[Option.bind_eq_bind,qH] at hc';obtain⟨fd,_,s,_,hc'⟩:=hc';split at hc'
   ·cases hc'
   ·cases hc';exact pureN _ rfl h
  ·cases hc'
 | index t x i =>
  have hc':=hc;rw[hop] at hc';simp only[compOp] at hc';split at hc'
  ·rename_i n e ht;simp only[Option.bind_eq_bind,qH] at hc';obtain⟨s,hs,dd,hd,hc'⟩:=hc';cases hc';obtain⟨p,sv,h1,h2,h3⟩:=idxVN_sound (P:=P) (w:=w) (K:=fun sv=>K sv own) ht hs hd (hf x) (hf i) h;exact val (Instr.index t (a.eval x) (a.eval i)) (by simp only[execOp,hop]) ⟨p,sv,h1,h2,h3⟩
  ·rename_i ht;cases hc';obtain⟨p,sv,h1,h2,h3⟩:=idxStN_sound (P:=P) (w:=w) (K:=fun sv=>K sv own) ht (hf x) (hf i) h;exact val (Instr.index t (a.eval x) (a.eval i)) (by simp only[execOp,hop]) ⟨p,sv,h1,h2,h3⟩
  ·cases hc'
 | field t x f =>
  have hc':=hc;rw[hop] at hc';simp only[compOp] at hc';split at hc'
  ·simp only[Option.bind_eq_bind,qH] at hc';obtain⟨fd,_,s,_,d',_,hc'⟩:=hc';cases hc';exact pureN _ rfl h
  ·cases hc'
 | load t x =>
  have hc':=hc;rw[hop] at hc';simp only[compOp,Option.bind_eq_bind,qH] at hc';obtain⟨s,hs,dd,hd,hc'⟩:=hc';cases hc';obtain⟨v,sv,h1,h2,h3⟩:=loadN_sound (P:=P) (K:=fun sv=>K sv own) hS hs hd (hf x) h;exact val (Instr.loadAt t (a.eval x)) (by simp only[execOp,hop]) ⟨v,sv,h1,h2,h3⟩
 | store t x v =>
  have hc':=hc;rw[hop] at hc';simp only[compOp,Option.bind_eq_bind,qH] at hc';obtain⟨s,hs,hc'⟩:=hc';cases hc';obtain⟨c1,k1,k2,k3⟩:=frzT_ok hS (evn own env x) (evn own env v);have hE1:=hE.mono k2;obtain⟨w1,own',h1,h2,h3,h4⟩:=storeN_sound (P:=P) (K:=fun own'=>K (.tup []) own') k1 hs ((hf x).mono k2) (nrm_rel k1 (ev_rel hE1 v)) h;refine fin_ons_wp k2 k3 (wp_skp (w':=w1) ?_ ?_)
  ·simp only[execOp,hop,qG,h1,qF,Sem.run_pure]
  ·exact⟨c1,.tup [],own',undef,rfl,.tup rfl (fun i s u hs=>by simp at hs),h2,.refl c1,h3,h4⟩
 | alloc t =>
  have hc':=hc;rw[hop] at hc';simp only[compOp,Option.bind_eq_bind,qH] at hc';obtain⟨z,hz,hc'⟩:=hc';cases hc';have:=boxN_sound (a:=a) (o:=o) (K:=K) hS (cval_rel c z) h;refine valF (Instr.alloc t true (.tuple #[])) (by simp only[execOp,hop]) ⟨_,_,?_,this⟩;simp only[Instr.alloc,qG,run_zeroB hz,qF,newVar,newRow,run_newObj,Sem.run_pure,World.alloc_eq]
 | box t x =>
  rw[hop] at hc;cases hc;have:=boxN_sound (a:=a) (o:=o) (K:=K) hS (hf x) h;refine valF (Instr.box t (a.eval x)) (by simp only[execOp,hop]) ⟨_,_,?_,this⟩;simp only[Instr.box,qG,newVar,newRow,run_newObj,Sem.run_pure,qF,World.alloc_eq]
 | build t ps =>
  have hc':=hc;rw[hop] at hc';simp only[compOp] at hc';split at hc'
  ·simp only[Option.bind_eq_bind,qH] at hc';obtain⟨z,_,l,_,hc'⟩:=hc';split at hc'
   ·cases hc';exact pureN _ rfl h
   ·cases hc'
  ·simp only[Option.bind_eq_bind,qH] at hc';obtain⟨z,_,s,_,hc'⟩:=hc';cases hc';exact pureN _ rfl h
  ·cases hc'
 | buildSlice t n ps =>
  have hc':=hc;rw[hop] at hc';simp only[compOp] at hc';split at hc'
  ·rename_i e ht;simp only[Option.bind_eq_bind,qH] at hc';obtain⟨s,hs,z,hz,hc'⟩:=hc';split at hc'
   ·cases hc'
   ·rename_i h0;cases hc';obtain⟨c1,k1,k2,k3⟩:=frzL_ok (ps.toList.map fun p=>evn own env p.2) hS;obtain⟨u,w1,h1,h2⟩:=bsliceN_sound (P:=P) (o:=o) (K:=K) (n:=n) (a:=a) k1 ht hs hz h0 (f:=evn own env) (ps:=ps.toList) (fun x=>(hf x).mono k2) h;refine fin_ons_wp k2 k3 (wp_sem (s:=Instr.buildSlice t n (ps.map fun p=>(p.1,a.eval p.2))) (by simp only[execOp,hop]) ?_ h2);have:(List.map (fun p=>(p.1,a.eval p.2)) ps.toList).toArray=ps.map fun p=>(p.1,a.eval p.2):=by apply Array.toList_inj.1;simp
    rw[← this];exact h1
  ·cases hc'
 | indexAddr t x i =>
  have hc':=hc;rw[hop] at hc';simp only[compOp] at hc';split at hc'
  ·rename_i e ht;simp only[Option.bind_eq_bind,qH] at hc';obtain⟨s,hs,hc'⟩:=hc';cases hc';obtain⟨p,sv,h1,h2,h3⟩:=idxN_sound (P:=P) (K:=fun sv=>K sv own) hS ht hs (hf x) (hf i) h;exact val (Instr.indexAt t (a.eval x) (a.eval i)) (by simp only[execOp,hop]) ⟨p,sv,h1,h2,h3⟩
  ·rename_i n e ht;simp only[Option.bind_eq_bind,qH] at hc';obtain⟨s,hs,hc'⟩:=hc';cases hc';obtain⟨p,sv,h1,h2,h3⟩:=idxPN_sound (P:=P) (w:=w) (K:=fun sv=>K sv own) ht hs (hf x) (hf i) h;exact val (Instr.indexAt t (a.eval x) (a.eval i)) (by simp only[execOp,hop]) ⟨p,sv,h1,h2,h3⟩
  ·cases hc'
 | slice t x lo hi mx =>
  cases mx with
  | some m=>rw[hop] at hc;cases hc
  | none =>
   have hc':=hc;rw[hop] at hc';simp only[compOp] at hc';split at hc'
   ·rename_i e ht;simp only[Option.bind_eq_bind,qH] at hc';obtain⟨s,hs,hc'⟩:=hc';cases hc';rcases h with h | h
    ·obtain⟨c1,k1,k2,k3⟩:=frzS_ok hS (evn own env x);obtain⟨v,sv,h1,h2,h3⟩:=slcN_sound (P:=P) (w:=w) (c:=c1) (K:=fun sv=>K sv (frzS own (evn own env x))) k1 ht hs (nrm_rel k1 (ev_rel (hE.mono k2) x)) (relO_map (fun x=>(hf x).mono k2) lo) (relO_map (fun x=>(hf x).mono k2) hi) h;exact fin_ons_wp k2 k3 (wp_sem (s:=Instr.sliceAt t (a.eval x) (lo.map a.eval) (hi.map a.eval) none) (by simp only[execOp,hop,Option.map_none]) h1 (fin_same k1 h2 h3))
    ·obtain⟨v,h1,h2⟩:=slcRN_sound (P:=P) (w:=w) (c:=c) (o:=o) (a:=a) hS ht hs (hf x) (relO_map hf lo) (relO_map hf hi) h;exact wp_sem (s:=Instr.sliceAt t (a.eval x) (lo.map a.eval) (hi.map a.eval) none) (by simp only[execOp,hop,Option.map_none]) h1 h2
   ·rename_i ht;cases hc';obtain⟨v,sv,h1,h2,h3⟩:=slcSN_sound (P:=P) (w:=w) (c:=c) (K:=fun sv=>K sv own) ht (hf x) (relO_map hf lo) (relO_map hf hi) h;exact val (Instr.sliceAt t (a.eval x) (lo.map a.eval) (hi.map a.eval) none) (by simp only[execOp,hop,Option.map_none]) ⟨v,sv,h1,h2,h3⟩
   ·cases hc'
 | makeFunc fn fs cs=>rw[hop] at hc;cases hc;exact pure _ rfl h
 | makeSlice t l k =>
  have hc':=hc;rw[hop] at hc';simp only[compOp] at hc';split at hc'
  ·rename_i e ht;simp only[Option.bind_eq_bind,qH] at hc';obtain⟨i,hi,z,hz,hc'⟩:=hc';cases hc';exact valF (Instr.makeSlice t (a.eval l) (a.eval k)) (by simp only[execOp,hop]) (mksN_sound hS ht hi hz rfl (hf l) (hf k) h)
  ·cases hc'
 | extract x i=>rw[hop] at hc;cases hc;exact pureN _ rfl h
 | nilCheck x=>rw[hop] at hc;cases hc;exact pureN _ rfl h
 | call cl =>
  obtain⟨callee,args,argTypes⟩:=cl
  cases callee with
  | value fv =>
   have hargs:∀ (f:FuncId)(first cap:List SV)(us vs:List Value),a.eval fv=.func (.func f) us.toArray vs.toArray→RelL c first us→RelL c cap vs →
     CallN P f own (first++args.toList.map (evn own env)++cap) K→o.wp P a w (Fin c own w a o.dst K) Q:=by
    intro f first cap us vs hv h1 h2 h3
    refine callN_wp (us:=us++args.toList.map a.eval++vs) hS ((h1.append (rels_map hf _)).append h2) ?_ h3;have e:(us++args.toList.map a.eval++vs).toArray=us.toArray++args.map a.eval++vs.toArray:=by apply Array.toList_inj.1;simp
    rw[e];simp only[execOp,hop,resolve,hv,Deferred.ofValue,qG,Sem.run_pure,qF,invoke]
   have cv:d=.callv fv args.toList→o.wp P a w (Fin c own w a o.dst K) Q:=by
    rintro rfl;have hx:=hf fv;simp only[opN,CallVN] at h;split at h
    ·rename_i f first cap hev
     rw[hev] at hx;obtain⟨us,vs,hv,h1,h2⟩:=Rel.clo_iff.1 hx;exact hargs f first cap us vs hv h1 h2 h
    ·exact h.elim
   cases fv with
   | func f =>
    rw[hop] at hc;cases hc;exact hargs f [] [] [] [] rfl .nil .nil (by simpa [opN] using h)
   | tmp t=>rw[hop] at hc;cases hc;exact cv rfl
   | const v=>rw[hop] at hc;cases hc;exact cv rfl
   | global g=>rw[hop] at hc;cases hc;exact cv rfl
  | invoke r m=>rw[hop] at hc;cases hc
  | builtin b =>
   have hc':=hc;rw[hop] at hc';have res:(execOp a.eval o).run P w=(builtin b argTypes o.type (args.map fun | .const _=>true | _=>false) (args.map a.eval)).run P w:=by
    simp only[execOp,hop];simp[resolve,invoke];rfl
   cases b<;>simp only[compOp] at hc'<;>try (cases hc';done)
   case append =>
    split at hc'
    ·rename_i t u x y ht hx;split at hc'
     ·rename_i e hu;simp only[Option.bind_eq_bind,qH] at hc';obtain⟨i,hi,z,hz,hc'⟩:=hc';split at hc'
      ·rename_i hcond;obtain⟨htu,hzs,hpos⟩:=hcond;cases hc';subst htu;obtain⟨r,w1,h1,h2⟩:=appN_sound (P:=P) (o:=o) (a:=a) (ty:=o.type) hS hu hi hz hzs hpos (hf x) (hf y) h;refine wp_val (u:=r) ?_ h2;have e1:args=#[x,y]:=by rw[← Array.toList_inj,hx]
       have e2:argTypes=#[t,t]:=by rw[← Array.toList_inj,ht]
       rw[res,e1,e2];simp only[builtin,List.map_toArray,qR,List.map_nil,qG,h1,qF,Sem.run_pure]
      ·unfold appzOp at hc';split at hc'
       ·rename_i hui;split at hc'
        ·rename_i hcond;cases hc';obtain⟨r,w1,h1,h2⟩:=appzN_sound (P:=P) (o:=o) (a:=a) (ty:=o.type) hS hu hui hi hz hcond.1 hcond.2 (hf x) (hf y) (hf y) h;refine wp_val (u:=r) ?_ h2;have e1:args=#[x,y]:=by rw[← Array.toList_inj,hx]
         have e2:argTypes=#[t,u]:=by rw[← Array.toList_inj,ht]
         rw[res,e1,e2];simp only[builtin,List.map_toArray,qR,List.map_nil,qG,h1,qF,Sem.run_pure]
        ·cases hc'
       ·cases hc'
     ·cases hc'
    ·cases hc'
   case clear =>
    split at hc'
    ·rename_i t x ht hx;split at hc'
     ·rename_i e hu;simp only[Option.bind_eq_bind,qH] at hc';obtain⟨z,hz,hc'⟩:=hc';cases hc';obtain⟨w1,own',h1,h2,h3,h4⟩:=clrN_sound (P:=P) (K:=fun own'=>K (.tup []) own') (ty':=o.type) hS hu hz (hf x) h;have e1:args=#[x]:=by rw[← Array.toList_inj,hx]
      have e2:argTypes=#[t]:=by rw[← Array.toList_inj,ht]
      refine wp_val (u:=.tuple #[]) (w':=w1) ?_ ⟨c,.tup [],own',.tuple #[],rfl,.tup rfl (fun i s u hs=>by simp at hs),h2,.refl c,h3,h4⟩;rw[res,e1,e2];simp only[builtin,List.map_toArray,qR,List.map_nil,qG,h1,qF,Sem.run_pure]
     ·cases hc'
    ·cases hc'
   case delete =>
    split at hc'
    ·rename_i t tk x y ht hx;split at hc'
     ·rename_i kt e hu;simp only[Option.bind_eq_bind,qH] at hc';obtain⟨mk,hm,hc'⟩:=hc';cases hc';obtain⟨w1,own',h1,h2,h3,h4⟩:=mdelN_sound (P:=P) (K:=fun own'=>K (.tup []) own') (ty:=o.type) (tk:=tk) hS hu (mkOf_spec hm) (hf x) (hf y) h;have e1:args=#[x,y]:=by rw[← Array.toList_inj,hx]
      have e2:argTypes=#[t,tk]:=by rw[← Array.toList_inj,ht]
      refine wp_val (u:=.tuple #[]) (w':=w1) ?_ ⟨c,.tup [],own',.tuple #[],rfl,.tup rfl (fun i s u hs=>by simp at hs),h2,.refl c,h3,h4⟩;rw[res,e1,e2];simp only[builtin,List.map_toArray,qR,List.map_nil,qG,h1,qF,Sem.run_pure]
     ·cases hc'
    ·cases hc'
   case len =>
    split at hc'
    ·split at hc'
     ·cases hc';exact pureN _ rfl h
     ·cases hc';exact pureN _ rfl h
     ·cases hc';exact pureN _ rfl h
     ·cases hc'
    ·cases hc'
   case cap =>
    split at hc'
    ·split at hc'
     ·cases hc';exact pureN _ rfl h
     ·cases hc'
    ·cases hc'
   case max =>
    split at hc'
    ·cases hc';exact pureN _ rfl h
    ·cases hc'
   case min =>
    split at hc'
    ·cases hc';exact pureN _ rfl h
    ·cases hc'
 | makeMap t r =>
  cases r with
  | some r=>rw[hop] at hc;cases hc
  | none =>
   have hc':=hc;rw[hop] at hc';simp only[compOp] at hc';split at hc'
   ·simp only[Option.bind_eq_bind,qH] at hc';obtain⟨mk,hm,d',hd,hc'⟩:=hc';split at hc'
    ·cases hc';obtain⟨u,w1,h1,h2⟩:=mkf_sound (P:=P) (t:=t) (a:=a) (o:=o) hS h;exact valF (Instr.makeMap t none) (by simp only[execOp,hop];rfl) ⟨u,w1,h1,h2⟩
    ·cases hc';obtain⟨u,w1,h1,h2⟩:=mkmN_sound (P:=P) (t:=t) (a:=a) (o:=o) hS h;exact valF (Instr.makeMap t none) (by simp only[execOp,hop];rfl) ⟨u,w1,h1,h2⟩
   ·cases hc'
 | mapUpdate t m k v =>
  have hc':=hc;rw[hop] at hc';simp only[compOp] at hc';split at hc'
  ·rename_i kt e ht;simp only[Option.bind_eq_bind,qH] at hc';obtain⟨mk,hm,d',hd,hc'⟩:=hc';cases hc';obtain⟨c1,k1,k2,k3⟩:=frzS_ok hS (evn own env v);have hE1:=hE.mono k2;obtain⟨w1,own',h1,h2,h3,h4⟩:=msetN_sound (P:=P) (e:=e) (K:=fun own'=>K (.tup []) own') k1 ht (mkOf_spec hm) ((hf m).mono k2) ((hf k).mono k2) (nrm_rel k1 (ev_rel hE1 v)) h;refine fin_ons_wp k2 k3 (wp_skp (w':=w1) ?_ ?_)
   ·simp only[execOp,hop,qG,h1,qF,Sem.run_pure]
   ·exact⟨c1,.tup [],own',undef,rfl,.tup rfl (fun i s u hs=>by simp at hs),h2,.refl c1,h3,h4⟩
  ·cases hc'
 | insert t m k v =>
  have hc':=hc;rw[hop] at hc';simp only[compOp] at hc';split at hc'
  ·rename_i kt e ht;simp only[Option.bind_eq_bind,qH] at hc';obtain⟨mk,hm,d',hd,hc'⟩:=hc';cases hc';obtain⟨c1,k1,k2,k3⟩:=frzS_ok hS (evn own env v);have hE1:=hE.mono k2;obtain⟨w1,own',h1,h2,h3,h4⟩:=msetN_sound (P:=P) (e:=e) (K:=fun own'=>K (.tup []) own') k1 ht (mkOf_spec hm) ((hf m).mono k2) ((hf k).mono k2) (nrm_rel k1 (ev_rel hE1 v)) h;refine fin_ons_wp k2 k3 (wp_skp (w':=w1) ?_ ?_)
   ·simp only[execOp,hop,qG,h1,qF,Sem.run_pure]
   ·exact⟨c1,.tup [],own',undef,rfl,.tup rfl (fun i s u hs=>by simp at hs),h2,.refl c1,h3,h4⟩
  ·cases hc'
 | lookup t m k ok =>
  have hc':=hc;rw[hop] at hc';simp only[compOp] at hc';split at hc'
  ·rename_i kt e ht;simp only[Option.bind_eq_bind,qH] at hc';obtain⟨mk,hm,d',hd,z,hz,hc'⟩:=hc';cases hc';obtain⟨u,sv,h1,h2,h3⟩:=mgetN_sound (P:=P) (K:=fun sv=>K sv own) hS ht (mkOf_spec hm) hz (hf m) (hf k) h;exact val (Instr.lookup t (a.eval m) (a.eval k) ok) (by simp only[execOp,hop]) ⟨u,sv,h1,h2,h3⟩
  ·cases hc'
 | makeInterface t x=>rw[hop] at hc;cases hc;exact h.elim
 | panic x=>rw[hop] at hc;cases hc;exact h.elim
 | _=>rw[hop] at hc;cases hc
end
def Nx (n0:Nat)(c:Cx)(own:List Res)(w:World)(K:List SV→List Res→Prop):Act→World→Prop:=fun a' w' =>
 a'.defers=[]∧∃ c' env' own',EnvOk c' env' a'∧Sat c' own' w'∧(∀ r,r<n0→c'.θ r=c.θ r)∧n0≤c'.N∧Goes c own w c' own' w'∧K env' own'
section
variable {P:Program}{n0:Nat}
theorem put_defers (a:Act)(d:Option Tmp)(v:Value):(a.put d v).defers=a.defers:=by cases d<;>rfl
theorem guard_sound {c:Cx}{ops:Array Oper}{o:Oper}{g:GOp}{env:List SV}{a:Act}{A B:List SV→Prop}(hc:compGOp P ops o=some g)(hE:EnvOk c env a)(h:GuardN g.guard env A B) :
  compOp P o.op=some g.op∧o.dst=g.dst∧((Region.wanted o (yielded ops a.tmps)=true∧∃ env',EnvOk c env' a∧A env')∨(Region.wanted o (yielded ops a.tmps)=false∧∃ env',EnvOk c env' a∧B env')):=by
 unfold compGOp at hc;split at hc
 ·rename_i d h1 h2;cases hc;exact⟨h1,rfl,.inl ⟨by simp[Region.wanted,h2],env,hE,h⟩⟩
 ·rename_i d j want h1 h2;split at hc
  ·rename_i s hs;cases hc;refine⟨h1,rfl,?_⟩;simp only[GuardN] at h
   have hy:yielded ops a.tmps j=match a.tmps[s]? with | some (.bool b)=>some b | _=>none:=by
    unfold yielded;rw[hs];rfl
   have hset:∀ (b:Bool),a.tmps[s]?=some (.bool b)→EnvOk c (seti env s (.d (.val (.bool b)))) a:=fun b hb=>by
    rw[seti_eq];refine⟨by simp[hE.size],fun i t u hi hu=>?_⟩;rw[List.getElem?_set] at hi;split at hi
    ·rename_i e;subst e;split at hi
     ·cases hi;rw[hb] at hu;cases hu;exact .d (.val _ rfl)
     ·cases hi
    ·exact hE.rel i t u hi hu
   split at h
   ·rename_i b hg;rw[geti_eq] at hg
    cases he:env[s]? with
    | none=>simp[he] at hg
    | some sv =>
     simp[he] at hg;subst hg;have hlt:s<a.tmps.size:=by rw[hE.size];exact(qC.1 he).1
     have hb:a.tmps[s]?=some (.bool b):=by
      have h3:a.tmps[s]?=some a.tmps[s]:=by simp[hlt]
      rw[h3,(hE.rel s _ _ he h3).of_val]
     rw[hb] at hy;by_cases hbw:b=want
     ·subst hbw;exact .inl ⟨by simp[Region.wanted,h2,hy],_,hset _ hb,h.1 rfl⟩
     ·have hbn:b=!want:=by cases b<;>cases want<;>simp_all
      subst hbn;exact .inr ⟨by simp[Region.wanted,h2,hy],_,hset _ hb,h.2 rfl⟩
   ·rename_i hg;rw[geti_eq] at hg
    cases he:env[s]? with
    | none=>simp[he] at hg
    | some sv =>
     simp[he] at hg;subst hg;have hlt:s<a.tmps.size:=by rw[hE.size];exact(qC.1 he).1
     have h3:a.tmps[s]?=some a.tmps[s]:=by simp[hlt]
     obtain⟨us,hus,_⟩:=Rel.tup_iff.1 (hE.rel s _ _ he h3);rw[h3,hus] at hy;exact .inr ⟨by simp[Region.wanted,h2,hy],env,hE,h⟩
   ·exact h.elim
  ·cases hc
 ·cases hc
theorem run_sound (ops:Array Oper){Q:Exit→Act→World→Prop}:∀ (l:List Oper)(gs:List GOp){c:Cx}{env:List SV}{own:List Res}{a:Act}{w:World}{K:List SV→List Res→Prop},compOps P ops l=some gs→EnvOk c env a→Sat c own w→n0≤c.N→a.defers=[] →
  run P gs env own K→(∀ a' w',Nx n0 c own w K a' w'→Q .normal a' w')→wpList P ops Q l a w:=by
 intro l
 induction l with
 | nil =>
  intro gs c env own a w K hc hE hS hn hd h hQ;simp[compOps] at hc;subst hc;exact wpList_nil (hQ a w ⟨hd,c,env,own,hE,hS,fun _ _=>rfl,hn,.refl c own w,h⟩)
 | cons o l ih =>
  intro gs c env own a w K hc hE hS hn hd h hQ;unfold compOps at hc;split at hc
  ·rename_i g r hg hr;cases hc;simp only[run] at h;obtain⟨h1,h2,h3⟩:=guard_sound hg hE h;refine wpList_step fun K' hK'=>?_
   rcases h3 with ⟨hw,env',hE',hA⟩ | ⟨hw,env',hE',hB⟩
   ·rw[if_pos hw];refine Oper.wp_mono (fun a' w' hfin=>hK' a' w' ?_) (opN_sound h1 hE' hS hA);obtain⟨c',sv,own',u,rfl,k1,k2,k3,k4,k5⟩:=hfin;rw[h2];refine ih r hr ((hE'.mono k3).putE k1) k2 (Nat.le_trans hn k3.n) (by rw[put_defers];exact hd) k5 fun a' w' hnx=>hQ a' w' ?_
    obtain⟨m1,c'',env'',own'',m2,m3,m4,m5,m6,m7⟩:=hnx;exact⟨m1,c'',env'',own'',m2,m3,fun r hr=>(m4 r hr).trans (k3.t r (by omega)),m5,k4.trans m6,m7⟩
   ·rw[if_neg (by rw[hw];simp)];refine hK' _ _ ?_;rw[h2];exact ih r hr (hE'.putE (.tup rfl (fun i s u hs=>by simp at hs))) hS hn (by rw[put_defers];exact hd) hB hQ
  ·cases hc
end
end Go.SX
