/- Parts of the proof. -/
import Derived.Test.YtlpempbeenpilaaGreatDoorZSxIn
import Derived.Test.YtlpempbeenpilaaGreatDoorZRgH3
import Derived.Test.YtlpempbeenpilaaGreatDoorZRg44d
import Derived.Test.YtlpempbeenpilaaGreatDoorZRg46d
import Derived.Test.YtlpempbeenpilaaGreatDoorZRgTab
import Derived.Test.YtlpempbeenpilaaGreatDoorZRgT
set_option linter.unusedSimpArgs false
set_option linter.unusedVariables false
set_option linter.unusedSectionVars false
set_option linter.unusedVariables false
namespace Go.SX.Rg
open Go Go.SX Go.Proofs Go.RowKit Go.Sort Go.Shelf
attribute [local go_sem] Oper.semAt_some
def c55a : List GOp:=[
 ⟨(some 12),.load 1 false (.tmp 5),none⟩,
 ⟨(some 13),.mv (.tmp 7),none⟩,
 ⟨(some 14),.load 1 false (.tmp 3),none⟩,
 ⟨(some 15),.mv (.tmp 6),none⟩,
 ⟨(some 16),.callv (.tmp 14) [(.tmp 15)],none⟩,
 ⟨(some 17),.call 96 [(.tmp 13),(.tmp 16)],none⟩,
 ⟨(some 18),.bslice 9 1 1 (.string ⟨#[]⟩) [(0,(.tmp 17))],none⟩]
def c55b : List GOp:=[
 ⟨(some 19),.app 9 1 16 (.string ⟨#[]⟩) (.tmp 12) (.tmp 18),none⟩,
 ⟨none,.store 1 (.tmp 5) (.tmp 19),none⟩]
noncomputable def walkEnv (s:ByteArray)(clo:SV)(i:Int)(t:ByteArray):List SV:=[vS s,clo,.top,.ptr 0 0,.top,.ptr 1 0,vIi64 i,vS t,.top,.top,.top,.top,.top,.top,.top,.top,.top,.top,.top,.top,.top]
noncomputable def walkOwn (s:ByteArray)(clo:SV)(outs:List ByteArray):List Res:=[.cells [clo] 51,.cells [.hd 3] 29,.cells [vS s] 9,.row 9 1 (W eS outs)]
set_option maxRecDepth 100000 in
theorem walk_round {P:Program}(hP:P=Tryz.prog)(s t o:ByteArray)(i d:Int)(outs:List ByteArray)(f:FuncId)(caps:List SV)(hcap:caps=[]∨∃ ds,caps=[.fp ds])(hl:outs.length≤1000)
  (hf:Fn1 P f (vIi64 i::caps) (vIi64 d)) (hc:digest_Chain_g t d=some o) (K:List SV→List Res→Prop)
  (hK:∀ env'' own'',StLe 3 env'' own'' (walkEnv s (.clo (.func f) [] caps) i t) (walkOwn s (.clo (.func f) [] caps) (outs++[o]))→K env'' own'') :
  runF P c55a (walkEnv s (.clo (.func f) [] caps) i t) (walkOwn s (.clo (.func f) [] caps) outs)
   (fun env'=>run P c55b env' (walkOwn s (.clo (.func f) [] caps) outs) K):=by
 have hg:(some [o]).bind (fun z=>(appG outs z).bind fun z=>some z)=some (outs++[o]):=by
  unfold appG;simp only[Option.bind_some,List.length_cons,List.length_nil];rw[if_pos (by omega)];rfl
 have hcl:closedL caps=true:=by rcases hcap with rfl | ⟨ds,rfl⟩<;>rfl
 generalize outs++[o]=outs1 at hg hK
 rw[← runFE_eq]
 simp only[← runE_eq]
 unfold c55a c55b walkEnv walkOwn
 cbv
 refine .f1 hf hcl rfl ?_
 cbv
 refine .f1 (digest_Chain_R hP _ _ _ hc) rfl rfl ?_
 cbv
 refine .g (e:=eS) hg (W_one rfl) fun zs h=>?_
 cbv
 refine .g (e:=eS) h rfl (fun _=>rfl) (by decide) fun zs1 h=>?_
 obtain rfl:=Option.some.inj h
 cbv
 refine hK _ _ (.mtE [0,1,2,4] ?_)
 rcases hcap with rfl | ⟨ds,rfl⟩
 all_goals cbv
 all_goals repeat (refine⟨by first | rfl | exact W_nil _ | simp only[W_nilx] | simp only[WM_nilx],?_⟩;cbv)
theorem starts_in (s:ByteArray)(w:World):Calls Tryz.prog 95 #[.string s] w fun e w'=>e=.returned (.func (.func 114) #[] #[.pointer (some ⟨w.heap.size,0,none⟩)])∧w'=w.alloc (.cells #[.string s] 9):=by
 go_enter Tryz.func95,Tryz.ntmps95
 go_wp2
 first | go_end0 | go_ret
 exact⟨rfl,rfl⟩
theorem walk_flat {s:ByteArray}{clo:SV}{outs:List ByteArray}:∀ x∈walkOwn s clo outs,x.flat=true:=by
 intro x hx
 simp only[walkOwn,List.mem_cons,List.not_mem_nil,or_false] at hx
 rcases hx with rfl | rfl | rfl | rfl<;>rfl
theorem walk_secret {c:Cx}{s:ByteArray}{clo:SV}{outs:List ByteArray}{W:World}{b:Nat}(h:Sat c (walkOwn s clo outs) W)(hb:c.θ 2=.pointer (some ⟨b,0,none⟩)):W.heap[b]?=some (.cells #[.string s] 9):=by
 obtain⟨b',us,hv,hw,hs,hc⟩:=h.res 2 _ rfl
 rw[hb] at hv
 injection hv with hv
 injection hv with hv
 injection hv with hv
 subst hv
 obtain⟨u,h1,h2,h3⟩:=hc 0 _ rfl
 obtain rfl:=h3.of_val
 rw[hw]
 have:us=#[.string s]:=by
  apply Array.ext
  ·simpa using hs
  ·intro i h4 h5
   have:i=0:=by simp at h5;omega
   subst this
   rw[Array.getElem?_eq_getElem h4] at h1
   simpa using h1
 rw[this]
theorem walkEnv_ok {c:Cx}{s t:ByteArray}{i:Int}{clo:SV}{u:Value}{b0 b1:Nat}{v9 v10 v11:Value}(hu:Rel c clo u)(hN:3≤c.N)(h0:c.θ 0=.pointer (some ⟨b0,0,none⟩))(h1:c.θ 1=.pointer (some ⟨b1,0,none⟩)) :
  EnvOk c (walkEnv s clo i t) { tmps:=#[.string s,u,undef,.pointer (some ⟨b0,0,none⟩),.slice none 0 0,.pointer (some ⟨b1,0,none⟩),.int .i64 i,.string t,.string s,v9,v10,v11,undef,undef,undef,undef,undef,undef,undef,undef,undef],defers:=[] }:=by
 refine⟨rfl,fun j sv v hj hv=>?_⟩
 have hvS:∀ t:ByteArray,Rel c (vS t) (.string t):=fun t=>.d (.val _ rfl)
 match j with
 | 0=>cases hj;cases hv;exact hvS _
 | 1=>cases hj;cases hv;exact hu
 | 2=>cases hj;cases hv;exact .top _
 | 3=>cases hj;cases hv;exact .ptr (by omega) h0
 | 4=>cases hj;cases hv;exact .top _
 | 5=>cases hj;cases hv;exact .ptr (by omega) h1
 | 6=>cases hj;cases hv;exact .d (.val _ rfl)
 | 7=>cases hj;cases hv;exact hvS _
 | 8 | 9 | 10 | 11 | 12 | 13 | 14 | 15 | 16 | 17 | 18 | 19 | 20=>cases hj;exact .top _
 | j+21=>cases hj
theorem walk_out {c:Cx}{s:ByteArray}{clo:SV}{outs:List ByteArray}{W:World}{b:Nat}(h:Sat c (walkOwn s clo outs) W)(hb:c.θ 1=.pointer (some ⟨b,0,none⟩)):W.cell? ⟨b,0,none⟩=some (c.θ 3):=by
 obtain⟨b',us,hv,hw,hs,hc⟩:=h.res 1 _ rfl
 rw[hb] at hv
 injection hv with hv
 injection hv with hv
 injection hv with hv
 subst hv
 obtain⟨u,h1,h2,h3⟩:=hc 0 _ rfl
 cases h3 with
 | hd _ h4=>rw[h4];exact cell_at hw h1
theorem fins_map (out:Nat→ByteArray):(fins 18).map (fun x=>out x.val)=(List.range 18).map out:=by
 unfold fins
 rw[List.take_of_length_le (by simp)]
 rfl
theorem sat_cells {c:Cx}{own:List Res}{w:World}(h:Sat c own w)(cs:List SV)(us:Array Value)(ty n:Nat)(hn:n=w.heap.size)(hl:us.size=cs.length)(hc:∀ (i:Nat) s,cs[i]?=some s→∃ u,us[i]?=some u∧u.oneCell'=true∧Rel c s u) :
  Sat (c.push (.pointer (some ⟨n,0,none⟩))) (own++[.cells cs ty]) (w.alloc (.cells us ty))∧c.le (c.push (.pointer (some ⟨n,0,none⟩)))∧Goes c own w (c.push (.pointer (some ⟨n,0,none⟩))) (own++[.cells cs ty]) (w.alloc (.cells us ty)):=by
 subst hn
 exact h.alloc _ _ _ rfl rfl ⟨_,us,rfl,heap_alloc_new _ _,hl,fun i s hi=>let ⟨u,h1,h2,h3⟩:=hc i s hi;⟨u,h1,h2,h3.mono (c.push_le _)⟩⟩
theorem walk_start {c:Cx}{w:World}{s:ByteArray}{clo:SV}{u:Value}(hS:Sat c [] w)(hu:Rel c clo u)(h1:clo.one=true) :
  let w3:=((w.alloc (.cells #[u] 51)).alloc (.cells #[.slice none 0 0] 29)).alloc (.cells #[.string s] 9)
  let c3:=((c.push (.pointer (some ⟨w.heap.size,0,none⟩))).push (.pointer (some ⟨w.heap.size+1,0,none⟩))).push (.pointer (some ⟨w.heap.size+2,0,none⟩))
  Sat (c3.push (.slice none 0 0)) (walkOwn s clo []) w3∧c3.le (c3.push (.slice none 0 0))∧Goes c [] w (c3.push (.slice none 0 0)) (walkOwn s clo []) w3:=by
 intro w3 c3
 obtain⟨a1,a2,a3⟩:=sat_cells hS [clo] #[u] 51 _ rfl rfl (fun i s hi=>by match i with | 0=>cases hi;exact⟨u,rfl,hu.one hS.one h1,hu⟩ | i+1=>cases hi)
 obtain⟨b1,b2,b3⟩:=sat_cells a1 [.d (.val (.slice none 0 0))] #[.slice none 0 0] 29 (w.heap.size+1) (by simp) rfl (fun i s hi=>by match i with | 0=>cases hi;exact⟨_,rfl,rfl,.d (.val _ rfl)⟩ | i+1=>cases hi)
 obtain⟨d1,d2,d3⟩:=sat_cells b1 [vS s] #[.string s] 9 (w.heap.size+2) (by simp) rfl (fun i s hi=>by match i with | 0=>cases hi;exact⟨_,rfl,rfl,.d (.val _ rfl)⟩ | i+1=>cases hi)
 have hN:c3.N=3:=by have:=hS.n;simp only[c3,Cx.push];simp at this;omega
 obtain⟨e1,e2,e3⟩:=d1.push (w':=w3) none _ rfl (fun s y hy=>.inr ⟨hy,fun _ b hb=>by cases hb⟩) (fun b hb=>by cases hb) rfl rfl rfl (Nat.le_refl _) (fun b _ _=>rfl) (.slice none 0 0) (.row 9 1 (W eS [])) rfl (fun b hb=>by cases hb) (by
  rw[W_eq]
  exact⟨fun ds hd=>(by cases hd),[],World.ownsRow_nil _ _ _ _,fun j d hj=>by simp at hj⟩)
 obtain⟨f1,f2⟩:=e1.update (r:=1) (b:=w.heap.size+1) (x':=.cells [.hd 3] 29) (w':=w3) rfl rfl rfl (by have:=hS.n;simp at this;simp[Cx.push,← this,blkOf]) rfl rfl rfl rfl (fun _ _=>rfl) (by
  obtain⟨b,us,h1,h2,h3,h4⟩:=e1.res 1 _ rfl
  refine⟨b,us,h1,h2,h3,fun i s hi=>?_⟩
  match i with
  | 0 =>
   cases hi
   obtain⟨u,h5,h6,h7⟩:=h4 0 _ rfl
   obtain rfl:=h7.of_val
   exact⟨_,h5,h6,.hd (by show 3<c3.N+1;omega) (by show (if 3=c3.N then _ else _)=_;rw[if_pos hN.symm])⟩
  | i+1=>cases hi)
 exact⟨f1,e2,((a3.trans b3).trans d3).trans (e3.trans f2)⟩
set_option maxRecDepth 100000 in
set_option maxHeartbeats 2000000 in
theorem walk_S (s:ByteArray)(st:Nat→ByteArray)(hst:StartsOk s st)(out:Nat→ByteArray)(dg:Nat→Int)(f:FuncId)(caps:List SV)(hcap:caps=[]∨∃ ds,caps=[.fp ds])
  (hf:∀ i:Nat,i<18→Fn1 Tryz.prog f (vIi64 i::caps) (vIi64 (dg i))) (hc:∀ i:Nat,i<18→digest_Chain_g (st i) (dg i)=some (out i)) :
  SCall Tryz.prog 55 [] [vS s,.clo (.func f) [] caps] (fun sv own'=>sv=.hd 3∧own'=walkOwn s (.clo (.func f) [] caps) ((List.range 18).map out)):=by
 refine⟨by kernel_rfl,fun c w us hS hr=>?_⟩
 obtain⟨u0,u1,rfl⟩:∃ u0 u1,us=[u0,u1]:=by
  have:=hr.1
  match us,this with
  | [a,b],_=>exact⟨a,b,rfl⟩
 have h0:=(hr.2 0 _ _ rfl rfl).of_val
 have h1:=hr.2 1 _ _ rfl rfl
 subst h0
 obtain⟨vs,rfl⟩:∃ vs,u1=.func (.func f) #[] vs:=by
  cases h1 with | clo hl h hl' h'=>exact⟨_,by rw[Array.eq_empty_of_size_eq_zero hl]⟩
 obtain⟨k1,k2,k3⟩:=walk_start (s:=s) hS h1 rfl
 refine callsIn_wide.1 (callsIn_of_wp_marks (n:=8) Tryz.func55 rfl trivial ?_ rfl)
 simp only[Tryz.ntmps55,List.size_toArray,List.length_cons,List.length_nil,Nat.reduceAdd,Nat.reduceSub,Array.replicate_succ,Array.replicate_zero,List.push_toArray,List.append_toArray,List.nil_append,List.cons_append]
 gi_wp2
 refine⟨trivial,(callsIn_wide.2 (starts_in s _)).mono ?_⟩
 rintro e w' ⟨rfl,rfl⟩
 simp only[World.size_alloc] at *
 obtain⟨w3,hw3⟩:∃ w3,((w.alloc (.cells #[.func (.func f) #[] vs] 51)).alloc (.cells #[.slice none 0 0] 29)).alloc (.cells #[.string s] 9)=w3:=⟨_,rfl⟩
 rw[hw3] at k1 k3 ⊢
 have hsz3:w3.heap.size=w.heap.size+3:=by rw[← hw3];simp
 have hbs:w3.heap[w.heap.size+2]?=some (.cells #[.string s] 9):=by rw[← hw3];have:=heap_alloc_new ((w.alloc (.cells #[.func (.func f) #[] vs] 51)).alloc (.cells #[.slice none 0 0] 29)) (.cells #[.string s] 9);simpa using this
 have hb3:Below w.heap.size w w3:=⟨k3.os,k3.tape,k3.output,k3.size,fun k hk=>k3.keep k hk own_nil⟩
 clear hw3
 gi_wp2
 have hm:Tryz.prog.follows .mixedOrders=true:=by kernel_rfl
 have hN0:c.N=0:=hS.n.symm
 obtain⟨c3,hc3⟩:∃ c3,((c.push (.pointer (some ⟨w.heap.size,0,none⟩))).push (.pointer (some ⟨w.heap.size+1,0,none⟩))).push (.pointer (some ⟨w.heap.size+2,0,none⟩))=c3:=⟨_,rfl⟩
 have hF3:c3.F=c.F:=by rw[← hc3];rfl
 have hN3:c3.N=3:=by rw[← hc3];simp[Cx.push,hN0]
 have ht0:c3.θ 0=.pointer (some ⟨w.heap.size,0,none⟩):=by rw[← hc3];simp[Cx.push,hN0]
 have ht1:c3.θ 1=.pointer (some ⟨w.heap.size+1,0,none⟩):=by rw[← hc3];simp[Cx.push,hN0]
 have ht2:c3.θ 2=.pointer (some ⟨w.heap.size+2,0,none⟩):=by rw[← hc3];simp[Cx.push,hN0]
 rw[hc3] at k1 k2 k3
 clear hc3
 refine wpIn_rangeFunc_ownG (F:=Fence.wide) (n:=8) (gf:=114) (lb:=#[.pointer (some ⟨w.heap.size+2,0,none⟩)]) rfl (by omega) rfl trivial (enters_of Tryz.func114 (by kernel_rfl) rfl)
  (starts_stops s st hst 7 (w.heap.size+2) w.heap.size (by omega) w3 w hS rfl hb3 hbs) (fun h k=>KpB.trans h k) (fun W l o o' hl h h1 h2=>KpB.put (w:=w3) (by omega) (by omega) W l o o' hl h h1 h2) (Below.refl _ _) (fun _=>rfl)
  (fun pre W=>Rd c w c3 (walkOwn s (.clo (.func f) [] caps) (pre.map fun x=>out x.val)) W) (fun _ _ _=>False)
  (Rd.own (by omega) _ fun l=>walk_flat) (fun _ _ _ _ _ h _ _=>h) ?_
  (fun x=>{ tmps:=#[.string s,.func (.func f) #[] vs,undef,.pointer (some ⟨w.heap.size,0,none⟩),.slice none 0 0,.pointer (some ⟨w.heap.size+1,0,none⟩),.int .i64 ((x.val:Nat):Int),.string (st x.val),.string s,.func (.func 114) #[] #[.pointer (some ⟨w.heap.size+2,0,none⟩)],.int .i64 ((x.val:Nat):Int),.string (st x.val),undef,undef,undef,undef,undef,undef,undef,undef,undef],defers:=[] })
  ?_ ?_ ?_ ?_
 ·exact .of hS (fun b o hb=>by rw[← hF3];exact hb) k2 k1 k3 walk_flat
 ·intro l x W K h
  gi_wp2
  exact h
 ·rintro l pre x W ⟨c1,r1,r2,r3,r4⟩ hlen
  have hle:∀ r,r<3→c1.θ r=c3.θ r:=fun r hr=>r2.t r (by omega)
  have hcl:Rel c1 (.clo (.func f) [] caps) (.func (.func f) #[] vs):=h1.mono ⟨by omega,fun r hr=>by omega,r4.f⟩
  refine wpIn_block (region_sfx_in (gs:=c55a) (gl:=c55b) l _ hm (by kernel_rfl) (by kernel_rfl) (by kernel_rfl) (walkEnv_ok (t:=st x.val) (i:=x.val) hcl (by have:=r2.n;omega) ((hle 0 (by omega)).trans ht0) ((hle 1 (by omega)).trans ht1)) r3 rfl 3 (by have:=r2.n;omega)
   (walk_round rfl s (st x.val) (out x.val) x.val (dg x.val) _ f caps hcap (by simp only[List.length_map];omega) (hf _ x.2) (hc _ x.2) (fun env'' own''=>StLe 3 env'' own'' (walkEnv s (.clo (.func f) [] caps) x.val (st x.val)) (walkOwn s (.clo (.func f) [] caps) ((pre++[x]).map fun x=>out x.val))) (fun _ _ h=>by rw[List.map_append];exact h)) ?_)
  rintro a' W' ⟨e1,c2,env2,own2,e2,e3,e4,e5,e6,e7⟩
  obtain⟨c4,m1,m2,m3,m4,m5⟩:=e7 c2 a' W' e5 e2 e3
  have hθ:∀ r,r<3→c4.θ r=c3.θ r:=fun r hr=>((m3 r hr).trans (e4 r hr)).trans (hle r hr)
  have hG:=e6.trans m5
  obtain⟨q1,q2⟩:=r4.rd (B:=w3.heap.size) r3 walk_flat hG
  refine⟨q1,⟨q2,?_⟩,.of hS (fun b o hb=>by rw[← hF3];exact hb) ⟨by omega,fun r hr=>hθ r (by omega),fun b o hb=>hG.f b o (r2.f b o hb)⟩ m2 (r4.trans hG) walk_flat⟩
  rw[walk_secret m2 ((hθ 2 (by omega)).trans ht2),walk_secret r3 ((hle 2 (by omega)).trans ht2)]
 ·intro D xs W hD hxs hI hK
  subst hxs
  obtain⟨c0,r1,r2,r3,r4⟩:=hI
  have hcell:=walk_out r3 ((r2.t 1 (by omega)).trans ht1)
  generalize hv:c0.θ 3=v at hcell
  have hone:=r3.one 3
  gi_wp2
  refine⟨by simp,.inl ⟨_,_,rfl,run_takeDeferred hK,?_⟩⟩
  refine⟨_,results_tmp rfl _ _ _,?_⟩
  obtain⟨q1,q2⟩:=rd_grow (W':=W.putObj D (.deferred none)) (row:=some D) r1 r3 r4 walk_flat (grownBy_putObj' W D _) (fun r e=>by cases e;exact⟨by omega,_,hK,rfl⟩)
  rw[fins_map] at q1 q2
  exact⟨c0,_,_,_,rfl,.hd (by have:=q1.n;simp only[walkOwn,List.length_cons,List.length_nil] at this;omega) hv,q1,⟨by omega,fun r hr=>by omega,q2.f⟩,q2,rfl,rfl⟩
 ·intro D c' pre W _ _ h
  exact h.elim
def allG {α:Type}(f:Nat→Option α):Nat→Option (List α)
 | 0=>some []
 | n+1=>(allG f n).bind fun l=>(f n).bind fun x=>some (l++[x])
theorem allG_some {α:Type}{f:Nat→Option α}:∀ {n:Nat}{l:List α},allG f n=some l→l.length=n∧∀ i,i<n→f i=l[i]?
 | 0,l,h=>by cases h;exact⟨rfl,fun i hi=>absurd hi (Nat.not_lt_zero i)⟩
 | n+1,l,h=>by
  unfold allG at h
  obtain⟨l0,h1,h2⟩:=Option.bind_eq_some_iff.1 h
  obtain⟨x,h3,h4⟩:=Option.bind_eq_some_iff.1 h2
  cases h4
  obtain⟨k1,k2⟩:=allG_some h1
  refine⟨by simp[k1],fun i hi=>?_⟩
  by_cases hl:i<n
  ·rw[k2 i hl,List.getElem?_append_left (by omega)]
  ·obtain rfl:i=n:=by omega
   rw[h3,List.getElem?_append_right (by omega),k1]
   simp
theorem list_map_range {l:List ByteArray}{n:Nat}(h:l.length=n):(List.range n).map (fun i=>l[i]?.getD default)=l:=by
 apply List.ext_getElem?
 intro i
 rw[List.getElem?_map]
 by_cases hi:i<n
 ·rw[List.getElem?_range hi,List.getElem?_eq_getElem (by omega)]
  simp[List.getElem?_eq_getElem (show i<l.length by omega)]
 ·rw[List.getElem?_eq_none (by simp;omega),List.getElem?_eq_none (by omega)];rfl
noncomputable def walk_g (s:ByteArray)(dg:Nat→Int):Option (List ByteArray):=allG (fun i=>(digest_List_g [s,⟨(Lib.itoa (i:Int)).toArray⟩]).bind fun t=>digest_Chain_g t (dg i)) 18
theorem walk_R {P:Program}(hP:P=Tryz.prog)(s:ByteArray)(dg:Nat→Int)(l:List ByteArray)(h:walk_g s dg=some l)(f:FuncId)(caps:List SV)(hcap:caps=[]∨∃ ds,caps=[.fp ds])
  (hf:∀ i:Nat,i<18→Fn1 P f (vIi64 i::caps) (vIi64 (dg i))):Fn1 P 55 [vS s,.clo (.func f) [] caps] (.d (.sl (W eS l))):=by
 subst hP
 obtain⟨h1,h2⟩:=allG_some h
 have h3:∀ i:Nat,i<18→∃ t,digest_List_g [s,⟨(Lib.itoa (i:Int)).toArray⟩]=some t∧digest_Chain_g t (dg i)=some (l[i]?.getD default):=fun i hi=>by
  have h4:=h2 i hi
  rw[List.getElem?_eq_getElem (by omega)] at h4
  obtain⟨t,h5,h6⟩:=Option.bind_eq_some_iff.1 h4
  exact⟨t,h5,by rw[h6,List.getElem?_eq_getElem (by omega)];rfl⟩
 have hS:=walk_S s (fun i=>(digest_List_g [s,⟨(Lib.itoa (i:Int)).toArray⟩]).getD default) (fun i hi=>by
  obtain⟨t,h5,_⟩:=h3 i hi
  have h6:=h5
  unfold digest_List_g at h6
  split at h6
  ·rename_i hok;exact⟨t,hok,by dsimp only;rw[h5];rfl,h6⟩
  ·cases h6) (fun i=>l[i]?.getD default) dg f caps hcap hf (fun i hi=>by obtain⟨t,h5,h6⟩:=h3 i hi;rw[h5];exact h6)
 rw[list_map_range h1] at hS
 refine SCall.data hS fun sv own' hq=>?_
 obtain⟨rfl,rfl⟩:=hq
 rfl
theorem closed_of {P:Program}{f:FuncId}{args:List SV}{s:SV}(h:Fn1 P f args s)(ha:closedL args=true)(hs:s.closed=true):SCall P f [] args (fun sv own'=>sv=s∧own'=[]):=h.fn ha hs
noncomputable def sign_walk56_g (s:ByteArray):Option (List ByteArray):=walk_g s fun _=>15
theorem sign_walk56_R {P:Program}(hP:P=Tryz.prog)(s:ByteArray)(l:List ByteArray)(h:sign_walk56_g s=some l):SCall P 55 [] [vS s,.clo (.func 56) [] []] (fun sv own'=>sv=.d (.sl (W eS l))∧own'=[]) :=
 closed_of (walk_R hP s _ l h 56 [] (.inl rfl) fun i _=>sign_Public_c1_R hP i 15 rfl) rfl rfl
def c69r0 : List GOp:=[
 ⟨(some 3),.mv (.const (.int .i64 0)),none⟩]
def c69r1 : List GOp:=[
 ⟨(some 4),.mv (.tmp 0),none⟩,
 ⟨(some 5),.idxP 18 1 (.tmp 1) (.tmp 4),none⟩,
 ⟨(some 6),.load 1 false (.tmp 5),none⟩,
 ⟨(some 3),.mv (.tmp 6),none⟩]
def c69 : EFn:=⟨7,.seq (.reg c69r0) (.seq (.reg c69r1) (.ret)),[.tmp 3]⟩
theorem c69_ok : compF Tryz.prog 69=some c69.er:=by kernel_rfl
set_option maxHeartbeats 4000000 in
theorem sign_Sign_c1_R {P:Program}(hP:P=Tryz.prog)(d:A18 Int)(i:Nat)(hi:i<18):Fn1 P 69 [vIi64 i,.fp (eA18Ii64 d)] (vIi64 (d.get i)):=by
 refine .walkE (hP▸c69_ok) fun K hK=>?_
 cbv
 refine⟨Int.natCast_nonneg i,Int.ofNat_lt.2 hi,?_⟩
 match i,hi with
 | 0,_ | 1,_ | 2,_ | 3,_ | 4,_ | 5,_ | 6,_ | 7,_ | 8,_ | 9,_ | 10,_ | 11,_ | 12,_ | 13,_ | 14,_ | 15,_ | 16,_ | 17,_=>cbv;exact hK _ _ rfl
 | i+18,hi=>omega
noncomputable def sign_walk69_g (s:ByteArray)(d:A18 Int):Option (List ByteArray):=walk_g s fun i=>d.get i
theorem sign_walk69_R {P:Program}(hP:P=Tryz.prog)(s:ByteArray)(d:A18 Int)(l:List ByteArray)(h:sign_walk69_g s d=some l):SCall P 55 [] [vS s,.clo (.func 69) [] [.fp (eA18Ii64 d)]] (fun sv own'=>sv=.d (.sl (W eS l))∧own'=[]) :=
 closed_of (walk_R hP s _ l h 69 _ (.inr ⟨_,rfl⟩) fun i hi=>sign_Sign_c1_R hP d i hi) rfl rfl
end Go.SX.Rg
set_option linter.unusedVariables false
namespace Go.SX.Rg
open Go Go.SX Go.Proofs Go.RowKit Go.Sort Go.Shelf Go.Maps
def keysOk (m:List (Int×Entry)):Bool:=decide (m.length≤1000000)&&m.all fun p=>decide (-9223372036854775808≤p.1)&&decide (p.1≤9223372036854775807)
def sortI (l:List Int):List Int:=l.mergeSort fun x y=>decide (x≤y)
theorem wSortI : Nonempty { f:List Int→List Int // f=sortI }:=⟨⟨_,rfl⟩⟩
noncomputable def sortZ : List Int→List Int:=(Classical.choice wSortI).1
theorem sortZ_eq : sortZ=sortI:=(Classical.choice wSortI).2
noncomputable def sortedKeys_g (m:List (Int×Entry)):Option (List Int):=bif keysOk m then some (sortZ (m.map (·.1))) else none
theorem sortsA (m:Nat):AnyZI.SortsIn Tryz.prog Tryz.sortedA_ren Fence.wide m :=
 ⟨fun blk off cap ss W hH hblk hsz=>callsIn_wide.2 (Tryz.slices_Sort_int blk off cap ss W hH hblk hsz),
  fun p cap W=>callsIn_wide.2 (Tryz.slices_Sort_int_none p cap W)⟩
theorem insert_perm {x:Lit×DataW Unit}:∀ l,(DataW.insert x l).Perm (x::l)
 | []=>.refl _
 | y::r=>by
  unfold DataW.insert
  split
  ·exact .refl _
  ·exact((insert_perm r).cons y).trans (.swap x y r)
theorem foldr_insert_perm : ∀ l:List (Lit×DataW Unit),(l.foldr DataW.insert []).Perm l
 | []=>.refl _
 | x::l=>(insert_perm _).trans ((foldr_insert_perm l).cons x)
def rAny : Value→Option (DataW Unit×List MemPlace):=fun _=>some (.nil,[])
theorem owns_of {c:Cx}{w:World}{v:Value}{m:List (Int×Entry)}(h:ResOk c w v (.mp (.int .i64) true (WM (.int .i64) eEntry m)))(hk:keysOk m=true) :
  ∃ b D0,v=.map (some b)∧w.ownsMap Tryz.prog 3 rAny b m.length D0∧(intKeys D0).Perm (m.map (·.1))∧Maps.size D0=m.length:=by
 obtain⟨b,ms,clock,rfl,⟨hb,hst⟩,hsz,hc⟩:=h
 have hlen:(WM (Value.int .i64) eEntry m).length=m.length:=by rw[WM_eq,List.length_map]
 rw[hlen] at hsz
 simp only[keysOk,Bool.and_eq_true,decide_eq_true_eq,List.all_eq_true] at hk
 have hkey:∀ i (hi:i<m.length),∃ x,ms[i]?=some x∧x.key=.int .i64 (m[i].1):=fun i hi=>by
  have h1:(WM (Value.int .i64) eEntry m)[i]?=some (.int .i64 (m[i].1),eEntry (m[i].2)):=by rw[WM_eq,List.getElem?_map,List.getElem?_eq_getElem hi];rfl
  obtain⟨_,x,h2,h3,_⟩:=hc i _ _ h1
  exact⟨x,h2,h3⟩
 have hrd:∀ i (hi:i<m.length) x,ms[i]?=some x→WideElems.rd Tryz.prog 3 rAny x=some (.int .i64 (m[i].1),.nil):=fun i hi x hx=>by
  obtain⟨x',h1,h2⟩:=hkey i hi
  rw[hx] at h1;cases h1
  have hw:(Lit.int .i64 (m[i].1)).wf=true:=by
   have:=hk.2 _ (List.getElem_mem hi)
   simp only[Lit.wf,Bool.and_eq_true,decide_eq_true_eq]
   exact this
  have h3:keyOf Tryz.prog 3 x.key=some (.int .i64 (m[i].1)):=by
   have h4:Tryz.prog.underlying 3=some (.int .i64):=Tryz.underlying3
   rw[h2]
   simp[keyOf,h4,mapKey,hw]
  simp[WideElems.rd,h3,rAny]
 have hmap:ms.toList.map (WideElems.rg Tryz.prog 3 rAny)=m.map fun p=>(.int .i64 p.1,.nil):=by
  apply List.ext_getElem?
  intro i
  rw[List.getElem?_map,List.getElem?_map]
  by_cases hi:i<m.length
  ·obtain⟨x,h1,_⟩:=hkey i hi
   rw[Array.getElem?_toList,h1,List.getElem?_eq_getElem hi]
   simp[WideElems.rg,hrd i hi x h1]
  ·rw[List.getElem?_eq_none (by simp;omega),List.getElem?_eq_none (by omega)];rfl
 refine⟨b,_,rfl,⟨ms,clock,hb,⟨by rw[hsz];unfold maxLen;omega,hst,fun x hx=>?_⟩,by omega,rfl⟩,?_,?_⟩
 ·obtain⟨i,hi⟩:=List.mem_iff_getElem?.1 hx
  have hlt:i<m.length:=by have:=(List.getElem?_eq_some_iff.1 hi).1;simp at this;omega
  rw[Array.getElem?_toList] at hi
  exact⟨_,hrd i hlt x hi⟩
 ·rw[hmap]
  unfold intKeys
  refine((foldr_insert_perm _).map _).trans ?_
  rw[List.map_map]
  exact .refl _
 ·unfold Maps.size
  simp only
  rw[(foldr_insert_perm _).length_eq,List.length_map]
  simpa using hsz
theorem flat_int : ∀ z:List Int,(z.map eIi64).flatten=z.map fun x=>D.val (.int .i64 x)
 | []=>rfl
 | x::l=>by simp only[List.map_cons,List.flatten_cons,flat_int l];rfl
noncomputable def keyOwn (m:List (Int×Entry)):List Res:=[.mp (.int .i64) true (WM (.int .i64) eEntry m),.cells [.hd 0] 71]
theorem sortedKeys_O {P:Program}(hP:P=Tryz.prog)(m:List (Int×Entry))(l:List Int)(h:sortedKeys_g m=some l) :
  SCall P 51 (keyOwn m) [.clo (.func 91) [] [.ptr 1 0]] (fun sv own'=>sv=.hd 2∧own'=keyOwn m++[.row 3 1 (W eIi64 l)]):=by
 subst hP
 unfold sortedKeys_g at h
 cases hk:keysOk m with
 | false=>rw[hk] at h;cases h
 | true =>
  rw[hk] at h
  obtain rfl:=Option.some.inj h
  refine⟨by kernel_rfl,fun c w us hS hr=>?_⟩
  obtain⟨u,rfl⟩:∃ u,us=[u]:=by
   have:=hr.1
   match us,this with
   | [a],_=>exact⟨a,rfl⟩
  have hu:=hr.2 0 _ _ rfl rfl
  obtain⟨fs,caps,rfl,hfs,hcaps⟩:=Rel.clo_iff.1 hu
  obtain rfl:fs=[]:=List.eq_nil_of_length_eq_zero hfs.1
  obtain⟨u1,rfl⟩:∃ u1,caps=[u1]:=by
   have:=hcaps.1
   match caps,this with
   | [a],_=>exact⟨a,rfl⟩
  have hu1:=hcaps.2 0 _ _ rfl rfl
  obtain⟨b,D0,hv0,hown,hperm,hsize⟩:=owns_of (hS.res 0 _ rfl) hk
  obtain⟨bc,cs,hv1,hb1,hs1,hc1⟩:=hS.res 1 _ rfl
  have hu1':u1=.pointer (some ⟨bc,0,none⟩):=by
   cases hu1 with
   | ptr hr h=>rw[hv1] at h;injection h with h;injection h with h;rw[h]
  subst hu1'
  have hcell:w.cell? ⟨bc,0,none⟩=some (.map (some b)):=by
   obtain⟨x,h1,h2,h3⟩:=hc1 0 _ rfl
   cases h3 with
   | hd _ h4 =>
    rw[hv0] at h4
    subst h4
    simp only[World.cell?,hb1,Option.isSome_none,Bool.false_eq_true,if_false]
    exact h1
  have hm1:m.length≤1000000:=by simp only[keysOk,Bool.and_eq_true,decide_eq_true_eq] at hk;exact hk.1
  have hseq:SeqGives Fence.wide 2 Tryz.prog 91 #[.pointer (some ⟨bc,0,none⟩)] encZ (fun ss=>ss.Perm (intKeys D0)) (Maps.size D0) w :=
   AnyZI.keys_gives (ρ:=Tryz.keysA_ren) { Tryz.keysA with } Fence.wide _ trivial rfl (by omega) bc b m.length D0 _ (Array.getElem?_eq_some_iff.1 hb1).1 hcell hown
  have cS:=AnyZI.sorted_in Tryz.sortedA Fence.wide 5 trivial trivial trivial trivial rfl (by omega) (sortsA _) (enters_of Tryz.func90 (by kernel_rfl) rfl) 91 #[.pointer (some ⟨bc,0,none⟩)] trivial (enters_of Tryz.func91 (by kernel_rfl) rfl) _ _ (by rw[hsize];unfold maxLen;omega) (by rw[hsize];omega) _ hseq
  refine(callsIn_wide.1 cS).mono ?_
  rintro e w' ⟨v,ss,rfl,hss,hrow,_,hbel⟩
  have hsort:ss.mergeSort (fun x y=>decide (x≤y))=sortZ (m.map (·.1)):=by rw[sortZ_eq];exact mergeSort_of_perm_i (hss.trans hperm)
  have hlen:ss.length=(sortZ (m.map (·.1))).length:=by rw[← hsort,List.length_mergeSort]
  rw[hsort,hlen] at hrow
  generalize hz:sortZ (m.map (·.1))=z at hrow
  have hone:v.oneCell'=true:=by rcases hrow.2 with ⟨rfl,_⟩ | ⟨g,cap,cur,rfl,_⟩<;>rfl
  have hfresh:∀ b,blkOf v=some b→w.heap.size≤b∨none=some b:=fun b hb=>by
   rcases hrow.2 with ⟨rfl,_⟩ | ⟨g,cap,cur,rfl,hg,_⟩
   ·cases hb
   ·cases hb;exact .inl hg
  have hres:ResOk (c.push v) w' v (.row 3 1 (W eIi64 z)):=by
   refine⟨fun ds hd=>?_,z.map encZ,?_,fun j d hj=>?_⟩
   ·rw[W_eq] at hd;obtain⟨x,_,rfl⟩:=List.mem_map.1 hd;rfl
   ·rw[W_len]
    refine⟨hrow.1,hrow.2.imp id ?_⟩
    rintro ⟨g,cap,cur,h1,h2,h3⟩
    exact⟨g,cap,cur,h1,Nat.zero_le _,h3⟩
   ·have hfl:(W eIi64 z).flatten=z.map fun x=>D.val (.int .i64 x):=by
     rw[W_eq]
     exact flat_int z
    rw[hfl,List.getElem?_map] at hj
    obtain⟨x,h1,rfl⟩:=Option.map_eq_some_iff.1 hj
    exact⟨_,by rw[List.getElem?_map,h1];rfl,.val _ rfl⟩
  obtain⟨e1,e2,e3⟩:=hS.push (w':=w') none _ rfl (fun s y hy=>.inr ⟨hy,fun _ b hb=>by cases hb⟩) (fun b hb=>by cases hb) hbel.os hbel.tape hbel.output hbel.size (fun b hb _=>hbel.block b hb) v (.row 3 1 (W eIi64 z)) hone hfresh hres
  exact⟨_,_,_,_,rfl,.hd (r:=c.N) (by simp[Cx.push]) (by simp[Cx.push]),e1,e2,e3,by rw[← hS.n];rfl,rfl⟩
end Go.SX.Rg
