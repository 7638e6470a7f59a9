/-
  The executor: what is owed at each operation; a region is walked in the order of its text.
-/
import Derived.Test.YtlahdopmiplnoaaXSxE
namespace Go.SX
open Go

def okFn (P : Program) (f : FuncId) : Bool :=
  match P.funcs[f]? with
  | some fn => fn.name != "runtime.NumGoroutine" && fn.body.isSome
  | none => false

/-- A call, by what the caller owns, hands in and gets back. -/
def SCall (P : Program) (f : FuncId) (own : List Res) (args : List SV) (K : SV → List Res → Prop) : Prop :=
  okFn P f = true ∧ ∀ (c : Cx) (w : World) (us : List Value), Sat c own w → RelL c args us →
    Calls P f us.toArray w fun e w' => ∃ c' own' sv u, e = .returned u ∧ Rel c' sv u ∧ Sat c' own' w' ∧ c.le c' ∧ Goes c own w c' own' w' ∧ K sv own'

theorem SCall.mono {P : Program} {f : FuncId} {own : List Res} {args : List SV} {K K' : SV → List Res → Prop} (h : SCall P f own args K) (hK : ∀ sv own', K sv own' → K' sv own') : SCall P f own args K' :=
  ⟨h.1, fun c w us hS hR => (h.2 c w us hS hR).mono fun _ _ ⟨c', own', sv, u, h1, h2, h3, h4, h5, h6⟩ => ⟨c', own', sv, u, h1, h2, h3, h4, h5, hK _ _ h6⟩⟩

/-- Rows that are handed on are data from then on. -/
def frzC (own : List Res) : SV → List Res
  | .hd r => (match getr own r with | .row _ _ es => setr own r (.fz es) | _ => own)
  | _ => own
def frzCs (own : List Res) : List SV → List Res
  | [] => own
  | s :: l => frzCs (frzC own s) l
def frzS (own : List Res) : SV → List Res
  | .agg cs => frzCs own cs
  | s => frzC own s
def frzL (own : List Res) : List SV → List Res
  | [] => own
  | s :: l => frzL (frzS own s) l

def toD (own : List Res) : SV → Option D
  | .d d => some d
  | .hd r => (match getr own r with | .fz es => some (.sl es) | _ => none)
  | _ => none
def toDs (own : List Res) : List SV → Option (List D)
  | [] => some []
  | s :: l => (match toD own s, toDs own l with | some d, some r => some (d :: r) | _, _ => none)

def PureN : Option SV → (SV → Prop) → Prop
  | some sv, K => K sv
  | none, _ => False

def IdxN (own : List Res) (sz : Nat) (x i : SV) (K : SV → Prop) : Prop :=
  match x, i with
  | .d (.sl es), .d (.val (.int _ n)) => 0 ≤ n ∧ n < es.length ∧ ∀ ds, es[n.toNat]? = some ds → ds.length = sz ∧ K (.fp ds)
  | .hd r, .d (.val (.int _ n)) => (match getr own r with | .row _ s es => s = sz ∧ 0 ≤ n ∧ n < es.length ∧ K (.rp r s n.toNat 0) | _ => False)
  | .rs r s i, .d (.val (.int _ n)) => (match getr own r with | .row _ s' es => s = sz ∧ s' = sz ∧ 0 ≤ n ∧ i + n < es.length ∧ K (.rp r s' (i + n.toNat) 0) | _ => False)
  | _, _ => False

def IdxPN (len sz : Nat) (x i : SV) (K : SV → Prop) : Prop :=
  match x, i with
  | .ptr r k, .d (.val (.int _ n)) => 0 ≤ n ∧ n < len ∧ K (.ptr r (k + n.toNat * sz))
  | .fp ds, .d (.val (.int _ n)) => 0 ≤ n ∧ n < len ∧ K (.fp (ds.drop (n.toNat * sz)))
  | _, _ => False

def LoadN (own : List Res) (sz : Nat) (agg : Bool) (x : SV) (K : SV → Prop) : Prop :=
  match x with
  | .rp r s i j => (match getr own r with
    | .row _ s' es => s = s' ∧ i < es.length ∧ ∀ ds, es[i]? = some ds → PureN (sload own sz agg (.fp (ds.drop j))) K
    | _ => False)
  | x => PureN (sload own sz agg x) K

def DivN (op : BinOp) (x y : SV) (K : SV → Prop) : Prop :=
  match x, y with
  | .d (.val (.int k a)), .d (.val (.int k' b)) => k = k' ∧ b ≠ 0 ∧ K (.d (.val (.int k (match op with | .quo => k.wrap (a.tdiv b) | _ => a.tmod b))))
  | _, _ => False

def StoreN (own : List Res) (sz : Nat) (x v : SV) (K : List Res → Prop) : Prop :=
  match x with
  | .ptr r k => (match getr own r with
    | .cells cs ty => v.flat = true ∧ v.cells.length = sz ∧ v.cells.all SV.one = true ∧ k + sz ≤ cs.length ∧ K (setr own r (.cells (splice k v.cells cs) ty))
    | _ => False)
  | .rp r s i j => (match getr own r with
    | .row ty s' es => s = s' ∧ v.flat = true ∧ v.cells.length = sz ∧ j + sz ≤ s ∧ i < es.length ∧ ∃ ds', toDs own v.cells = some ds' ∧ ∀ ds, es[i]? = some ds → K (setr own r (.row ty s (es.set i (splice j ds' ds))))
    | _ => False)
  | _ => False

def BoxN (own : List Res) (ty : TypeId) (s : SV) (K : SV → List Res → Prop) : Prop :=
  s.flat = true ∧ s.cells.all SV.one = true ∧ K (.ptr own.length 0) (own ++ [.cells s.cells ty])

def bsl (own : List Res) (sz : Nat) : Nat → List (Nat × SV) → Option (List (List D))
  | _, [] => some []
  | k, (i, s) :: l =>
    if i = k ∧ s.flat = true ∧ s.cells.length = sz then
      match toDs own s.cells, bsl own sz (k + 1) l with
      | some ds, some r => some (ds :: r)
      | _, _ => none
    else none

def BsliceN (own : List Res) (ty sz n : Nat) (es : Option (List (List D))) (K : SV → List Res → Prop) : Prop :=
  match es with
  | some es => es.length = n ∧ n * sz ≤ 16777216 ∧ K (.hd own.length) (own ++ [.row ty sz es])
  | none => False

/-- What a slice holds, as a source. -/
def src (own : List Res) : SV → Option (List (List D))
  | .d (.sl es) => some es
  | .d (.val (.slice none 0 0)) => some []
  | .hd r => (match getr own r with | .row _ _ es => some es | _ => none)
  | _ => none

def AppN (own : List Res) (ty sz bytes : Nat) (x : SV) (ys : Option (List (List D))) (K : SV → List Res → Prop) : Prop :=
  match ys with
  | none => False
  | some ys =>
    match x with
    | .d (.val (.slice none 0 0)) => (∀ ds ∈ ys, ds.length = sz) ∧ ys.length * bytes ≤ 140737488355328 ∧ ys.length ≤ maxLen ∧ K (.hd own.length) (own ++ [.row ty sz ys])
    | .hd r => (match getr own r with
      | .row ty' sz' xs => ty' = ty ∧ sz' = sz ∧ (∀ ds ∈ ys, ds.length = sz) ∧ (xs.length + ys.length) * bytes ≤ 140737488355328 ∧ xs.length + ys.length ≤ maxLen ∧
          K (.hd own.length) (setr own r .gone ++ [.row ty sz (xs ++ ys)])
      | _ => False)
    | _ => False

def bnd (dflt : Int) : Option SV → Option Int
  | none => some dflt
  | some (.d (.val (.int _ n))) => some n
  | some _ => none

def SlcN (sz : Nat) (x : SV) (lo hi : Option SV) (K : SV → Prop) : Prop :=
  match x with
  | .d (.sl es) => (match bnd 0 lo, bnd es.length hi with
    | some l, some h => 0 ≤ l ∧ l ≤ h ∧ h ≤ es.length ∧ (∀ ds ∈ es, ds.length = sz) ∧ K (.d (.sl ((es.take h.toNat).drop l.toNat)))
    | _, _ => False)
  | _ => False

def SlcSN (x : SV) (lo hi : Option SV) (K : SV → Prop) : Prop :=
  match x with
  | .d (.val (.string s)) => (match bnd 0 lo, bnd s.size hi with
    | some l, some h => 0 ≤ l ∧ l ≤ h ∧ h ≤ s.size ∧ K (.d (.val (.string (s.extract l.toNat h.toNat))))
    | _, _ => False)
  | _ => False

def MksN (own : List Res) (ty sz bytes : Nat) (zs : Option (List D)) (l k : SV) (K : SV → List Res → Prop) : Prop :=
  match zs, l, k with
  | some zs, .d (.val (.int .i64 n)), .d (.val (.int .i64 m)) => zs.length = sz ∧ 0 ≤ n ∧ n = m ∧ n.toNat * bytes ≤ 140737488355328 ∧ n ≤ maxLen ∧ K (.hd own.length) (own ++ [.row ty sz (List.replicate n.toNat zs)])
  | _, _, _ => False

def Ons (c : Cx) (own : List Res) (w : World) (own' : List Res) : Prop := ∃ c', Sat c' own' w ∧ c.le c' ∧ Goes c own w c' own' w
/-- What is owned may be looked at anew ahead of a call. -/
def OwnLe (own own1 : List Res) : Prop := ∀ (c : Cx) (w : World), Sat c own w → Ons c own w own1
def ArgLe (own1 : List Res) (args args1 : List SV) : Prop := ∀ (c : Cx) (w : World) (us : List Value), Sat c own1 w → RelL c args us → RelL c args1 us
def CallN (P : Program) (f : FuncId) (own : List Res) (args : List SV) (K : SV → List Res → Prop) : Prop :=
  ∃ own1 args1, OwnLe own own1 ∧ ArgLe own1 args args1 ∧ SCall P f own1 args1 K

def CallVN (P : Program) (x : SV) (own : List Res) (args : List SV) (K : SV → List Res → Prop) : Prop :=
  match x with
  | .clo (.func f) first cap => CallN P f own (first ++ args ++ cap) K
  | _ => False

/-- A slice of a row that stays the caller's own: its head, or what lies behind an element. -/
def SlcRN (own : List Res) (sz : Nat) (x : SV) (lo hi : Option SV) (K : SV → List Res → Prop) : Prop :=
  match x with
  | .hd r => (match getr own r with
    | .row ty s es => (match lo, hi with
      | none, some (.d (.val (.int _ h))) => 0 ≤ h ∧ h ≤ es.length ∧ K (.hd own.length) (setr own r .gone ++ [.row ty s (es.take h.toNat)])
      | some (.d (.val (.int _ l))), none => s = sz ∧ 0 ≤ l ∧ l ≤ es.length ∧ K (.rs r s l.toNat) own
      | _, _ => False)
    | _ => False)
  | _ => False

/-- A slice of a row is set to zero. -/
def ClrN (own : List Res) (sz : Nat) (zs : Option (List D)) (x : SV) (K : List Res → Prop) : Prop :=
  match x with
  | .rs r s i => (match getr own r, zs with
    | .row ty s' es, some zs => s = sz ∧ s' = sz ∧ i ≤ es.length ∧ zs.length = sz ∧ K (setr own r (.row ty s' (es.take i ++ List.replicate (es.length - i) zs)))
    | _, _ => False)
  | _ => False

def keyEq : Value → Value → Bool
  | .int k a, .int k' b => decide (k = k') && decide (a = b)
  | .string a, .string b => decide (a.data = b.data)
  | .bool a, .bool b => a == b
  | _, _ => false
def mget : List (Value × List D) → Value → Option (List D)
  | [], _ => none
  | (k, d) :: l, x => if keyEq x k then some d else mget l x
def mput : List (Value × List D) → Value → List D → List (Value × List D)
  | [], x, d => [(x, d)]
  | (k, d') :: l, x, d => if keyEq x k then (x, d) :: l else (k, d') :: mput l x d
def SV.isAgg : SV → Bool
  | .agg _ => true
  | _ => false
/-- What a map's value is read as. -/
def dsv (agg : Bool) (ds : List D) : SV :=
  match agg, ds with
  | true, ds => .agg (ds.map .d)
  | false, [d] => .d d
  | false, _ => .top
def mres (ok : Bool) (s : SV) (b : Bool) : SV := match ok with | true => .tup [s, .d (.val (.bool b))] | false => s

def MkmN (own : List Res) (mk : MK) (agg : Bool) (K : SV → List Res → Prop) : Prop := K (.hd own.length) (own ++ [.mp mk agg []])
def MsetN (own : List Res) (mk : MK) (agg : Bool) (x k v : SV) (K : List Res → Prop) : Prop :=
  match x, k with
  | .hd r, .d (.val kv) => (match getr own r with
    | .mp mk' agg' es => mk' = mk ∧ agg' = agg ∧ mk.ok kv = true ∧ v.flat = true ∧ v.isAgg = agg ∧ ∃ ds, toDs own v.cells = some ds ∧ K (setr own r (.mp mk agg (mput es kv ds)))
    | _ => False)
  | _, _ => False
def MgetN (own : List Res) (mk : MK) (agg ok : Bool) (z x k : SV) (K : SV → Prop) : Prop :=
  match k with
  | .d (.val kv) => (match x with
    | .hd r => (match getr own r with
      | .mp mk' agg' es => mk' = mk ∧ agg' = agg ∧ mk.ok kv = true ∧ (∀ ds, mget es kv = some ds → K (mres ok (dsv agg ds) true)) ∧ (mget es kv = none → K (mres ok z false))
      | _ => False)
    | .d (.val (.map none)) => mk.ok kv = true ∧ K (mres ok z false)
    | _ => False)
  | _ => False

/-- What is owed at one operation. -/
def opN (P : Program) (d : DOp) (env : List SV) (own : List Res) (K : SV → List Res → Prop) : Prop :=
  match d with
  | .mv x => K (evn own env x) own
  | .pick c a b => PureN (spick (evn own env c) (evn own env a) (evn own env b)) (fun sv => K sv own)
  | .bin op x y => PureN (sbin op (evn own env x) (evn own env y)) (fun sv => K sv own)
  | .beq n x y => PureN (sbeq n (evn own env x) (evn own env y)) (fun sv => K sv own)
  | .un op x => PureN (sun op (evn own env x)) (fun sv => K sv own)
  | .cvi k x => PureN (scvi k (evn own env x)) (fun sv => K sv own)
  | .fadd off x => PureN (sfadd off (evn own env x)) (fun sv => K sv own)
  | .fld off sz agg x => PureN (sfld off sz agg (evn own env x)) (fun sv => K sv own)
  | .len s x => PureN (slen own s (evn own env x)) (fun sv => K sv own)
  | .ext x i => PureN (sext i (evn own env x)) (fun sv => K sv own)
  | .mkfn fn fs cs => K (.clo fn (fs.map (evn own env)) (cs.map (evn own env))) own
  | .mm mx x xs => PureN (smm mx (evn own env x) (xs.map (evn own env))) (fun sv => K sv own)
  | .nilck x => PureN (snil (evn own env x)) (fun sv => K sv own)
  | .build z ps => PureN (sbuild (cval z) (ps.map fun p => (p.1, evn own env p.2))) (fun sv => K sv own)
  | .load sz agg x => LoadN own sz agg (evn own env x) (fun sv => K sv own)
  | .div op x y => DivN op (evn own env x) (evn own env y) (fun sv => K sv own)
  | .idxA sz x i => IdxN own sz (evn own env x) (evn own env i) (fun sv => K sv own)
  | .idxP n sz x i => IdxPN n sz (evn own env x) (evn own env i) (fun sv => K sv own)
  | .store sz x v => StoreN (frzS own (evn own env v)) sz (evn own env x) (evn (frzS own (evn own env v)) env v) (fun own' => K (.tup []) own')
  | .alloc ty z => BoxN own ty (cval z) K
  | .box ty x => BoxN own ty (evn own env x) K
  | .bslice ty sz n _ ps => BsliceN (frzL own (ps.map fun p => evn own env p.2)) ty sz n (bsl (frzL own (ps.map fun p => evn own env p.2)) sz 0 (ps.map fun p => (p.1, evn own env p.2))) K
  | .app ty sz bytes _ x y => AppN own ty sz bytes (evn own env x) (src own (evn own env y)) K
  | .slc sz x lo hi => SlcN sz (evn (frzS own (evn own env x)) env x) (lo.map (evn own env)) (hi.map (evn own env)) (fun sv => K sv (frzS own (evn own env x))) ∨ SlcRN own sz (evn own env x) (lo.map (evn own env)) (hi.map (evn own env)) K
  | .slcS x lo hi => SlcSN (evn own env x) (lo.map (evn own env)) (hi.map (evn own env)) (fun sv => K sv own)
  | .mks ty sz bytes z l k => MksN own ty sz bytes (toDs own (cval z).cells) (evn own env l) (evn own env k) K
  | .call f args => CallN P f own (args.map (evn own env)) K
  | .callv x args => CallVN P (evn own env x) own (args.map (evn own env)) K
  | .clr sz z x => ClrN own sz (toDs own (cval z).cells) (evn own env x) (fun own' => K (.tup []) own')
  | .mkm mk agg => MkmN own mk agg K
  | .mset mk agg x k v => MsetN (frzS own (evn own env v)) mk agg (evn own env x) (evn own env k) (evn (frzS own (evn own env v)) env v) (fun own' => K (.tup []) own')
  | .mget mk agg ok z x k => MgetN own mk agg ok (cval z) (evn own env x) (evn own env k) (fun sv => K sv own)

structure GOp where
  dst : Option Nat
  op : DOp
  guard : Option (Nat × Bool)
deriving Inhabited

def GuardN (g : Option (Nat × Bool)) (env : List SV) (A B : List SV → Prop) : Prop :=
  match g with
  | none => A env
  | some (s, want) =>
    match geti env s with
    | .d (.val (.bool b)) => (b = want → A (seti env s (.d (.val (.bool want))))) ∧ (b = !want → B (seti env s (.d (.val (.bool !want)))))
    | .tup [] => B env
    | _ => False

def run (P : Program) : List GOp → List SV → List Res → (List SV → List Res → Prop) → Prop
  | [], env, own, K => K env own
  | g :: l, env, own, K =>
    GuardN g.guard env (fun env => opN P g.op env own (fun sv own' => run P l (putE env g.dst sv) own' K)) (fun env => run P l (putE env g.dst (.tup [])) own K)

def compGOp (P : Program) (ops : Array Oper) (o : Oper) : Option GOp :=
  match compOp P o.op, o.guard with
  | some d, none => some ⟨o.dst, d, none⟩
  | some d, some (j, want) => (match (ops[j]?).bind (·.dst) with | some s => some ⟨o.dst, d, some (s, want)⟩ | none => none)
  | none, _ => none

def compOps (P : Program) (ops : Array Oper) : List Oper → Option (List GOp)
  | [] => some []
  | o :: l => (match compGOp P ops o, compOps P ops l with | some g, some r => some (g :: r) | _, _ => none)

end Go.SX
