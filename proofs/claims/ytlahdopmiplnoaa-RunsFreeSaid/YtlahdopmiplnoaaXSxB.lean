/-
  The executor's operations, how they come of the model's, and what the pure ones compute.
-/
import Derived.Test.YtlahdopmiplnoaaXSxA
namespace Go.SX
open Go

def geti : List SV → Nat → SV
  | [], _ => .top
  | v :: _, 0 => v
  | _ :: l, n + 1 => geti l n
def seti : List SV → Nat → SV → List SV
  | [], _, _ => []
  | _ :: l, 0, v => v :: l
  | a :: l, n + 1, v => a :: seti l n v
def getr : List Res → Nat → Res
  | [], _ => .gone
  | v :: _, 0 => v
  | _ :: l, n + 1 => getr l n
def setr : List Res → Nat → Res → List Res
  | [], _, _ => []
  | _ :: l, 0, v => v :: l
  | a :: l, n + 1, v => a :: setr l n v

theorem geti_eq (l : List SV) (n : Nat) : geti l n = (l[n]?).getD .top := by
  induction l generalizing n with
  | nil => simp [geti]
  | cons a l ih => cases n with
    | zero => simp [geti]
    | succ n => simp [geti, ih]
theorem seti_eq (l : List SV) (n : Nat) (v : SV) : seti l n v = l.set n v := by
  induction l generalizing n with
  | nil => simp [seti]
  | cons a l ih => cases n with
    | zero => simp [seti]
    | succ n => simp [seti, ih]
theorem getr_eq (l : List Res) (n : Nat) : getr l n = (l[n]?).getD .gone := by
  induction l generalizing n with
  | nil => simp [getr]
  | cons a l ih => cases n with
    | zero => simp [getr]
    | succ n => simp [getr, ih]
theorem setr_eq (l : List Res) (n : Nat) (v : Res) : setr l n v = l.set n v := by
  induction l generalizing n with
  | nil => simp [setr]
  | cons a l ih => cases n with
    | zero => simp [setr]
    | succ n => simp [setr, ih]

def cval : Value → SV
  | .agg cs => .agg (cs.toList.map fun c => if c.oneCell' then .d (.val c) else .top)
  | .tuple cs => if cs.size = 0 then .tup [] else .top
  | v => .d (.val v)

def ev (env : List SV) : Operand → SV
  | .tmp t => geti env t
  | .const v => cval v
  | .func f => .clo (.func f) [] []
  | .global _ => .top

structure EnvOk (c : Cx) (env : List SV) (a : Act) : Prop where
  size : a.tmps.size = env.length
  rel : ∀ (i : Nat) s u, env[i]? = some s → a.tmps[i]? = some u → Rel c s u

theorem cval_rel (c : Cx) (v : Value) : Rel c (cval v) v := by
  cases v with
  | agg cs =>
    refine .agg (by simp) fun i s u hs hu => ?_
    simp at hs
    obtain ⟨x, hx, hs⟩ := hs
    rw [hx] at hu; cases hu
    split at hs
    · subst hs; exact .d (.val _ (by assumption))
    · subst hs; exact .top _
  | tuple cs =>
    simp only [cval]
    split
    · rename_i h; refine .tup (by simpa using h) fun i s u hs hu => by simp at hs
    · exact .top _
  | _ => exact .d (.val _ rfl)

theorem ev_rel {c : Cx} {env : List SV} {a : Act} (h : EnvOk c env a) (x : Operand) : Rel c (ev env x) (a.eval x) := by
  cases x with
  | tmp t =>
    show Rel c (geti env t) (a.tmps.getD t undef)
    rw [geti_eq]
    cases ht : env[t]? with
    | none => exact .top _
    | some s =>
      have hlt : t < env.length := (List.getElem?_eq_some_iff.1 ht).1
      have hl2 : t < a.tmps.size := by rw [h.size]; exact hlt
      have : a.tmps[t]? = some (a.tmps.getD t undef) := by simp [Array.getD, hl2]
      exact h.rel t s _ ht this
  | const v => exact cval_rel c v
  | func f => exact .clo (by simp) (fun i s u hs => by simp at hs) (by simp) (fun i s u hs => by simp at hs)
  | global g => exact .top _

theorem evs_rel {c : Cx} {env : List SV} {a : Act} (h : EnvOk c env a) (xs : List Operand) : RelL c (xs.map (ev env)) (xs.map a.eval) :=
  ⟨by simp, fun i s u hs hu => by
    simp at hs hu
    obtain ⟨x, hx, rfl⟩ := hs
    obtain ⟨y, hy, rfl⟩ := hu
    rw [hx] at hy; cases hy
    exact ev_rel h x⟩

theorem rels_map {c : Cx} {e : Operand → SV} {a : Act} (h : ∀ x, Rel c (e x) (a.eval x)) (xs : List Operand) : RelL c (xs.map e) (xs.map a.eval) :=
  ⟨by simp, fun i s u hs hu => by
    simp at hs hu
    obtain ⟨x, hx, rfl⟩ := hs
    obtain ⟨y, hy, rfl⟩ := hu
    rw [hx] at hy; cases hy
    exact h x⟩

/-- A handle whose row was frozen is data. -/
def nrm (own : List Res) : SV → SV
  | .hd r => (match getr own r with | .fz es => .d (.sl es) | _ => .hd r)
  | .ptr r k => (match getr own r with | .fzc ds => .fp (ds.drop k) | _ => .ptr r k)
  | s => s

def evn (own : List Res) (env : List SV) (x : Operand) : SV := nrm own (ev env x)

theorem nrm_rel {c : Cx} {own : List Res} {w : World} (hS : Sat c own w) {s : SV} {u : Value} (h : Rel c s u) : Rel c (nrm own s) u := by
  unfold nrm
  split
  · rename_i r
    split
    · rename_i es hg
      rw [getr_eq] at hg
      cases hx : own[r]? with
      | none => simp [hx] at hg
      | some y =>
        simp [hx] at hg
        subst hg
        have := hS.res r _ hx
        cases h with | hd hr hv => rw [← hv]; exact .d this
    · exact h
  · rename_i r k
    split
    · rename_i ds hg
      rw [getr_eq] at hg
      cases hx : own[r]? with
      | none => simp [hx] at hg
      | some y =>
        simp [hx] at hg
        subst hg
        have := hS.res r _ hx
        cases h with
        | ptr hr hv =>
          rw [hv] at this
          cases this with
          | fp hF hh =>
            refine .fp hF fun j d hj => ?_
            rw [List.getElem?_drop] at hj
            obtain ⟨u, h1, h2⟩ := hh (k + j) d hj
            exact ⟨u, by rw [← h1]; simp, h2⟩
    · exact h
  · exact h

theorem EnvOk.put {c : Cx} {env : List SV} {a : Act} (h : EnvOk c env a) {d : Nat} {s : SV} {u : Value} (hr : Rel c s u) : EnvOk c (seti env d s) (a.put (some d) u) := by
  rw [seti_eq]
  refine ⟨by simp [Act.put, h.size], fun i t v hi hv => ?_⟩
  simp only [Act.put] at hv
  rw [Array.getElem?_setIfInBounds] at hv
  rw [List.getElem?_set] at hi
  by_cases hd : d = i
  · subst hd
    simp only [if_true] at hi hv
    split at hi <;> simp at hi
    split at hv <;> simp at hv
    subst hi; subst hv; exact hr
  · rw [if_neg hd] at hi hv
    exact h.rel i t v hi hv

/-- A destination that may be missing. -/
def putE (env : List SV) : Option Nat → SV → List SV
  | some d, s => seti env d s
  | none, _ => env

theorem EnvOk.putE {c : Cx} {env : List SV} {a : Act} (h : EnvOk c env a) {d : Option Nat} {s : SV} {u : Value} (hr : Rel c s u) : EnvOk c (putE env d s) (a.put d u) := by
  cases d with
  | none => exact h
  | some d => exact h.put hr

theorem EnvOk.mono {c c' : Cx} (hle : c.le c') {env : List SV} {a : Act} (h : EnvOk c env a) : EnvOk c' env a := ⟨h.size, fun i s u h1 h2 => (h.rel i s u h1 h2).mono hle⟩

/-- Operations. -/
inductive DOp where
  | mv (x : Operand)
  | pick (c a b : Operand)
  | bin (op : BinOp) (x y : Operand)
  | div (op : BinOp) (x y : Operand)
  | beq (neg : Bool) (x y : Operand)
  | un (op : UnOp) (x : Operand)
  | cvi (k : IntKind) (x : Operand)
  | fadd (off : Nat) (x : Operand)
  | fld (off sz : Nat) (agg : Bool) (x : Operand)
  | load (sz : Nat) (agg : Bool) (x : Operand)
  | store (sz : Nat) (x v : Operand)
  | alloc (ty : TypeId) (z : Value)
  | box (ty : TypeId) (x : Operand)
  | build (z : Value) (parts : List ((Nat × Nat) × Operand))
  | bslice (ty sz n : Nat) (z : Value) (parts : List (Nat × Operand))
  | idxA (sz : Nat) (x i : Operand)
  | idxP (len sz : Nat) (x i : Operand)
  | slc (sz : Nat) (x : Operand) (lo hi : Option Operand)
  | slcS (x : Operand) (lo hi : Option Operand)
  | len (str : Bool) (x : Operand)
  | app (ty sz bytes : Nat) (z : Value) (x y : Operand)
  | call (f : FuncId) (args : List Operand)
  | callv (x : Operand) (args : List Operand)
  | mkfn (fn : Fn) (first cap : List Operand)
  | mks (ty sz bytes : Nat) (z : Value) (l c : Operand)
  | ext (x : Operand) (i : Nat)
  | mm (mx : Bool) (x : Operand) (xs : List Operand)
  | nilck (x : Operand)
  | clr (sz : Nat) (z : Value) (x : Operand)
  | mkm (mk : MK) (agg : Bool)
  | mset (mk : MK) (agg : Bool) (x k v : Operand)
  | mget (mk : MK) (agg ok : Bool) (z : Value) (x k : Operand)
deriving Inhabited

def isAggB : TypeDesc → Bool
  | .struct _ | .array _ _ => true
  | _ => false

def sizeB (P : Program) (t : TypeId) : Option Nat := (P.info? t).map (·.size)
def zeroB (P : Program) (t : TypeId) : Option Value := (P.info? t).bind (·.zero)

def partsB (P : Program) (fs : Array Field) : List (Nat × Operand) → Option (List ((Nat × Nat) × Operand))
  | [] => some []
  | (i, x) :: l => do
    let f ← fs[i]?
    let s ← sizeB P f.type
    let r ← partsB P fs l
    some (((f.offset, s), x) :: r)

def mkOf : Option TypeDesc → Option MK
  | some (.int q) => some (.int q)
  | some .string => some .str
  | some .bool => some .bool
  | _ => none

/-- From the model's operation to ours; none: not served. -/
def compOp (P : Program) (o : Op) : Option DOp :=
  match o with
  | .move x | .assign x => some (.mv x)
  | .pick c a b => some (.pick c a b)
  | .binOp op t x y _ =>
    match P.underlying t with
    | some .bool => (match op with | .eql => some (.beq false x y) | .neq => some (.beq true x y) | _ => none)
    | some (.int _) => (match op with | .quo | .rem => some (.div op x y) | _ => some (.bin op x y))
    | some .string => some (.bin op x y)
    | _ => none
  | .unOp op _ x => some (.un op x)
  | .convert src dst x =>
    match P.underlying src, P.underlying dst with
    | some (.int _), some (.int k) => some (.cvi k x)
    | _, _ => none
  | .fieldAddr t x f =>
    match P.underlying t with
    | some (.struct fs) => do
      let fd ← fs[f]?
      let s ← sizeB P fd.type
      if s = 0 then none else some (.fadd fd.offset x)
    | _ => none
  | .field t x f =>
    match P.underlying t with
    | some (.struct fs) => do
      let fd ← fs[f]?
      let s ← sizeB P fd.type
      let d ← P.underlying fd.type
      some (.fld fd.offset s (isAggB d) x)
    | _ => none
  | .load t x => do
    let s ← sizeB P t
    let d ← P.underlying t
    some (.load s (isAggB d) x)
  | .store t x v => do
    let s ← sizeB P t
    some (.store s x v)
  | .alloc t => do
    let z ← zeroB P t
    some (.alloc t z)
  | .box t x => some (.box t x)
  | .build t ps =>
    match P.underlying t with
    | some (.struct fs) => do
      let z ← zeroB P t
      let l ← partsB P fs ps.toList
      if fs.toList.all (fun f => (sizeB P f.type).isSome) then some (.build z l) else none
    | some (.array _ e) => do
      let z ← zeroB P t
      let s ← sizeB P e
      some (.build z (ps.toList.map fun p => ((p.1 * s, s), p.2)))
    | _ => none
  | .buildSlice t n ps =>
    match P.underlying t with
    | some (.slice e) => do
      let s ← sizeB P e
      let z ← zeroB P e
      if s = 0 then none else some (.bslice e s n z ps.toList)
    | _ => none
  | .indexAddr t x i =>
    match P.underlying t with
    | some (.slice e) => do
      let s ← sizeB P e
      some (.idxA s x i)
    | some (.array n e) => do
      let s ← sizeB P e
      some (.idxP n s x i)
    | _ => none
  | .slice t x lo hi none =>
    match P.underlying t with
    | some (.slice e) => do
      let s ← sizeB P e
      some (.slc s x lo hi)
    | some .string => some (.slcS x lo hi)
    | _ => none
  | .makeFunc fn fs cs => some (.mkfn fn fs.toList cs.toList)
  | .makeSlice t l c =>
    match P.underlying t with
    | some (.slice e) => do
      let i ← P.info? e
      let z ← i.zero
      some (.mks e i.size i.bytes z l c)
    | _ => none
  | .extract x i => some (.ext x i)
  | .makeMap t none =>
    match P.underlying t with
    | some (.map k e) => do
      let mk ← mkOf (P.underlying k)
      let d ← P.underlying e
      some (.mkm mk (isAggB d))
    | _ => none
  | .mapUpdate t m k v =>
    match P.underlying t with
    | some (.map kt e) => do
      let mk ← mkOf (P.underlying kt)
      let d ← P.underlying e
      some (.mset mk (isAggB d) m k v)
    | _ => none
  | .lookup t m k ok =>
    match P.underlying t with
    | some (.map kt e) => do
      let mk ← mkOf (P.underlying kt)
      let d ← P.underlying e
      let z ← zeroB P e
      some (.mget mk (isAggB d) ok z m k)
    | _ => none
  | .nilCheck x => some (.nilck x)
  | .call { callee := .value (.func f), args, .. } => some (.call f args.toList)
  | .call { callee := .value x, args, .. } => some (.callv x args.toList)
  | .call { callee := .builtin .len, args, argTypes } =>
    match argTypes.toList, args.toList with
    | [t], [x] => (match P.underlying t with | some (.slice _) => some (.len false x) | some .string => some (.len true x) | _ => none)
    | _, _ => none
  | .call { callee := .builtin .max, args, .. } => (match args.toList with | x :: xs => some (.mm true x xs) | [] => none)
  | .call { callee := .builtin .min, args, .. } => (match args.toList with | x :: xs => some (.mm false x xs) | [] => none)
  | .call { callee := .builtin .append, args, argTypes } =>
    match argTypes.toList, args.toList with
    | [t, u], [x, y] =>
      match P.underlying t with
      | some (.slice e) => do
        let i ← P.info? e
        let z ← i.zero
        if t = u ∧ z.cells.size = i.size ∧ 0 < i.size then some (.app e i.size i.bytes z x y) else none
      | _ => none
    | _, _ => none
  | .call { callee := .builtin .clear, args, argTypes } =>
    match argTypes.toList, args.toList with
    | [t], [x] =>
      match P.underlying t with
      | some (.slice e) => do
        let z ← zeroB P e
        some (.clr z.cells.size z x)
      | _ => none
    | _, _ => none
  | _ => none

def sbin (op : BinOp) : SV → SV → Option SV
  | .d (.val (.int k a)), .d (.val (.int k' b)) =>
    match op with
    | .shl => if b < 0 then none else some (.d (.val (.int k (k.wrap (a * 2 ^ min b.toNat k.bits)))))
    | .shr => if b < 0 then none else some (.d (.val (.int k (a.fdiv (2 ^ min b.toNat k.bits)))))
    | op =>
      if k ≠ k' then none else
      match op with
      | .add => some (.d (.val (.int k (k.wrap (a + b)))))
      | .sub => some (.d (.val (.int k (k.wrap (a - b)))))
      | .mul => some (.d (.val (.int k (k.wrap (a * b)))))
      | .and => some (.d (.val (.int k (k.wrap (BitVec.ofInt k.bits a &&& BitVec.ofInt k.bits b).toNat))))
      | .or => some (.d (.val (.int k (k.wrap (BitVec.ofInt k.bits a ||| BitVec.ofInt k.bits b).toNat))))
      | .xor => some (.d (.val (.int k (k.wrap (BitVec.ofInt k.bits a ^^^ BitVec.ofInt k.bits b).toNat))))
      | .andNot => some (.d (.val (.int k (k.wrap (BitVec.ofInt k.bits a &&& ~~~BitVec.ofInt k.bits b).toNat))))
      | .eql => some (.d (.val (.bool (decide (a = b)))))
      | .neq => some (.d (.val (.bool (!decide (a = b)))))
      | .lss => some (.d (.val (.bool (decide (a < b)))))
      | .leq => some (.d (.val (.bool (decide (a ≤ b)))))
      | .gtr => some (.d (.val (.bool (decide (b < a)))))
      | .geq => some (.d (.val (.bool (decide (b ≤ a)))))
      | _ => none
  | .d (.val (.string a)), .d (.val (.string b)) =>
    match op with
    | .eql => some (.d (.val (.bool (a.toList == b.toList))))
    | .neq => some (.d (.val (.bool (!(a.toList == b.toList)))))
    | .lss => some (.d (.val (.bool (Op.bytesLess a.toList b.toList))))
    | .leq => some (.d (.val (.bool (Op.bytesLess a.toList b.toList || a.toList == b.toList))))
    | .gtr => some (.d (.val (.bool (!(Op.bytesLess a.toList b.toList || a.toList == b.toList)))))
    | .geq => some (.d (.val (.bool (!Op.bytesLess a.toList b.toList))))
    | _ => none
  | _, _ => none

def sbeq (neg : Bool) : SV → SV → Option SV
  | .d (.val (.bool a)), .d (.val (.bool b)) => some (.d (.val (.bool (neg ^^ (a == b)))))
  | _, _ => none

def sun (op : UnOp) : SV → Option SV
  | .d (.val (.bool b)) => (match op with | .not => some (.d (.val (.bool (!b)))) | _ => none)
  | .d (.val (.int k a)) => (match op with | .neg => some (.d (.val (.int k (k.wrap (0 - a))))) | _ => none)
  | _ => none

def spick : SV → SV → SV → Option SV
  | .d (.val (.bool c)), .d (.val (.bool x)), .d (.val (.bool y)) => some (.d (.val (.bool (cond c x y))))
  | .d (.val (.bool c)), a, b => some (cond c a b)
  | _, _, _ => none

def sfadd (off : Nat) : SV → Option SV
  | .ptr r k => some (.ptr r (k + off))
  | .fp ds => some (.fp (ds.drop off))
  | .rp r sz i j => some (.rp r sz i (j + off))
  | _ => none

def sfld (off sz : Nat) (agg : Bool) : SV → Option SV
  | .agg cs => if agg then some (.agg ((cs.drop off).take sz)) else cs[off]?
  | _ => none

/-- A list cut to a length that it has. -/
def takeN {α : Type} : Nat → List α → Option (List α)
  | 0, _ => some []
  | _ + 1, [] => none
  | n + 1, a :: l => match takeN n l with | some r => some (a :: r) | none => none

theorem takeN_eq {α : Type} (n : Nat) (l r : List α) : takeN n l = some r → r = l.take n ∧ r.length = n := by
  induction n generalizing l r with
  | zero => intro h; simp [takeN] at h; subst h; simp
  | succ n ih =>
    intro h
    cases l with
    | nil => simp [takeN] at h
    | cons a l =>
      simp only [takeN] at h
      cases hh : takeN n l with
      | none => simp [hh] at h
      | some r' =>
        simp [hh] at h; subst h
        obtain ⟨h1, h2⟩ := ih l r' hh
        subst h1; simp at h2 ⊢; exact h2

def sload (own : List Res) (sz : Nat) (agg : Bool) : SV → Option SV
  | .ptr r k =>
    match getr own r with
    | .cells cs _ => if agg then (match takeN sz (cs.drop k) with | some l => some (.agg l) | none => none) else cs[k]?
    | _ => none
  | .fp ds => if agg then (match takeN sz ds with | some l => some (.agg (l.map .d)) | none => none) else (match ds with | d :: _ => some (.d d) | [] => none)
  | _ => none

def slen (own : List Res) (str : Bool) : SV → Option SV
  | .d (.sl es) => if str then none else some (.d (.val (.int .i64 es.length)))
  | .d (.val (.slice _ n _)) => if str then none else some (.d (.val (.int .i64 n)))
  | .d (.val (.string s)) => if str then some (.d (.val (.int .i64 s.size))) else none
  | .hd r => if str then none else match getr own r with
    | .row _ _ es => some (.d (.val (.int .i64 es.length)))
    | _ => none
  | .rs r _ i => if str then none else match getr own r with
    | .row _ _ es => some (.d (.val (.int .i64 ((es.length - i : Nat) : Int))))
    | _ => none
  | _ => none

def sext (i : Nat) : SV → Option SV
  | .tup cs => cs[i]?
  | _ => none

def snil : SV → Option SV
  | .ptr r k => some (.ptr r k)
  | .fp ds => some (.fp ds)
  | .rp r sz i j => some (.rp r sz i j)
  | .clo (.func f) a b => some (.clo (.func f) a b)
  | _ => none

def smm (mx : Bool) : SV → List SV → Option SV
  | v, [] => (match v with | .d (.val (.int k a)) => some (.d (.val (.int k a))) | _ => none)
  | .d (.val (.int k a)), .d (.val (.int _ b)) :: l => smm mx (.d (.val (.int k (if mx then max a b else min a b)))) l
  | _, _ => none

def scvi (k : IntKind) : SV → Option SV
  | .d (.val (.int _ n)) => some (.d (.val (.int k (k.wrap n))))
  | _ => none

def SV.cells : SV → List SV
  | .agg cs => cs
  | s => [s]

def splice {α : Type} (off : Nat) (vs l : List α) : List α := l.take off ++ vs ++ l.drop (off + vs.length)

def SV.flat : SV → Bool
  | .tup _ | .top => false
  | _ => true

def sfill (cells : List SV) : List ((Nat × Nat) × SV) → Option (List SV)
  | [] => some cells
  | ((off, sz), s) :: rest => if s.flat = true ∧ s.cells.length = sz ∧ off + sz ≤ cells.length then sfill (splice off s.cells cells) rest else none

def sbuild (z : SV) (ps : List ((Nat × Nat) × SV)) : Option SV :=
  match sfill z.cells ps with
  | some cs => some (.agg cs)
  | none => none

/-- What a pure operation computes. -/
def pureOp (own : List Res) (e : Operand → SV) : DOp → Option SV
  | .mv x => some (e x)
  | .pick c a b => spick (e c) (e a) (e b)
  | .bin op x y => sbin op (e x) (e y)
  | .beq n x y => sbeq n (e x) (e y)
  | .un op x => sun op (e x)
  | .cvi k x => scvi k (e x)
  | .fadd off x => sfadd off (e x)
  | .fld off sz agg x => sfld off sz agg (e x)
  | .load sz agg x => sload own sz agg (e x)
  | .len s x => slen own s (e x)
  | .ext x i => sext i (e x)
  | .mkfn fn fs cs => some (.clo fn (fs.map e) (cs.map e))
  | .mm mx x xs => smm mx (e x) (xs.map e)
  | .nilck x => snil (e x)
  | .build z ps => sbuild (cval z) (ps.map fun p => (p.1, e p.2))
  | _ => none

end Go.SX
