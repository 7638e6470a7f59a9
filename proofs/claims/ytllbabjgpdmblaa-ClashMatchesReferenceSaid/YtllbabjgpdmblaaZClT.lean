/- Parts of the proof. -/
import Derived.Test.YtllbabjgpdmblaaZSyT
import Derived.Test.YtllbabjgpdmblaaProg
set_option linter.unusedSimpArgs false
set_option linter.unusedVariables false
namespace Go.SX.Cl
open Go Go.SX Go.Proofs
set_option maxRecDepth 100000
abbrev oi (x : Int) : SV := .d (.val (.int .i64 x))
abbrev iv (x : Int) : D := .val (.int .i64 x)
abbrev oz : Value := .int .i64 0
abbrev gw (n k : Nat) (b : Bool) (o : DOp) : GOp := ⟨some n, o, some (k, b)⟩
abbrev ob (x : Bool) : SV := .d (.val (.bool x))
abbrev gv (n : Nat) (o : DOp) : GOp := ⟨some n, o, none⟩
theorem oj {α : Type} {a b : α} (h : some a = some b) : a = b := Option.some.inj h
abbrev rp {α : Type} (n : Nat) (a : α) : List α := List.replicate n a
theorem an_ {α : Sort _} {a b : α} (h : a = b := by first | rfl | exact W_nil _ | simp only [W_nilx] | simp only [WM_nilx]) : a = b := h
theorem aw_ {α : Sort _} {a b : α} (h : a = b := by first | rfl | exact W_nil _ | (cbv; simp only [W_nilx])) : a = b := h
structure A10 (α : Type) where
 a0 : α
 a1 : α
 a2 : α
 a3 : α
 a4 : α
 a5 : α
 a6 : α
 a7 : α
 a8 : α
 a9 : α
deriving DecidableEq, Inhabited
def A10.get {α : Type} (x : A10 α) (i : Nat) : α := match i with
 | 0 => x.a0
 | 1 => x.a1
 | 2 => x.a2
 | 3 => x.a3
 | 4 => x.a4
 | 5 => x.a5
 | 6 => x.a6
 | 7 => x.a7
 | 8 => x.a8
 | 9 => x.a9
 | _ => x.a0
def A10.put {α : Type} (x : A10 α) (i : Nat) (v : α) : A10 α := match i with
 | 0 => { x with a0 := v }
 | 1 => { x with a1 := v }
 | 2 => { x with a2 := v }
 | 3 => { x with a3 := v }
 | 4 => { x with a4 := v }
 | 5 => { x with a5 := v }
 | 6 => { x with a6 := v }
 | 7 => { x with a7 := v }
 | 8 => { x with a8 := v }
 | 9 => { x with a9 := v }
 | _ => x
noncomputable def eIi64 : Int → List D := fun x => [.val (.int .i64 x)]
noncomputable def vIi64 : Int → SV := fun x => .d (.val (.int .i64 x))
structure Range where
 Lo : Int
 Hi : Int
deriving DecidableEq, Inhabited
noncomputable def eRange : Range → List D := fun x => [.val (.int .i64 x.Lo), .val (.int .i64 x.Hi)]
noncomputable def vRange : Range → SV := fun x => .agg [.d (.val (.int .i64 x.Lo)), .d (.val (.int .i64 x.Hi))]
@[reducible] noncomputable def qRange (x y : Range) : Bool := io.and (io.eq x.Lo y.Lo) (io.eq x.Hi y.Hi)
noncomputable def eA10Range : (A10 Range) → List D := fun x => [.val (.int .i64 x.a0.Lo), .val (.int .i64 x.a0.Hi), .val (.int .i64 x.a1.Lo), .val (.int .i64 x.a1.Hi), .val (.int .i64 x.a2.Lo), .val (.int .i64 x.a2.Hi), .val (.int .i64 x.a3.Lo), .val (.int .i64 x.a3.Hi), .val (.int .i64 x.a4.Lo), .val (.int .i64 x.a4.Hi), .val (.int .i64 x.a5.Lo), .val (.int .i64 x.a5.Hi), .val (.int .i64 x.a6.Lo), .val (.int .i64 x.a6.Hi), .val (.int .i64 x.a7.Lo), .val (.int .i64 x.a7.Hi), .val (.int .i64 x.a8.Lo), .val (.int .i64 x.a8.Hi), .val (.int .i64 x.a9.Lo), .val (.int .i64 x.a9.Hi)]
noncomputable def vA10Range : (A10 Range) → SV := fun x => .agg [.d (.val (.int .i64 x.a0.Lo)), .d (.val (.int .i64 x.a0.Hi)), .d (.val (.int .i64 x.a1.Lo)), .d (.val (.int .i64 x.a1.Hi)), .d (.val (.int .i64 x.a2.Lo)), .d (.val (.int .i64 x.a2.Hi)), .d (.val (.int .i64 x.a3.Lo)), .d (.val (.int .i64 x.a3.Hi)), .d (.val (.int .i64 x.a4.Lo)), .d (.val (.int .i64 x.a4.Hi)), .d (.val (.int .i64 x.a5.Lo)), .d (.val (.int .i64 x.a5.Hi)), .d (.val (.int .i64 x.a6.Lo)), .d (.val (.int .i64 x.a6.Hi)), .d (.val (.int .i64 x.a7.Lo)), .d (.val (.int .i64 x.a7.Hi)), .d (.val (.int .i64 x.a8.Lo)), .d (.val (.int .i64 x.a8.Hi)), .d (.val (.int .i64 x.a9.Lo)), .d (.val (.int .i64 x.a9.Hi))]
@[reducible] noncomputable def qA10Range (x y : (A10 Range)) : Bool := io.and (io.eq x.a0.Lo y.a0.Lo) (io.and (io.eq x.a0.Hi y.a0.Hi) (io.and (io.eq x.a1.Lo y.a1.Lo) (io.and (io.eq x.a1.Hi y.a1.Hi) (io.and (io.eq x.a2.Lo y.a2.Lo) (io.and (io.eq x.a2.Hi y.a2.Hi) (io.and (io.eq x.a3.Lo y.a3.Lo) (io.and (io.eq x.a3.Hi y.a3.Hi) (io.and (io.eq x.a4.Lo y.a4.Lo) (io.and (io.eq x.a4.Hi y.a4.Hi) (io.and (io.eq x.a5.Lo y.a5.Lo) (io.and (io.eq x.a5.Hi y.a5.Hi) (io.and (io.eq x.a6.Lo y.a6.Lo) (io.and (io.eq x.a6.Hi y.a6.Hi) (io.and (io.eq x.a7.Lo y.a7.Lo) (io.and (io.eq x.a7.Hi y.a7.Hi) (io.and (io.eq x.a8.Lo y.a8.Lo) (io.and (io.eq x.a8.Hi y.a8.Hi) (io.and (io.eq x.a9.Lo y.a9.Lo) (io.eq x.a9.Hi y.a9.Hi)))))))))))))))))))
noncomputable def eA10Ii64 : (A10 Int) → List D := fun x => [.val (.int .i64 x.a0), .val (.int .i64 x.a1), .val (.int .i64 x.a2), .val (.int .i64 x.a3), .val (.int .i64 x.a4), .val (.int .i64 x.a5), .val (.int .i64 x.a6), .val (.int .i64 x.a7), .val (.int .i64 x.a8), .val (.int .i64 x.a9)]
noncomputable def vA10Ii64 : (A10 Int) → SV := fun x => .agg [.d (.val (.int .i64 x.a0)), .d (.val (.int .i64 x.a1)), .d (.val (.int .i64 x.a2)), .d (.val (.int .i64 x.a3)), .d (.val (.int .i64 x.a4)), .d (.val (.int .i64 x.a5)), .d (.val (.int .i64 x.a6)), .d (.val (.int .i64 x.a7)), .d (.val (.int .i64 x.a8)), .d (.val (.int .i64 x.a9))]
@[reducible] noncomputable def qA10Ii64 (x y : (A10 Int)) : Bool := io.and (io.eq x.a0 y.a0) (io.and (io.eq x.a1 y.a1) (io.and (io.eq x.a2 y.a2) (io.and (io.eq x.a3 y.a3) (io.and (io.eq x.a4 y.a4) (io.and (io.eq x.a5 y.a5) (io.and (io.eq x.a6 y.a6) (io.and (io.eq x.a7 y.a7) (io.and (io.eq x.a8 y.a8) (io.eq x.a9 y.a9)))))))))
noncomputable def eB : Bool → List D := fun x => [.val (.bool x)]
noncomputable def vB : Bool → SV := fun x => .d (.val (.bool x))
structure Ratio where
 Num : Int
 Den : Int
deriving DecidableEq, Inhabited
noncomputable def eRatio : Ratio → List D := fun x => [.val (.int .i64 x.Num), .val (.int .i64 x.Den)]
noncomputable def vRatio : Ratio → SV := fun x => .agg [.d (.val (.int .i64 x.Num)), .d (.val (.int .i64 x.Den))]
@[reducible] noncomputable def qRatio (x y : Ratio) : Bool := io.and (io.eq x.Num y.Num) (io.eq x.Den y.Den)
structure Decision where
 Allowed : Bool
 Together : Bool
 Single : Bool
 Limit : Int
 Price : Int
 Fee : Ratio
 Tax : Ratio
 Cap : Ratio
 Share : Ratio
 Refund : Ratio
 By : Int
deriving DecidableEq, Inhabited
noncomputable def eDecision : Decision → List D := fun x => [.val (.bool x.Allowed), .val (.bool x.Together), .val (.bool x.Single), .val (.int .i64 x.Limit), .val (.int .i64 x.Price), .val (.int .i64 x.Fee.Num), .val (.int .i64 x.Fee.Den), .val (.int .i64 x.Tax.Num), .val (.int .i64 x.Tax.Den), .val (.int .i64 x.Cap.Num), .val (.int .i64 x.Cap.Den), .val (.int .i64 x.Share.Num), .val (.int .i64 x.Share.Den), .val (.int .i64 x.Refund.Num), .val (.int .i64 x.Refund.Den), .val (.int .i64 x.By)]
noncomputable def vDecision : Decision → SV := fun x => .agg [.d (.val (.bool x.Allowed)), .d (.val (.bool x.Together)), .d (.val (.bool x.Single)), .d (.val (.int .i64 x.Limit)), .d (.val (.int .i64 x.Price)), .d (.val (.int .i64 x.Fee.Num)), .d (.val (.int .i64 x.Fee.Den)), .d (.val (.int .i64 x.Tax.Num)), .d (.val (.int .i64 x.Tax.Den)), .d (.val (.int .i64 x.Cap.Num)), .d (.val (.int .i64 x.Cap.Den)), .d (.val (.int .i64 x.Share.Num)), .d (.val (.int .i64 x.Share.Den)), .d (.val (.int .i64 x.Refund.Num)), .d (.val (.int .i64 x.Refund.Den)), .d (.val (.int .i64 x.By))]
@[reducible] noncomputable def qDecision (x y : Decision) : Bool := io.and (io.beq false x.Allowed y.Allowed) (io.and (io.beq false x.Together y.Together) (io.and (io.beq false x.Single y.Single) (io.and (io.eq x.Limit y.Limit) (io.and (io.eq x.Price y.Price) (io.and (io.eq x.Fee.Num y.Fee.Num) (io.and (io.eq x.Fee.Den y.Fee.Den) (io.and (io.eq x.Tax.Num y.Tax.Num) (io.and (io.eq x.Tax.Den y.Tax.Den) (io.and (io.eq x.Cap.Num y.Cap.Num) (io.and (io.eq x.Cap.Den y.Cap.Den) (io.and (io.eq x.Share.Num y.Share.Num) (io.and (io.eq x.Share.Den y.Share.Den) (io.and (io.eq x.Refund.Num y.Refund.Num) (io.and (io.eq x.Refund.Den y.Refund.Den) (io.eq x.By y.By)))))))))))))))
structure Finding where
 Kind : Int
 A : Int
 B : Int
 Example : (A10 Int)
deriving DecidableEq, Inhabited
noncomputable def eFinding : Finding → List D := fun x => [.val (.int .i64 x.Kind), .val (.int .i64 x.A), .val (.int .i64 x.B), .val (.int .i64 x.Example.a0), .val (.int .i64 x.Example.a1), .val (.int .i64 x.Example.a2), .val (.int .i64 x.Example.a3), .val (.int .i64 x.Example.a4), .val (.int .i64 x.Example.a5), .val (.int .i64 x.Example.a6), .val (.int .i64 x.Example.a7), .val (.int .i64 x.Example.a8), .val (.int .i64 x.Example.a9)]
noncomputable def vFinding : Finding → SV := fun x => .agg [.d (.val (.int .i64 x.Kind)), .d (.val (.int .i64 x.A)), .d (.val (.int .i64 x.B)), .d (.val (.int .i64 x.Example.a0)), .d (.val (.int .i64 x.Example.a1)), .d (.val (.int .i64 x.Example.a2)), .d (.val (.int .i64 x.Example.a3)), .d (.val (.int .i64 x.Example.a4)), .d (.val (.int .i64 x.Example.a5)), .d (.val (.int .i64 x.Example.a6)), .d (.val (.int .i64 x.Example.a7)), .d (.val (.int .i64 x.Example.a8)), .d (.val (.int .i64 x.Example.a9))]
@[reducible] noncomputable def qFinding (x y : Finding) : Bool := io.and (io.eq x.Kind y.Kind) (io.and (io.eq x.A y.A) (io.and (io.eq x.B y.B) (io.and (io.eq x.Example.a0 y.Example.a0) (io.and (io.eq x.Example.a1 y.Example.a1) (io.and (io.eq x.Example.a2 y.Example.a2) (io.and (io.eq x.Example.a3 y.Example.a3) (io.and (io.eq x.Example.a4 y.Example.a4) (io.and (io.eq x.Example.a5 y.Example.a5) (io.and (io.eq x.Example.a6 y.Example.a6) (io.and (io.eq x.Example.a7 y.Example.a7) (io.and (io.eq x.Example.a8 y.Example.a8) (io.eq x.Example.a9 y.Example.a9))))))))))))
noncomputable def eLFinding : (List Finding) → List D := fun x => [.sl (W eFinding x)]
noncomputable def vLFinding : (List Finding) → SV := fun x => .d (.sl (W eFinding x))
noncomputable def eS : ByteArray → List D := fun x => [.val (.string x)]
noncomputable def vS : ByteArray → SV := fun x => .d (.val (.string x))
noncomputable def eLA10Range : (List (A10 Range)) → List D := fun x => [.sl (W eA10Range x)]
noncomputable def vLA10Range : (List (A10 Range)) → SV := fun x => .d (.sl (W eA10Range x))
structure Rule where
 Kind : Int
 Name : ByteArray
 Zones : (List (A10 Range))
 N : Int
 R : Ratio
 S : Ratio
deriving DecidableEq, Inhabited
noncomputable def eRule : Rule → List D := fun x => [.val (.int .i64 x.Kind), .val (.string x.Name), .sl (W eA10Range x.Zones), .val (.int .i64 x.N), .val (.int .i64 x.R.Num), .val (.int .i64 x.R.Den), .val (.int .i64 x.S.Num), .val (.int .i64 x.S.Den)]
noncomputable def vRule : Rule → SV := fun x => .agg [.d (.val (.int .i64 x.Kind)), .d (.val (.string x.Name)), .d (.sl (W eA10Range x.Zones)), .d (.val (.int .i64 x.N)), .d (.val (.int .i64 x.R.Num)), .d (.val (.int .i64 x.R.Den)), .d (.val (.int .i64 x.S.Num)), .d (.val (.int .i64 x.S.Den))]
noncomputable def eLRule : (List Rule) → List D := fun x => [.sl (W eRule x)]
noncomputable def vLRule : (List Rule) → SV := fun x => .d (.sl (W eRule x))
structure Policy where
 Rules : (List Rule)
deriving DecidableEq, Inhabited
noncomputable def ePolicy : Policy → List D := fun x => [.sl (W eRule x.Rules)]
noncomputable def vPolicy : Policy → SV := fun x => .agg [.d (.sl (W eRule x.Rules))]
noncomputable def eLIi64 : (List Int) → List D := fun x => [.sl (W eIi64 x)]
noncomputable def vLIi64 : (List Int) → SV := fun x => .d (.sl (W eIi64 x))
noncomputable def eLA10Ii64 : (List (A10 Int)) → List D := fun x => [.sl (W eA10Ii64 x)]
noncomputable def vLA10Ii64 : (List (A10 Int)) → SV := fun x => .d (.sl (W eA10Ii64 x))
structure Ranged where
 rule : Int
 zone : (A10 Range)
deriving DecidableEq, Inhabited
noncomputable def eRanged : Ranged → List D := fun x => [.val (.int .i64 x.rule), .val (.int .i64 x.zone.a0.Lo), .val (.int .i64 x.zone.a0.Hi), .val (.int .i64 x.zone.a1.Lo), .val (.int .i64 x.zone.a1.Hi), .val (.int .i64 x.zone.a2.Lo), .val (.int .i64 x.zone.a2.Hi), .val (.int .i64 x.zone.a3.Lo), .val (.int .i64 x.zone.a3.Hi), .val (.int .i64 x.zone.a4.Lo), .val (.int .i64 x.zone.a4.Hi), .val (.int .i64 x.zone.a5.Lo), .val (.int .i64 x.zone.a5.Hi), .val (.int .i64 x.zone.a6.Lo), .val (.int .i64 x.zone.a6.Hi), .val (.int .i64 x.zone.a7.Lo), .val (.int .i64 x.zone.a7.Hi), .val (.int .i64 x.zone.a8.Lo), .val (.int .i64 x.zone.a8.Hi), .val (.int .i64 x.zone.a9.Lo), .val (.int .i64 x.zone.a9.Hi)]
noncomputable def vRanged : Ranged → SV := fun x => .agg [.d (.val (.int .i64 x.rule)), .d (.val (.int .i64 x.zone.a0.Lo)), .d (.val (.int .i64 x.zone.a0.Hi)), .d (.val (.int .i64 x.zone.a1.Lo)), .d (.val (.int .i64 x.zone.a1.Hi)), .d (.val (.int .i64 x.zone.a2.Lo)), .d (.val (.int .i64 x.zone.a2.Hi)), .d (.val (.int .i64 x.zone.a3.Lo)), .d (.val (.int .i64 x.zone.a3.Hi)), .d (.val (.int .i64 x.zone.a4.Lo)), .d (.val (.int .i64 x.zone.a4.Hi)), .d (.val (.int .i64 x.zone.a5.Lo)), .d (.val (.int .i64 x.zone.a5.Hi)), .d (.val (.int .i64 x.zone.a6.Lo)), .d (.val (.int .i64 x.zone.a6.Hi)), .d (.val (.int .i64 x.zone.a7.Lo)), .d (.val (.int .i64 x.zone.a7.Hi)), .d (.val (.int .i64 x.zone.a8.Lo)), .d (.val (.int .i64 x.zone.a8.Hi)), .d (.val (.int .i64 x.zone.a9.Lo)), .d (.val (.int .i64 x.zone.a9.Hi))]
@[reducible] noncomputable def qRanged (x y : Ranged) : Bool := io.and (io.eq x.rule y.rule) (io.and (io.eq x.zone.a0.Lo y.zone.a0.Lo) (io.and (io.eq x.zone.a0.Hi y.zone.a0.Hi) (io.and (io.eq x.zone.a1.Lo y.zone.a1.Lo) (io.and (io.eq x.zone.a1.Hi y.zone.a1.Hi) (io.and (io.eq x.zone.a2.Lo y.zone.a2.Lo) (io.and (io.eq x.zone.a2.Hi y.zone.a2.Hi) (io.and (io.eq x.zone.a3.Lo y.zone.a3.Lo) (io.and (io.eq x.zone.a3.Hi y.zone.a3.Hi) (io.and (io.eq x.zone.a4.Lo y.zone.a4.Lo) (io.and (io.eq x.zone.a4.Hi y.zone.a4.Hi) (io.and (io.eq x.zone.a5.Lo y.zone.a5.Lo) (io.and (io.eq x.zone.a5.Hi y.zone.a5.Hi) (io.and (io.eq x.zone.a6.Lo y.zone.a6.Lo) (io.and (io.eq x.zone.a6.Hi y.zone.a6.Hi) (io.and (io.eq x.zone.a7.Lo y.zone.a7.Lo) (io.and (io.eq x.zone.a7.Hi y.zone.a7.Hi) (io.and (io.eq x.zone.a8.Lo y.zone.a8.Lo) (io.and (io.eq x.zone.a8.Hi y.zone.a8.Hi) (io.and (io.eq x.zone.a9.Lo y.zone.a9.Lo) (io.eq x.zone.a9.Hi y.zone.a9.Hi))))))))))))))))))))
noncomputable def eLRanged : (List Ranged) → List D := fun x => [.sl (W eRanged x)]
noncomputable def vLRanged : (List Ranged) → SV := fun x => .d (.sl (W eRanged x))
structure Finder where
 policy : Policy
 zones : (List Ranged)
 limits : (A10 Range)
deriving DecidableEq, Inhabited
noncomputable def eFinder : Finder → List D := fun x => [.sl (W eRule x.policy.Rules), .sl (W eRanged x.zones), .val (.int .i64 x.limits.a0.Lo), .val (.int .i64 x.limits.a0.Hi), .val (.int .i64 x.limits.a1.Lo), .val (.int .i64 x.limits.a1.Hi), .val (.int .i64 x.limits.a2.Lo), .val (.int .i64 x.limits.a2.Hi), .val (.int .i64 x.limits.a3.Lo), .val (.int .i64 x.limits.a3.Hi), .val (.int .i64 x.limits.a4.Lo), .val (.int .i64 x.limits.a4.Hi), .val (.int .i64 x.limits.a5.Lo), .val (.int .i64 x.limits.a5.Hi), .val (.int .i64 x.limits.a6.Lo), .val (.int .i64 x.limits.a6.Hi), .val (.int .i64 x.limits.a7.Lo), .val (.int .i64 x.limits.a7.Hi), .val (.int .i64 x.limits.a8.Lo), .val (.int .i64 x.limits.a8.Hi), .val (.int .i64 x.limits.a9.Lo), .val (.int .i64 x.limits.a9.Hi)]
noncomputable def vFinder : Finder → SV := fun x => .agg [.d (.sl (W eRule x.policy.Rules)), .d (.sl (W eRanged x.zones)), .d (.val (.int .i64 x.limits.a0.Lo)), .d (.val (.int .i64 x.limits.a0.Hi)), .d (.val (.int .i64 x.limits.a1.Lo)), .d (.val (.int .i64 x.limits.a1.Hi)), .d (.val (.int .i64 x.limits.a2.Lo)), .d (.val (.int .i64 x.limits.a2.Hi)), .d (.val (.int .i64 x.limits.a3.Lo)), .d (.val (.int .i64 x.limits.a3.Hi)), .d (.val (.int .i64 x.limits.a4.Lo)), .d (.val (.int .i64 x.limits.a4.Hi)), .d (.val (.int .i64 x.limits.a5.Lo)), .d (.val (.int .i64 x.limits.a5.Hi)), .d (.val (.int .i64 x.limits.a6.Lo)), .d (.val (.int .i64 x.limits.a6.Hi)), .d (.val (.int .i64 x.limits.a7.Lo)), .d (.val (.int .i64 x.limits.a7.Hi)), .d (.val (.int .i64 x.limits.a8.Lo)), .d (.val (.int .i64 x.limits.a8.Hi)), .d (.val (.int .i64 x.limits.a9.Lo)), .d (.val (.int .i64 x.limits.a9.Hi))]
noncomputable def vPFinder : Finder → SV := fun x => .fp [.sl (W eRule x.policy.Rules), .sl (W eRanged x.zones), .val (.int .i64 x.limits.a0.Lo), .val (.int .i64 x.limits.a0.Hi), .val (.int .i64 x.limits.a1.Lo), .val (.int .i64 x.limits.a1.Hi), .val (.int .i64 x.limits.a2.Lo), .val (.int .i64 x.limits.a2.Hi), .val (.int .i64 x.limits.a3.Lo), .val (.int .i64 x.limits.a3.Hi), .val (.int .i64 x.limits.a4.Lo), .val (.int .i64 x.limits.a4.Hi), .val (.int .i64 x.limits.a5.Lo), .val (.int .i64 x.limits.a5.Hi), .val (.int .i64 x.limits.a6.Lo), .val (.int .i64 x.limits.a6.Hi), .val (.int .i64 x.limits.a7.Lo), .val (.int .i64 x.limits.a7.Hi), .val (.int .i64 x.limits.a8.Lo), .val (.int .i64 x.limits.a8.Hi), .val (.int .i64 x.limits.a9.Lo), .val (.int .i64 x.limits.a9.Hi)]
noncomputable def eIu8 : Int → List D := fun x => [.val (.int .u8 x)]
noncomputable def vIu8 : Int → SV := fun x => .d (.val (.int .u8 x))
noncomputable def eLLFinding : (List (List Finding)) → List D := fun x => [.sl (W eLFinding x)]
noncomputable def vLLFinding : (List (List Finding)) → SV := fun x => .d (.sl (W eLFinding x))
abbrev cl (z : A10 Range) : List D := [iv z.a0.Lo, iv z.a0.Hi, iv z.a1.Lo, iv z.a1.Hi, iv z.a2.Lo, iv z.a2.Hi, iv z.a3.Lo, iv z.a3.Hi, iv z.a4.Lo, iv z.a4.Hi, iv z.a5.Lo, iv z.a5.Hi, iv z.a6.Lo, iv z.a6.Hi, iv z.a7.Lo, iv z.a7.Hi, iv z.a8.Lo, iv z.a8.Hi, iv z.a9.Lo, iv z.a9.Hi]
abbrev ca (z : A10 Int) : List SV := [oi z.a0, oi z.a1, oi z.a2, oi z.a3, oi z.a4, oi z.a5, oi z.a6, oi z.a7, oi z.a8, oi z.a9]
abbrev cb (z : A10 Int) : List D := [iv z.a0, iv z.a1, iv z.a2, iv z.a3, iv z.a4, iv z.a5, iv z.a6, iv z.a7, iv z.a8, iv z.a9]
end Go.SX.Cl
