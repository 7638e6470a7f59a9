/- Parts of the proof. -/
import Derived.Test.YtllbabjgpdmblaaZSyO
import Derived.Test.YtllbabjgpdmblaaZClP1
import Derived.Test.YtllbabjgpdmblaaZClT
import Derived.Test.YtllbabjgpdmblaaRows
set_option linter.unusedSimpArgs false
set_option linter.unusedVariables false
namespace Go.SX.Cl
open Go Go.SX Go.Proofs Go.ChangeShapes Go.WideShapes Go.ChangeAt Go.RowKit
set_option maxRecDepth 1000000
theorem laidOut : laidOutB Try.prog = true := by kernel_rfl
theorem ownN : ownKnob Try.prog.godebug = none := by kernel_rfl
theorem oI : Opens Try.prog 3 1 eIi64 (InK .i64) := Opens.int Try.underlying3
theorem oS : Opens Try.prog 9 1 eS (fun x => x.size ≤ maxLen) := Opens.str Try.underlying9
theorem oRange : Opens Try.prog 52 2 eRange (fun r => InK .i64 r.Lo ∧ InK .i64 r.Hi) :=
 ⟨fun _ => rfl, fun hx => by
   obtain ⟨a, ha, ra⟩ := field_open Try.underlying52 hx 0 _ rfl oI
   obtain ⟨b, hb, rb⟩ := field_open Try.underlying52 hx 1 _ rfl oI
   exact ⟨⟨a, b⟩, ⟨ha, hb⟩, Reads.append (a := eIi64 a) (b := eIi64 b) ra rb⟩⟩
theorem oRatio : Opens Try.prog 39 2 eRatio (fun _ => True) :=
 ⟨fun _ => rfl, fun hx => by
   obtain ⟨a, ha, ra⟩ := field_open Try.underlying39 hx 0 _ rfl oI
   obtain ⟨b, hb, rb⟩ := field_open Try.underlying39 hx 1 _ rfl oI
   exact ⟨⟨a, b⟩, trivial, Reads.append (a := eIi64 a) (b := eIi64 b) ra rb⟩⟩
theorem oZone : Opens Try.prog 54 20 eA10Range (fun z => ∀ i, i < 10 → InK .i64 (z.get i).Hi) :=
 ⟨fun _ => rfl, fun hx => by
   have hn : Try.prog.cellsOf 52 = 2 := by kernel_rfl
   obtain ⟨y0, h0, r0⟩ := elem_open Try.underlying54 hx hn 0 (by omega) oRange
   obtain ⟨y1, h1, r1⟩ := elem_open Try.underlying54 hx hn 1 (by omega) oRange
   obtain ⟨y2, h2, r2⟩ := elem_open Try.underlying54 hx hn 2 (by omega) oRange
   obtain ⟨y3, h3, r3⟩ := elem_open Try.underlying54 hx hn 3 (by omega) oRange
   obtain ⟨y4, h4, r4⟩ := elem_open Try.underlying54 hx hn 4 (by omega) oRange
   obtain ⟨y5, h5, r5⟩ := elem_open Try.underlying54 hx hn 5 (by omega) oRange
   obtain ⟨y6, h6, r6⟩ := elem_open Try.underlying54 hx hn 6 (by omega) oRange
   obtain ⟨y7, h7, r7⟩ := elem_open Try.underlying54 hx hn 7 (by omega) oRange
   obtain ⟨y8, h8, r8⟩ := elem_open Try.underlying54 hx hn 8 (by omega) oRange
   obtain ⟨y9, h9, r9⟩ := elem_open Try.underlying54 hx hn 9 (by omega) oRange
   refine ⟨⟨y0, y1, y2, y3, y4, y5, y6, y7, y8, y9⟩, fun i hi => ?_, Reads.append (a := eRange y0) (b := eRange y1 ++ (eRange y2 ++ (eRange y3 ++ (eRange y4 ++ (eRange y5 ++ (eRange y6 ++ (eRange y7 ++ (eRange y8 ++ (eRange y9))))))))) r0 (Reads.append (a := eRange y1) (b := eRange y2 ++ (eRange y3 ++ (eRange y4 ++ (eRange y5 ++ (eRange y6 ++ (eRange y7 ++ (eRange y8 ++ (eRange y9)))))))) r1 (Reads.append (a := eRange y2) (b := eRange y3 ++ (eRange y4 ++ (eRange y5 ++ (eRange y6 ++ (eRange y7 ++ (eRange y8 ++ (eRange y9))))))) r2 (Reads.append (a := eRange y3) (b := eRange y4 ++ (eRange y5 ++ (eRange y6 ++ (eRange y7 ++ (eRange y8 ++ (eRange y9)))))) r3 (Reads.append (a := eRange y4) (b := eRange y5 ++ (eRange y6 ++ (eRange y7 ++ (eRange y8 ++ (eRange y9))))) r4 (Reads.append (a := eRange y5) (b := eRange y6 ++ (eRange y7 ++ (eRange y8 ++ (eRange y9)))) r5 (Reads.append (a := eRange y6) (b := eRange y7 ++ (eRange y8 ++ (eRange y9))) r6 (Reads.append (a := eRange y7) (b := eRange y8 ++ (eRange y9)) r7 (Reads.append (a := eRange y8) (b := eRange y9) r8 r9))))))))⟩
   match i, hi with
   | 0, _ => exact h0.2
   | 1, _ => exact h1.2
   | 2, _ => exact h2.2
   | 3, _ => exact h3.2
   | 4, _ => exact h4.2
   | 5, _ => exact h5.2
   | 6, _ => exact h6.2
   | 7, _ => exact h7.2
   | 8, _ => exact h8.2
   | 9, _ => exact h9.2⟩
theorem oZones : Opens Try.prog 37 1 eLA10Range (fun l => ∀ z ∈ l, ∀ i, i < 10 → InK .i64 (z.get i).Hi) := Opens.slice Try.underlying37 (by kernel_rfl) (by omega) oZone
theorem oRule : Opens Try.prog 41 8 eRule (fun r => ∀ z ∈ r.Zones, ∀ i, i < 10 → InK .i64 (z.get i).Hi) :=
 ⟨fun _ => rfl, fun hx => by
   obtain ⟨k, _, r0⟩ := field_open Try.underlying41 hx 0 _ rfl oI
   obtain ⟨s, _, r1⟩ := field_open Try.underlying41 hx 1 _ rfl oS
   obtain ⟨zs, hz, r2⟩ := field_open Try.underlying41 hx 2 _ rfl oZones
   obtain ⟨n, _, r3⟩ := field_open Try.underlying41 hx 3 _ rfl oI
   obtain ⟨a, _, r4⟩ := field_open Try.underlying41 hx 4 _ rfl oRatio
   obtain ⟨b, _, r5⟩ := field_open Try.underlying41 hx 5 _ rfl oRatio
   exact ⟨⟨k, s, zs, n, a, b⟩, hz, Reads.append (a := eIi64 k) (b := eS s ++ (eLA10Range zs ++ (eIi64 n ++ (eRatio a ++ eRatio b)))) r0 (Reads.append (a := eS s) r1 (Reads.append (a := eLA10Range zs) r2 (Reads.append (a := eIi64 n) r3 (Reads.append (a := eRatio a) r4 r5))))⟩⟩
theorem oRules : Opens Try.prog 22 1 (fun l : List Rule => [.sl (W eRule l)]) (fun l => ∀ r ∈ l, ∀ z ∈ r.Zones, ∀ i, i < 10 → InK .i64 (z.get i).Hi) := Opens.slice Try.underlying22 (by kernel_rfl) (by omega) oRule
theorem oPolicy : Opens Try.prog 24 1 ePolicy (fun p => ∀ r ∈ p.Rules, ∀ z ∈ r.Zones, ∀ i, i < 10 → InK .i64 (z.get i).Hi) :=
 ⟨fun _ => rfl, fun hx => by
   obtain ⟨l, hl, r0⟩ := field_open Try.underlying24 hx 0 _ rfl oRules
   exact ⟨⟨l⟩, hl, r0⟩⟩
theorem inK_ge {x : Int} (h : InK .i64 x) : -9223372036854775808 ≤ x := by
 simp only [InK, Lit.wf, Bool.and_eq_true, decide_eq_true_eq] at h
 have := h.1
 simpa [IntKind.min, IntKind.signed, IntKind.bits] using this
def IntsP (p : Policy) : Prop := ∀ r ∈ p.Rules, ∀ z ∈ r.Zones, ∀ i, i < 10 → -9223372036854775808 ≤ (z.get i).Hi
section
variable {H : Type} {enc : TypeId × Value → H} {w : World} {ps : List MemPlace} {d : DataW H} {b0 : Nat} {v : Value}
theorem openPolicy (hv : Value.okWide Try.prog w .any b0 24 v) (h : DataW.Trod enc Try.prog w 0 (fun _ => true) true 24 v d ps) : ∃ p : Policy, Rel (cx0 w) (vPolicy p) v ∧ IntsP p := by
 obtain ⟨cs, rfl, hs⟩ := okWide_struct Try.underlying24 hv
 obtain ⟨fuel, h⟩ := h
 obtain ⟨p, hp, hr⟩ := oPolicy.op h
 have hc : Try.prog.cellsOf 24 = 1 := by kernel_rfl
 exact ⟨p, rel_agg (ds := ePolicy p) (by rw [hs, hc]; rfl) hr, fun r hr z hz i hi => inK_ge (hp r hr z hz i hi)⟩
end
theorem lawCalls {f : FuncId} {args : List SV} {us : List Value} {w : World} (h : Fn1 Try.prog f args (vB true)) (hr : RelL (cx0 w) args us) :
   Calls Try.prog f us.toArray w fun e w' => e = .returned (.bool true) ∧ Below w.heap.size w w' := by
 refine (h.2 (cx0 w) w us (sat0 w) hr).mono ?_
 rintro e w' ⟨c', own', sv, u, rfl, h1, _, _, h5, rfl⟩
 obtain rfl := h1.of_val
 exact ⟨rfl, h5.os, h5.tape, h5.output, h5.size, fun b hb => h5.keep b hb (fun ⟨r, x, hx, _⟩ => by simp at hx)⟩
end Go.SX.Cl
namespace Go.Proofs.Ytllbabjgpdmblaa
open Go Go.ChangeShapes Go.WideShapes Go.ChangeAt Go.RowKit
set_option maxRecDepth 1000000
section
variable {H : Type} {enc : TypeId × Value → H} {W W' : World}
theorem allStay {sp : Nat → Bool} : ∀ {ts : List TypeId} {vs : List Value} {ds : List (DataW H)} {ps : List MemPlace}, (∀ t ∈ ts, Try.prog.readableRec t = true ∧ t < Try.prog.types.size) →
   DataW.TrodAll enc Try.prog W 0 (fun _ => true) true ts vs ds ps → (∀ x ∈ ps, W.sameAt W' x) → (∀ x ∈ ps, sp x.block = true) → DataW.TrodAll enc Try.prog W' 0 sp true ts vs ds ps
 | [], vs, ds, ps, _, h, _, _ => by
   obtain ⟨rfl, rfl, rfl⟩ := trodAll_nil h
   exact rfl
 | t :: ts, vs, ds, ps, ht, h, hs, hp => by
   obtain ⟨v, vs', d, ds', p, q, rfl, rfl, rfl, h1, h2⟩ := trodAll_cons h
   obtain ⟨k1, k2⟩ := ht t (by simp)
   exact ⟨p, q, WideElems.Trod_stays SX.Cl.laidOut k1 k2 h1 (fun x hx => hs x (List.mem_append_left _ hx)) (fun x hx => hp x (List.mem_append_left _ hx)),
     allStay (fun t' ht' => ht t' (by simp [ht'])) h2 (fun x hx => hs x (List.mem_append_right _ hx)) (fun x hx => hp x (List.mem_append_right _ hx)), rfl⟩
theorem lawPost {f : Func} {s : ChangeSpec} {args : Array Value} {ds : List (DataW H)} {ps : List MemPlace} (hvars : s.vars = []) (hW : DataW.Whole enc Try.prog f.params.toList s.vars false W args.toList ds [] ps)
   (hts : ∀ t ∈ f.params.toList, Try.prog.readableRec t = true ∧ t < Try.prog.types.size) (hres : f.resultTypes = #[4]) (hfn : s.fn H (ds ++ []) = { results := [.lit (.bool true)], args := ds }) (hb : Below W.heap.size W W') :
   s.post enc Try.prog f false true false false W args (.bool true) W' := by
 have hlt : ∀ x ∈ ps, x.block < W.heap.size := fun x hx => hW.lt x hx
 have hW0 := hW
 obtain ⟨p, q, hA, hV, rfl, hz, hn⟩ := hW0
 rw [hvars] at hV
 obtain ⟨_, rfl⟩ := trodVars_none hV
 simp only [List.append_nil] at hW hlt hz
 have stay : ∀ sp : Nat → Bool, (∀ x ∈ p, sp x.block = true) → DataW.TrodAll enc Try.prog W' 0 sp true f.params.toList args.toList ds p := fun sp hsp => allStay hts hA (fun x hx => hb.same (hlt x hx)) hsp
 have res : ∀ (b : Nat) (sp : Nat → Bool) (hd : Bool), DataW.TrodAll enc Try.prog W' b sp hd f.resultTypes.toList ((Value.bool true).resultList f.resultTypes.size) [.lit (.bool true)] [] := fun b sp hd => by
   rw [hres]
   exact trodAll_mk1 (shut_bool Try.underlying4 _)
 have vars : ∀ sp : Nat → Bool, DataW.TrodVars enc Try.prog W' sp s.vars (s.fn H (ds ++ [])).vars [] := fun sp => by rw [hvars, hfn]; rfl
 refine ⟨ds, [], p, [], p, [], hW, by rw [hfn]; exact res _ _ _, by rw [hfn]; exact stay _ (fun x hx => by simpa using hlt x hx), vars _, hb.frame _, fun _ => ⟨?_, _, _, ([] ++ p) ++ [], ⟨[] ++ p, [], trodAll_append (stay _ fun _ _ => rfl) (res _ _ _), vars _, rfl, ?_, fun h => by cases h⟩, fun x hx _ => by simpa using hx⟩⟩
 · rw [hres]
   exact ok_one (f := { f with resultTypes := #[4] }) rfl rfl (okWide_bool_mk Try.underlying4 _)
 · intro b off hx
   have hx' : MemPlace.cell b off ∈ p := by simpa using hx
   rw [hb.frozen (p := ⟨b, off, none⟩) (hlt _ hx')]
   exact hz b off hx'
end
end Go.Proofs.Ytllbabjgpdmblaa
