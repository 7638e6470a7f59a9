/-
  Runs: the sixth law's walk.
-/
import Derived.Test.YtlahdopmiplnoaaYR19
namespace Go.SX
open Go
theorem AppS.ints {xs : List (List D)} {c : List Int} {ec : List (List D)} {bytes : Nat} {K : Unit → Prop} (h : ec = c.map dI) (hl : xs.length + c.length ≤ 1000000000) (hb : bytes ≤ 100000) (hk : K ()) : AppS xs ec 1 bytes K := by
  subst h
  refine ⟨fun ds hds => ?_, ?_, ?_, hk⟩
  · obtain ⟨x, _, rfl⟩ := List.mem_map.1 hds; rfl
  · rw [List.length_map]
    exact Nat.le_trans (Nat.mul_le_mul hl hb) (by decide)
  · rw [List.length_map]; simp only [maxLen]; omega
end Go.SX
namespace Go.SX.Runs
open Go Go.Proofs
/-- Whether an index is alone in one of the first runs. -/
def aloneTo (rs : List (List Int)) (x : Int) (k : Nat) : Bool := decide ([x] ∈ rs.take k)
theorem aloneTo_succ {rs : List (List Int)} {x : Int} {k : Nat} {r : List Int} (h : rs[k]? = some r) : aloneTo rs x (k + 1) = (aloneTo rs x k || decide (r = [x])) := by
  rw [aloneTo, aloneTo, take_succ_eq h, Bool.eq_iff_iff]
  simp only [decide_eq_true_eq, Bool.or_eq_true, List.mem_append, List.mem_singleton]
  constructor <;> rintro (h | h) <;> simp [h]
structure WholeOk (l : List Place) (t : List Bool) (one two : List Int) : Prop where
  non : singlesL l t [] = []
  run : ∀ r ∈ freeI l t, singlesL l t r = []
  sec : ∀ x ∈ singlesL l (afterL l t one) two, [x] ∉ freeI l t → x ∈ singlesL l t (one ++ two)
  fin : ∀ x ∈ singlesL l t (one ++ two), [x] ∈ freeI l (afterL l t (one ++ two))
theorem single_eq {r : List Int} {x y : Int} (h1 : r.length = 1) (hy : r[(Int.ofNat 0).toNat]? = some y) : decide (r = [x]) = decide (y = x) := by
  match r, h1 with
  | [z], _ =>
    have : z = y := by simpa using hy
    subst this
    simp
variable {P : Program} (hP : P = Try.prog)
include hP
set_option maxHeartbeats 8000000 in
theorem law8 {l : List Place} {el : List (List D)} {t : List Bool} {et : List (List D)} {one two : List Int} {e1 e2 : List (List D)} (w : Int) (hw0 : 0 ≤ w) (hw1 : w ≤ 255) (hel : el = l.map Place.ds) (het : et = t.map dB) (he1 : e1 = one.map dI) (he2 : e2 = two.map dI)
    (hok : l.length ≤ 60 → orderedP l = true → WholeOk l t one two) : Fn1 P 8 [.d (.sl el), .d (.sl et), .d (.sl e1), .d (.sl e2), .d (.val (.int .u8 w))] (.b true) := by
  refine .walk (hP ▸ d8_ok) fun K hK => ?_
  have la : (el.length : Int) = l.length := by simp [hel]
  have l1 : (e1.length : Int) = one.length := by simp [he1]
  have l1n : e1.length = one.length := by simp [he1]
  have l2 : (e2.length : Int) = two.length := by simp [he2]
  cbv
  refine .f1z (headR hP) rfl rfl ?_
  cbv
  refine .f1z (fewR hP hel het he1) rfl rfl ?_
  generalize hf : (decide (l.length ≤ 60) && _) = f
  cbv
  refine brk (fun h => ?_) (fun h => ?_)
  · cbv; exact hK _ _ rfl
  simp only [x_not, Bool.not_eq_false'] at h
  subst h
  have hl60 : l.length ≤ 60 ∧ t.length ≤ 60 ∧ one.length ≤ 60 := by simpa using hf
  obtain ⟨hl60, _, h160⟩ := hl60
  clear hf
  cbv
  refine brk (fun h => ?_) (fun h => ?_)
  · cbv; exact hK _ _ rfl
  simp only [x_lt, x_len, l2, decide_eq_false_iff_not] at h
  have h260 : two.length ≤ 60 := by (first | omega | ((try simp only [nc] at *); (try simp only [Int.ofNat_eq_natCast] at *); omega))
  clear h
  cbv
  refine .f1z (orderedR hP hel (by omega)) rfl rfl ?_
  generalize ho : orderedP l = o
  cbv
  refine brk (fun h => ?_) (fun h => ?_)
  · cbv; exact hK _ _ rfl
  simp only [x_not, Bool.not_eq_false'] at h
  subst h
  have hR := hok hl60 ho
  clear hok
  cbv
  refine .f1z (singlesR hP (c := []) hel het rfl (by omega) (by decide)) rfl rfl ?_
  rw [hR.non]
  cbv
  refine brk (fun h => ?_) (fun h => ?_)
  · cbv; simp [x_lt, x_len] at h
  clear h
  have hfl1 := freeI_len l t
  have hfm1 : ∀ r ∈ freeI l t, r ≠ [] ∧ r.length ≤ l.length := fun r hr => ⟨freeI_ne hr, freeI_mem hr⟩
  have hsn := hR.run
  have hsec := hR.sec
  have hfin := hR.fin
  clear hR
  have hebl : (one ++ two).length ≤ 120 := by rw [List.length_append]; omega
  have afl : (afterL l t one).length = l.length := by simp [afterL]
  have hq1 := afterR hP hel het he1 (by omega) (by omega)
  have hq2 := singlesR hP (t := afterL l t one) (et := (afterL l t one).map dB) hel rfl he2 (by omega) (by omega)
  have hq3 := fun eb (he : eb = (one ++ two).map dI) => singlesR hP (c := one ++ two) (ec := eb) hel het he (by omega) (by omega)
  have hq4 := fun eb (he : eb = (one ++ two).map dI) => afterR hP (c := one ++ two) (ec := eb) hel het he (by omega) (by omega)
  have hq5 := freeR hP (t := afterL l t (one ++ two)) (et := (afterL l t (one ++ two)).map dB) hel rfl (by omega)
  have hsl2 : (singlesL l (afterL l t one) two).length ≤ 60 := Nat.le_trans (leftL_len _ _) (Nat.le_trans (freeI_len _ _) hl60)
  have hsl3 : (singlesL l t (one ++ two)).length ≤ 60 := Nat.le_trans (leftL_len _ _) (Nat.le_trans (freeI_len _ _) hl60)
  have hfl2 := freeI_len l (afterL l t (one ++ two))
  have hfm2 : ∀ r ∈ freeI l (afterL l t (one ++ two)), r ≠ [] ∧ r.length ≤ l.length := fun r hr => ⟨freeI_ne hr, freeI_mem hr⟩
  generalize afterL l t one = af1 at hq1 hq2 hsec hsl2 afl
  generalize singlesL l af1 two = sc at hq2 hsec hsl2
  generalize singlesL l t (one ++ two) = al at hq3 hsec hfin hsl3
  generalize freeI l (afterL l t (one ++ two)) = ns at hq5 hfin hfl2 hfm2
  generalize afterL l t (one ++ two) = af2 at hq4 hq5
  obtain ⟨ea1, hea1⟩ : ∃ ea1, ea1 = af1.map dB := ⟨_, rfl⟩
  obtain ⟨ea2, hea2⟩ : ∃ ea2, ea2 = af2.map dB := ⟨_, rfl⟩
  obtain ⟨es, hes⟩ : ∃ es, es = sc.map dI := ⟨_, rfl⟩
  obtain ⟨ea, hea⟩ : ∃ ea, ea = al.map dI := ⟨_, rfl⟩
  obtain ⟨en, hen⟩ : ∃ en, en = ns.map dL := ⟨_, rfl⟩
  have las : (es.length : Int) = sc.length := by simp [hes]
  have lal : (ea.length : Int) = al.length := by simp [hea]
  have lns : (en.length : Int) = ns.length := by simp [hen]
  rw [← hea1] at hq1 hq2
  rw [← hes] at hq2
  rw [← hea] at hq3
  rw [← hea2] at hq4 hq5
  rw [← hen] at hq5
  clear hea1 hea2
  cbv
  refine .f1z (freeR hP hel het (by omega)) rfl rfl ?_
  generalize freeI l t = rs at hfl1 hfm1 hsn hsec
  obtain ⟨er, her⟩ : ∃ er, er = rs.map dL := ⟨_, rfl⟩
  rw [← her]
  have lr : (er.length : Int) = rs.length := by simp [her]
  cbv
  refine brk (fun h => ?_) (fun h => ?_)
  · simp only [x_lt, x_len, lr, decide_eq_true_eq] at h
    cbv
    refine ⟨by simp only [x_len, lr]; (first | omega | ((try simp only [nc] at *); (try simp only [Int.ofNat_eq_natCast] at *); omega)), ?_⟩
    have hww : IntKind.i64.wrap w = w := wr64 (by omega) (by omega)
    have hix0 : 0 ≤ w.tmod rs.length := Int.tmod_nonneg _ hw0
    have hix1 : w.tmod rs.length < rs.length := Int.tmod_lt_of_pos _ (by (first | omega | ((try simp only [nc] at *); (try simp only [Int.ofNat_eq_natCast] at *); omega)))
    cbv
    refine .lists her (by simp only [x_rem, x_wrap, x_len, lr, hww]; exact hix0) (by simp only [x_rem, x_wrap, x_len, lr, hww]; exact hix1) fun r y hr hy => ?_
    have hrm := List.mem_of_getElem? hr
    have hrl := (hfm1 r hrm).2
    cbv
    refine .f1z (singlesR hP hel het hy (by omega) (by omega)) rfl rfl ?_
    rw [hsn r hrm]
    cbv
    refine brk (fun h => ?_) (fun h => ?_)
    · cbv; simp [x_lt, x_len] at h
    clear h
    cbv
    refine .ints he1 (by simp only [List.length_nil]; omega) (by decide) ?_
    cbv
    refine .ints he2 (by simp only [x_app, List.length_append, List.length_nil]; omega) (by decide) ?_
    cbv
    refine .f1z hq1 rfl rfl ?_
    cbv
    refine .f1z hq2 rfl rfl ?_
    have heb : (Classical.choice ioEx).1.app ((Classical.choice ioEx).1.app [] e1) e2 = (one ++ two).map dI := by
      rw [x_app, x_app, List.nil_append, List.map_append, he1, he2]
    cbv
    refine .f1z (hq3 _ heb) rfl rfl ?_
    cbv
    refine .intro (ι := Int) (fun i => [.d (.sl el), .d (.sl et), .d (.sl e1), .d (.sl e2), .top, .top, .top, .top, .top, .top, .top, .b true, .d (.sl er), .d (.sl ((Classical.choice ioEx).1.app ((Classical.choice ioEx).1.app [] e1) e2)), .top, .d (.sl es), .d (.sl ea), .i i] ++ List.replicate 154 .top) (fun _ => []) (fun env _ => iAt env 17)
      (fun i => 0 ≤ i ∧ i ≤ sc.length) (fun i => sc.length - i.toNat) 0 ?_ (.mt [] ?_) fun i hi Kn hKn => ?_
    · exact ⟨Int.le_refl _, Int.natCast_nonneg _⟩
    · (cbv; repeat (refine ⟨rfl, ?_⟩; cbv))
    obtain ⟨hi0, hi1⟩ := hi
    cbv
    refine brk (fun h1 => ?_) (fun h1 => ?_)
    · simp only [x_lt, x_len, las, decide_eq_true_eq] at h1
      obtain ⟨x, hx⟩ : ∃ x, sc[i.toNat]? = some x := ⟨_, List.getElem?_eq_getElem (by (first | omega | ((try simp only [nc] at *); (try simp only [Int.ofNat_eq_natCast] at *); omega)))⟩
      have hsx := hsec x (List.mem_of_getElem? hx)
      cbv
      refine .intro (ι := Bool × Int) (fun k => [.d (.sl el), .d (.sl et), .d (.sl e1), .d (.sl e2), .top, .top, .top, .top, .top, .top, .top, .b true, .d (.sl er), .d (.sl ((Classical.choice ioEx).1.app ((Classical.choice ioEx).1.app [] e1) e2)), .top, .d (.sl es), .d (.sl ea), .i i, .b k.1, .i k.2] ++ List.replicate 152 .top) (fun _ => []) (fun env _ => (bAt env 18, iAt env 19))
        (fun k => 0 ≤ k.2 ∧ k.2 ≤ rs.length ∧ k.1 = aloneTo rs x k.2.toNat) (fun k => rs.length - k.2.toNat) (false, 0) ?_ (.mt [] ?_) fun k hk Kn2 hKn2 => ?_
      · exact ⟨Int.le_refl _, Int.natCast_nonneg _, by simp [aloneTo]⟩
      · (cbv; repeat (refine ⟨rfl, ?_⟩; cbv))
      obtain ⟨b, k⟩ := k
      obtain ⟨hk0, hk1, hb⟩ := hk
      dsimp only at hk0 hk1 hb
      cbv
      refine brk (fun h4 => ?_) (fun h4 => ?_)
      · simp only [x_lt, x_len, lr, decide_eq_true_eq] at h4
        obtain ⟨r, hr⟩ : ∃ r, rs[k.toNat]? = some r := ⟨_, List.getElem?_eq_getElem (by (first | omega | ((try simp only [nc] at *); (try simp only [Int.ofNat_eq_natCast] at *); omega)))⟩
        have hbs := aloneTo_succ (x := x) hr
        rw [← hb] at hbs
        obtain ⟨hr1, hr2⟩ := hfm1 r (List.mem_of_getElem? hr)
        have hr3 : 0 < r.length := List.length_pos_iff.2 hr1
        have kn : ∀ env' own', StLe 0 env' own' ([.d (.sl el), .d (.sl et), .d (.sl e1), .d (.sl e2), .top, .top, .top, .top, .top, .top, .top, .b true, .d (.sl er), .d (.sl ((Classical.choice ioEx).1.app ((Classical.choice ioEx).1.app [] e1) e2)), .top, .d (.sl es), .d (.sl ea), .i i, .b (bAt env' 18), .i (iAt env' 19)] ++ List.replicate 152 .top) [] → iAt env' 19 = IntKind.i64.wrap (k + 1) → bAt env' 18 = (b || decide (r = [x])) → Kn2 env' own' := fun env' own' hst hi' hb' => by
          have e1 : IntKind.i64.wrap (k + 1) = k + 1 := wr64 (by (first | omega | ((try simp only [nc] at *); (try simp only [Int.ofNat_eq_natCast] at *); omega))) (by (first | omega | ((try simp only [nc] at *); (try simp only [Int.ofNat_eq_natCast] at *); omega)))
          refine hKn2 _ _ hst ?_ ?_
          · rw [hi', hb', e1]
            refine ⟨by dsimp only; (first | omega | ((try simp only [nc] at *); (try simp only [Int.ofNat_eq_natCast] at *); omega)), by dsimp only; (first | omega | ((try simp only [nc] at *); (try simp only [Int.ofNat_eq_natCast] at *); omega)), ?_⟩
            dsimp only
            rw [show (k + 1).toNat = k.toNat + 1 by (first | omega | ((try simp only [nc] at *); (try simp only [Int.ofNat_eq_natCast] at *); omega)), hbs]
          · rw [hi', e1]; dsimp only; (first | omega | ((try simp only [nc] at *); (try simp only [Int.ofNat_eq_natCast] at *); omega))
        clear hb hKn2 hbs
        cbv
        refine brk (fun h5 => ?_) (fun h5 => ?_)
        · subst h5
          cbv
          refine kn _ _ (.mt [] ?_) ?_ ?_
          · (cbv; repeat (refine ⟨rfl, ?_⟩; cbv))
          · simp only [iAt, geti, x_add]
          · simp only [bAt, geti]; simp
        · subst h5
          cbv
          refine .lists her hk0 (by (first | omega | ((try simp only [nc] at *); (try simp only [Int.ofNat_eq_natCast] at *); omega))) fun r' y hr' hy => ?_
          rw [hr] at hr'; cases hr'
          have ly : (y.length : Int) = r.length := by simp [hy]
          cbv
          refine brk (fun h6 => ?_) (fun h6 => ?_)
          · simp only [x_eq, x_len, ly, decide_eq_true_eq] at h6
            have hone : r.length = 1 := by (first | omega | ((try simp only [nc] at *); (try simp only [Int.ofNat_eq_natCast] at *); omega))
            cbv
            refine .lists her hk0 (by (first | omega | ((try simp only [nc] at *); (try simp only [Int.ofNat_eq_natCast] at *); omega))) fun r' y2 hr' hy2 => ?_
            rw [hr] at hr'; cases hr'
            cbv
            refine .map hy2 (Int.le_refl _) (by (first | omega | ((try simp only [nc] at *); (try simp only [Int.ofNat_eq_natCast] at *); omega))) (fun _ => rfl) fun z hz => ?_
            cbv
            refine .map hes hi0 h1 (fun _ => rfl) fun x' hx' => ?_
            rw [hx] at hx'; cases hx'
            have hse := single_eq (x := x) hone hz
            cbv
            refine kn _ _ (.mt [] ?_) ?_ ?_
            · (cbv; repeat (refine ⟨rfl, ?_⟩; cbv))
            · simp only [iAt, geti, x_add]
            · simp only [bAt, geti, x_eq, hse]; simp
          · simp only [x_eq, x_len, ly, decide_eq_false_iff_not] at h6
            have hse : decide (r = [x]) = false := decide_eq_false fun e => h6 (by rw [e]; rfl)
            cbv
            refine kn _ _ (.mt [] ?_) ?_ ?_
            · (cbv; repeat (refine ⟨rfl, ?_⟩; cbv))
            · simp only [iAt, geti, x_add]
            · simp only [bAt, geti, hse]; simp
      simp only [x_lt, x_len, lr, decide_eq_false_iff_not] at h4
      rw [aloneTo, List.take_of_length_le (by (first | omega | ((try simp only [nc] at *); (try simp only [Int.ofNat_eq_natCast] at *); omega)))] at hb
      clear hKn2 hk0 hk1 h4
      cbv
      refine brk (fun h2 => ?_) (fun h2 => ?_)
      · simp only [x_not, Bool.not_eq_true', hb, decide_eq_false_iff_not] at h2
        have hin := hsx h2
        cbv
        refine .map hes hi0 h1 (fun _ => rfl) fun x' hx' => ?_
        rw [hx] at hx'; cases hx'
        cbv
        refine .f1z (inR hP x hea (by omega)) rfl rfl ?_
        rw [decide_eq_true hin]
        cbv
        refine brk (fun h3 => ?_) (fun h3 => ?_)
        · cbv; simp [x_not] at h3
        clear h3
        cbv
        refine hKn _ _ (.mt [] ?_) ?_ ?_
        · (cbv; repeat (refine ⟨rfl, ?_⟩; cbv))
        · simp only [iAt, geti, x_add]
          rw [wr64 (by (first | omega | ((try simp only [nc] at *); (try simp only [Int.ofNat_eq_natCast] at *); omega))) (by (first | omega | ((try simp only [nc] at *); (try simp only [Int.ofNat_eq_natCast] at *); omega)))]
          exact ⟨by (first | omega | ((try simp only [nc] at *); (try simp only [Int.ofNat_eq_natCast] at *); omega)), by (first | omega | ((try simp only [nc] at *); (try simp only [Int.ofNat_eq_natCast] at *); omega))⟩
        · simp only [iAt, geti, x_add]
          rw [wr64 (by (first | omega | ((try simp only [nc] at *); (try simp only [Int.ofNat_eq_natCast] at *); omega))) (by (first | omega | ((try simp only [nc] at *); (try simp only [Int.ofNat_eq_natCast] at *); omega)))]
          (first | omega | ((try simp only [nc] at *); (try simp only [Int.ofNat_eq_natCast] at *); omega))
      · cbv
        refine hKn _ _ (.mt [] ?_) ?_ ?_
        · (cbv; repeat (refine ⟨rfl, ?_⟩; cbv))
        · simp only [iAt, geti, x_add]
          rw [wr64 (by (first | omega | ((try simp only [nc] at *); (try simp only [Int.ofNat_eq_natCast] at *); omega))) (by (first | omega | ((try simp only [nc] at *); (try simp only [Int.ofNat_eq_natCast] at *); omega)))]
          exact ⟨by (first | omega | ((try simp only [nc] at *); (try simp only [Int.ofNat_eq_natCast] at *); omega)), by (first | omega | ((try simp only [nc] at *); (try simp only [Int.ofNat_eq_natCast] at *); omega))⟩
        · simp only [iAt, geti, x_add]
          rw [wr64 (by (first | omega | ((try simp only [nc] at *); (try simp only [Int.ofNat_eq_natCast] at *); omega))) (by (first | omega | ((try simp only [nc] at *); (try simp only [Int.ofNat_eq_natCast] at *); omega)))]
          (first | omega | ((try simp only [nc] at *); (try simp only [Int.ofNat_eq_natCast] at *); omega))
    clear hKn hsec hi0 hi1 h1
    cbv
    refine .f1z (hq4 _ heb) rfl rfl ?_
    cbv
    refine .f1z hq5 rfl rfl ?_
    cbv
    refine .intro (ι := Int) (fun i => [.top, .top, .top, .top, .top, .top, .top, .top, .top, .top, .top, .b true, .top, .top, .top, .top, .d (.sl ea), .top, .top, .top, .d (.sl en), .i i] ++ List.replicate 150 .top) (fun _ => []) (fun env _ => iAt env 21)
      (fun i => 0 ≤ i ∧ i ≤ al.length) (fun i => al.length - i.toNat) 0 ?_ (.mt [] ?_) fun i hi Kn hKn => ?_
    · exact ⟨Int.le_refl _, Int.natCast_nonneg _⟩
    · (cbv; repeat (refine ⟨rfl, ?_⟩; cbv))
    obtain ⟨hi0, hi1⟩ := hi
    cbv
    refine brk (fun h1 => ?_) (fun h1 => ?_)
    · simp only [x_lt, x_len, lal, decide_eq_true_eq] at h1
      obtain ⟨x, hx⟩ : ∃ x, al[i.toNat]? = some x := ⟨_, List.getElem?_eq_getElem (by (first | omega | ((try simp only [nc] at *); (try simp only [Int.ofNat_eq_natCast] at *); omega)))⟩
      have hsx := hfin x (List.mem_of_getElem? hx)
      cbv
      refine .intro (ι := Bool × Int) (fun k => [.top, .top, .top, .top, .top, .top, .top, .top, .top, .top, .top, .b true, .top, .top, .top, .top, .d (.sl ea), .top, .top, .top, .d (.sl en), .i i, .b k.1, .i k.2] ++ List.replicate 148 .top) (fun _ => []) (fun env _ => (bAt env 22, iAt env 23))
        (fun k => 0 ≤ k.2 ∧ k.2 ≤ ns.length ∧ k.1 = aloneTo ns x k.2.toNat) (fun k => ns.length - k.2.toNat) (false, 0) ?_ (.mt [] ?_) fun k hk Kn2 hKn2 => ?_
      · exact ⟨Int.le_refl _, Int.natCast_nonneg _, by simp [aloneTo]⟩
      · (cbv; repeat (refine ⟨rfl, ?_⟩; cbv))
      obtain ⟨b, k⟩ := k
      obtain ⟨hk0, hk1, hb⟩ := hk
      dsimp only at hk0 hk1 hb
      cbv
      refine brk (fun h4 => ?_) (fun h4 => ?_)
      · simp only [x_lt, x_len, lns, decide_eq_true_eq] at h4
        obtain ⟨r, hr⟩ : ∃ r, ns[k.toNat]? = some r := ⟨_, List.getElem?_eq_getElem (by (first | omega | ((try simp only [nc] at *); (try simp only [Int.ofNat_eq_natCast] at *); omega)))⟩
        have hbs := aloneTo_succ (x := x) hr
        rw [← hb] at hbs
        obtain ⟨hr1, hr2⟩ := hfm2 r (List.mem_of_getElem? hr)
        have hr3 : 0 < r.length := List.length_pos_iff.2 hr1
        have kn : ∀ env' own', StLe 0 env' own' ([.top, .top, .top, .top, .top, .top, .top, .top, .top, .top, .top, .b true, .top, .top, .top, .top, .d (.sl ea), .top, .top, .top, .d (.sl en), .i i, .b (bAt env' 22), .i (iAt env' 23)] ++ List.replicate 148 .top) [] → iAt env' 23 = IntKind.i64.wrap (k + 1) → bAt env' 22 = (b || decide (r = [x])) → Kn2 env' own' := fun env' own' hst hi' hb' => by
          have e1 : IntKind.i64.wrap (k + 1) = k + 1 := wr64 (by (first | omega | ((try simp only [nc] at *); (try simp only [Int.ofNat_eq_natCast] at *); omega))) (by (first | omega | ((try simp only [nc] at *); (try simp only [Int.ofNat_eq_natCast] at *); omega)))
          refine hKn2 _ _ hst ?_ ?_
          · rw [hi', hb', e1]
            refine ⟨by dsimp only; (first | omega | ((try simp only [nc] at *); (try simp only [Int.ofNat_eq_natCast] at *); omega)), by dsimp only; (first | omega | ((try simp only [nc] at *); (try simp only [Int.ofNat_eq_natCast] at *); omega)), ?_⟩
            dsimp only
            rw [show (k + 1).toNat = k.toNat + 1 by (first | omega | ((try simp only [nc] at *); (try simp only [Int.ofNat_eq_natCast] at *); omega)), hbs]
          · rw [hi', e1]; dsimp only; (first | omega | ((try simp only [nc] at *); (try simp only [Int.ofNat_eq_natCast] at *); omega))
        clear hb hKn2 hbs
        cbv
        refine brk (fun h5 => ?_) (fun h5 => ?_)
        · subst h5
          cbv
          refine kn _ _ (.mt [] ?_) ?_ ?_
          · (cbv; repeat (refine ⟨rfl, ?_⟩; cbv))
          · simp only [iAt, geti, x_add]
          · simp only [bAt, geti]; simp
        · subst h5
          cbv
          refine .lists hen hk0 (by (first | omega | ((try simp only [nc] at *); (try simp only [Int.ofNat_eq_natCast] at *); omega))) fun r' y hr' hy => ?_
          rw [hr] at hr'; cases hr'
          have ly : (y.length : Int) = r.length := by simp [hy]
          cbv
          refine brk (fun h6 => ?_) (fun h6 => ?_)
          · simp only [x_eq, x_len, ly, decide_eq_true_eq] at h6
            have hone : r.length = 1 := by (first | omega | ((try simp only [nc] at *); (try simp only [Int.ofNat_eq_natCast] at *); omega))
            cbv
            refine .lists hen hk0 (by (first | omega | ((try simp only [nc] at *); (try simp only [Int.ofNat_eq_natCast] at *); omega))) fun r' y2 hr' hy2 => ?_
            rw [hr] at hr'; cases hr'
            cbv
            refine .map hy2 (Int.le_refl _) (by (first | omega | ((try simp only [nc] at *); (try simp only [Int.ofNat_eq_natCast] at *); omega))) (fun _ => rfl) fun z hz => ?_
            cbv
            refine .map hea hi0 h1 (fun _ => rfl) fun x' hx' => ?_
            rw [hx] at hx'; cases hx'
            have hse := single_eq (x := x) hone hz
            cbv
            refine kn _ _ (.mt [] ?_) ?_ ?_
            · (cbv; repeat (refine ⟨rfl, ?_⟩; cbv))
            · simp only [iAt, geti, x_add]
            · simp only [bAt, geti, x_eq, hse]; simp
          · simp only [x_eq, x_len, ly, decide_eq_false_iff_not] at h6
            have hse : decide (r = [x]) = false := decide_eq_false fun e => h6 (by rw [e]; rfl)
            cbv
            refine kn _ _ (.mt [] ?_) ?_ ?_
            · (cbv; repeat (refine ⟨rfl, ?_⟩; cbv))
            · simp only [iAt, geti, x_add]
            · simp only [bAt, geti, hse]; simp
      simp only [x_lt, x_len, lns, decide_eq_false_iff_not] at h4
      rw [aloneTo, List.take_of_length_le (by (first | omega | ((try simp only [nc] at *); (try simp only [Int.ofNat_eq_natCast] at *); omega)))] at hb
      clear hKn2 hk0 hk1 h4
      have hb : b = true := by rw [hb]; exact decide_eq_true hsx
      subst hb
      cbv
      refine brk (fun h2 => ?_) (fun h2 => ?_)
      · cbv; simp [x_not] at h2
      clear h2
      cbv
      refine hKn _ _ (.mt [] ?_) ?_ ?_
      · (cbv; repeat (refine ⟨rfl, ?_⟩; cbv))
      · simp only [iAt, geti, x_add]
        rw [wr64 (by (first | omega | ((try simp only [nc] at *); (try simp only [Int.ofNat_eq_natCast] at *); omega))) (by (first | omega | ((try simp only [nc] at *); (try simp only [Int.ofNat_eq_natCast] at *); omega)))]
        exact ⟨by (first | omega | ((try simp only [nc] at *); (try simp only [Int.ofNat_eq_natCast] at *); omega)), by (first | omega | ((try simp only [nc] at *); (try simp only [Int.ofNat_eq_natCast] at *); omega))⟩
      · simp only [iAt, geti, x_add]
        rw [wr64 (by (first | omega | ((try simp only [nc] at *); (try simp only [Int.ofNat_eq_natCast] at *); omega))) (by (first | omega | ((try simp only [nc] at *); (try simp only [Int.ofNat_eq_natCast] at *); omega)))]
        (first | omega | ((try simp only [nc] at *); (try simp only [Int.ofNat_eq_natCast] at *); omega))
    cbv
    exact hK _ _ rfl

  · clear h
    cbv
    refine .ints he1 (by simp only [List.length_nil]; omega) (by decide) ?_
    cbv
    refine .ints he2 (by simp only [x_app, List.length_append, List.length_nil]; omega) (by decide) ?_
    cbv
    refine .f1z hq1 rfl rfl ?_
    cbv
    refine .f1z hq2 rfl rfl ?_
    have heb : (Classical.choice ioEx).1.app ((Classical.choice ioEx).1.app [] e1) e2 = (one ++ two).map dI := by
      rw [x_app, x_app, List.nil_append, List.map_append, he1, he2]
    cbv
    refine .f1z (hq3 _ heb) rfl rfl ?_
    cbv
    refine .intro (ι := Int) (fun i => [.d (.sl el), .d (.sl et), .d (.sl e1), .d (.sl e2), .top, .top, .top, .top, .top, .top, .top, .b true, .d (.sl er), .d (.sl ((Classical.choice ioEx).1.app ((Classical.choice ioEx).1.app [] e1) e2)), .top, .d (.sl es), .d (.sl ea), .i i] ++ List.replicate 154 .top) (fun _ => []) (fun env _ => iAt env 17)
      (fun i => 0 ≤ i ∧ i ≤ sc.length) (fun i => sc.length - i.toNat) 0 ?_ (.mt [] ?_) fun i hi Kn hKn => ?_
    · exact ⟨Int.le_refl _, Int.natCast_nonneg _⟩
    · (cbv; repeat (refine ⟨rfl, ?_⟩; cbv))
    obtain ⟨hi0, hi1⟩ := hi
    cbv
    refine brk (fun h1 => ?_) (fun h1 => ?_)
    · simp only [x_lt, x_len, las, decide_eq_true_eq] at h1
      obtain ⟨x, hx⟩ : ∃ x, sc[i.toNat]? = some x := ⟨_, List.getElem?_eq_getElem (by (first | omega | ((try simp only [nc] at *); (try simp only [Int.ofNat_eq_natCast] at *); omega)))⟩
      have hsx := hsec x (List.mem_of_getElem? hx)
      cbv
      refine .intro (ι := Bool × Int) (fun k => [.d (.sl el), .d (.sl et), .d (.sl e1), .d (.sl e2), .top, .top, .top, .top, .top, .top, .top, .b true, .d (.sl er), .d (.sl ((Classical.choice ioEx).1.app ((Classical.choice ioEx).1.app [] e1) e2)), .top, .d (.sl es), .d (.sl ea), .i i, .b k.1, .i k.2] ++ List.replicate 152 .top) (fun _ => []) (fun env _ => (bAt env 18, iAt env 19))
        (fun k => 0 ≤ k.2 ∧ k.2 ≤ rs.length ∧ k.1 = aloneTo rs x k.2.toNat) (fun k => rs.length - k.2.toNat) (false, 0) ?_ (.mt [] ?_) fun k hk Kn2 hKn2 => ?_
      · exact ⟨Int.le_refl _, Int.natCast_nonneg _, by simp [aloneTo]⟩
      · (cbv; repeat (refine ⟨rfl, ?_⟩; cbv))
      obtain ⟨b, k⟩ := k
      obtain ⟨hk0, hk1, hb⟩ := hk
      dsimp only at hk0 hk1 hb
      cbv
      refine brk (fun h4 => ?_) (fun h4 => ?_)
      · simp only [x_lt, x_len, lr, decide_eq_true_eq] at h4
        obtain ⟨r, hr⟩ : ∃ r, rs[k.toNat]? = some r := ⟨_, List.getElem?_eq_getElem (by (first | omega | ((try simp only [nc] at *); (try simp only [Int.ofNat_eq_natCast] at *); omega)))⟩
        have hbs := aloneTo_succ (x := x) hr
        rw [← hb] at hbs
        obtain ⟨hr1, hr2⟩ := hfm1 r (List.mem_of_getElem? hr)
        have hr3 : 0 < r.length := List.length_pos_iff.2 hr1
        have kn : ∀ env' own', StLe 0 env' own' ([.d (.sl el), .d (.sl et), .d (.sl e1), .d (.sl e2), .top, .top, .top, .top, .top, .top, .top, .b true, .d (.sl er), .d (.sl ((Classical.choice ioEx).1.app ((Classical.choice ioEx).1.app [] e1) e2)), .top, .d (.sl es), .d (.sl ea), .i i, .b (bAt env' 18), .i (iAt env' 19)] ++ List.replicate 152 .top) [] → iAt env' 19 = IntKind.i64.wrap (k + 1) → bAt env' 18 = (b || decide (r = [x])) → Kn2 env' own' := fun env' own' hst hi' hb' => by
          have e1 : IntKind.i64.wrap (k + 1) = k + 1 := wr64 (by (first | omega | ((try simp only [nc] at *); (try simp only [Int.ofNat_eq_natCast] at *); omega))) (by (first | omega | ((try simp only [nc] at *); (try simp only [Int.ofNat_eq_natCast] at *); omega)))
          refine hKn2 _ _ hst ?_ ?_
          · rw [hi', hb', e1]
            refine ⟨by dsimp only; (first | omega | ((try simp only [nc] at *); (try simp only [Int.ofNat_eq_natCast] at *); omega)), by dsimp only; (first | omega | ((try simp only [nc] at *); (try simp only [Int.ofNat_eq_natCast] at *); omega)), ?_⟩
            dsimp only
            rw [show (k + 1).toNat = k.toNat + 1 by (first | omega | ((try simp only [nc] at *); (try simp only [Int.ofNat_eq_natCast] at *); omega)), hbs]
          · rw [hi', e1]; dsimp only; (first | omega | ((try simp only [nc] at *); (try simp only [Int.ofNat_eq_natCast] at *); omega))
        clear hb hKn2 hbs
        cbv
        refine brk (fun h5 => ?_) (fun h5 => ?_)
        · subst h5
          cbv
          refine kn _ _ (.mt [] ?_) ?_ ?_
          · (cbv; repeat (refine ⟨rfl, ?_⟩; cbv))
          · simp only [iAt, geti, x_add]
          · simp only [bAt, geti]; simp
        · subst h5
          cbv
          refine .lists her hk0 (by (first | omega | ((try simp only [nc] at *); (try simp only [Int.ofNat_eq_natCast] at *); omega))) fun r' y hr' hy => ?_
          rw [hr] at hr'; cases hr'
          have ly : (y.length : Int) = r.length := by simp [hy]
          cbv
          refine brk (fun h6 => ?_) (fun h6 => ?_)
          · simp only [x_eq, x_len, ly, decide_eq_true_eq] at h6
            have hone : r.length = 1 := by (first | omega | ((try simp only [nc] at *); (try simp only [Int.ofNat_eq_natCast] at *); omega))
            cbv
            refine .lists her hk0 (by (first | omega | ((try simp only [nc] at *); (try simp only [Int.ofNat_eq_natCast] at *); omega))) fun r' y2 hr' hy2 => ?_
            rw [hr] at hr'; cases hr'
            cbv
            refine .map hy2 (Int.le_refl _) (by (first | omega | ((try simp only [nc] at *); (try simp only [Int.ofNat_eq_natCast] at *); omega))) (fun _ => rfl) fun z hz => ?_
            cbv
            refine .map hes hi0 h1 (fun _ => rfl) fun x' hx' => ?_
            rw [hx] at hx'; cases hx'
            have hse := single_eq (x := x) hone hz
            cbv
            refine kn _ _ (.mt [] ?_) ?_ ?_
            · (cbv; repeat (refine ⟨rfl, ?_⟩; cbv))
            · simp only [iAt, geti, x_add]
            · simp only [bAt, geti, x_eq, hse]; simp
          · simp only [x_eq, x_len, ly, decide_eq_false_iff_not] at h6
            have hse : decide (r = [x]) = false := decide_eq_false fun e => h6 (by rw [e]; rfl)
            cbv
            refine kn _ _ (.mt [] ?_) ?_ ?_
            · (cbv; repeat (refine ⟨rfl, ?_⟩; cbv))
            · simp only [iAt, geti, x_add]
            · simp only [bAt, geti, hse]; simp
      simp only [x_lt, x_len, lr, decide_eq_false_iff_not] at h4
      rw [aloneTo, List.take_of_length_le (by (first | omega | ((try simp only [nc] at *); (try simp only [Int.ofNat_eq_natCast] at *); omega)))] at hb
      clear hKn2 hk0 hk1 h4
      cbv
      refine brk (fun h2 => ?_) (fun h2 => ?_)
      · simp only [x_not, Bool.not_eq_true', hb, decide_eq_false_iff_not] at h2
        have hin := hsx h2
        cbv
        refine .map hes hi0 h1 (fun _ => rfl) fun x' hx' => ?_
        rw [hx] at hx'; cases hx'
        cbv
        refine .f1z (inR hP x hea (by omega)) rfl rfl ?_
        rw [decide_eq_true hin]
        cbv
        refine brk (fun h3 => ?_) (fun h3 => ?_)
        · cbv; simp [x_not] at h3
        clear h3
        cbv
        refine hKn _ _ (.mt [] ?_) ?_ ?_
        · (cbv; repeat (refine ⟨rfl, ?_⟩; cbv))
        · simp only [iAt, geti, x_add]
          rw [wr64 (by (first | omega | ((try simp only [nc] at *); (try simp only [Int.ofNat_eq_natCast] at *); omega))) (by (first | omega | ((try simp only [nc] at *); (try simp only [Int.ofNat_eq_natCast] at *); omega)))]
          exact ⟨by (first | omega | ((try simp only [nc] at *); (try simp only [Int.ofNat_eq_natCast] at *); omega)), by (first | omega | ((try simp only [nc] at *); (try simp only [Int.ofNat_eq_natCast] at *); omega))⟩
        · simp only [iAt, geti, x_add]
          rw [wr64 (by (first | omega | ((try simp only [nc] at *); (try simp only [Int.ofNat_eq_natCast] at *); omega))) (by (first | omega | ((try simp only [nc] at *); (try simp only [Int.ofNat_eq_natCast] at *); omega)))]
          (first | omega | ((try simp only [nc] at *); (try simp only [Int.ofNat_eq_natCast] at *); omega))
      · cbv
        refine hKn _ _ (.mt [] ?_) ?_ ?_
        · (cbv; repeat (refine ⟨rfl, ?_⟩; cbv))
        · simp only [iAt, geti, x_add]
          rw [wr64 (by (first | omega | ((try simp only [nc] at *); (try simp only [Int.ofNat_eq_natCast] at *); omega))) (by (first | omega | ((try simp only [nc] at *); (try simp only [Int.ofNat_eq_natCast] at *); omega)))]
          exact ⟨by (first | omega | ((try simp only [nc] at *); (try simp only [Int.ofNat_eq_natCast] at *); omega)), by (first | omega | ((try simp only [nc] at *); (try simp only [Int.ofNat_eq_natCast] at *); omega))⟩
        · simp only [iAt, geti, x_add]
          rw [wr64 (by (first | omega | ((try simp only [nc] at *); (try simp only [Int.ofNat_eq_natCast] at *); omega))) (by (first | omega | ((try simp only [nc] at *); (try simp only [Int.ofNat_eq_natCast] at *); omega)))]
          (first | omega | ((try simp only [nc] at *); (try simp only [Int.ofNat_eq_natCast] at *); omega))
    clear hKn hsec hi0 hi1 h1
    cbv
    refine .f1z (hq4 _ heb) rfl rfl ?_
    cbv
    refine .f1z hq5 rfl rfl ?_
    cbv
    refine .intro (ι := Int) (fun i => [.top, .top, .top, .top, .top, .top, .top, .top, .top, .top, .top, .b true, .top, .top, .top, .top, .d (.sl ea), .top, .top, .top, .d (.sl en), .i i] ++ List.replicate 150 .top) (fun _ => []) (fun env _ => iAt env 21)
      (fun i => 0 ≤ i ∧ i ≤ al.length) (fun i => al.length - i.toNat) 0 ?_ (.mt [] ?_) fun i hi Kn hKn => ?_
    · exact ⟨Int.le_refl _, Int.natCast_nonneg _⟩
    · (cbv; repeat (refine ⟨rfl, ?_⟩; cbv))
    obtain ⟨hi0, hi1⟩ := hi
    cbv
    refine brk (fun h1 => ?_) (fun h1 => ?_)
    · simp only [x_lt, x_len, lal, decide_eq_true_eq] at h1
      obtain ⟨x, hx⟩ : ∃ x, al[i.toNat]? = some x := ⟨_, List.getElem?_eq_getElem (by (first | omega | ((try simp only [nc] at *); (try simp only [Int.ofNat_eq_natCast] at *); omega)))⟩
      have hsx := hfin x (List.mem_of_getElem? hx)
      cbv
      refine .intro (ι := Bool × Int) (fun k => [.top, .top, .top, .top, .top, .top, .top, .top, .top, .top, .top, .b true, .top, .top, .top, .top, .d (.sl ea), .top, .top, .top, .d (.sl en), .i i, .b k.1, .i k.2] ++ List.replicate 148 .top) (fun _ => []) (fun env _ => (bAt env 22, iAt env 23))
        (fun k => 0 ≤ k.2 ∧ k.2 ≤ ns.length ∧ k.1 = aloneTo ns x k.2.toNat) (fun k => ns.length - k.2.toNat) (false, 0) ?_ (.mt [] ?_) fun k hk Kn2 hKn2 => ?_
      · exact ⟨Int.le_refl _, Int.natCast_nonneg _, by simp [aloneTo]⟩
      · (cbv; repeat (refine ⟨rfl, ?_⟩; cbv))
      obtain ⟨b, k⟩ := k
      obtain ⟨hk0, hk1, hb⟩ := hk
      dsimp only at hk0 hk1 hb
      cbv
      refine brk (fun h4 => ?_) (fun h4 => ?_)
      · simp only [x_lt, x_len, lns, decide_eq_true_eq] at h4
        obtain ⟨r, hr⟩ : ∃ r, ns[k.toNat]? = some r := ⟨_, List.getElem?_eq_getElem (by (first | omega | ((try simp only [nc] at *); (try simp only [Int.ofNat_eq_natCast] at *); omega)))⟩
        have hbs := aloneTo_succ (x := x) hr
        rw [← hb] at hbs
        obtain ⟨hr1, hr2⟩ := hfm2 r (List.mem_of_getElem? hr)
        have hr3 : 0 < r.length := List.length_pos_iff.2 hr1
        have kn : ∀ env' own', StLe 0 env' own' ([.top, .top, .top, .top, .top, .top, .top, .top, .top, .top, .top, .b true, .top, .top, .top, .top, .d (.sl ea), .top, .top, .top, .d (.sl en), .i i, .b (bAt env' 22), .i (iAt env' 23)] ++ List.replicate 148 .top) [] → iAt env' 23 = IntKind.i64.wrap (k + 1) → bAt env' 22 = (b || decide (r = [x])) → Kn2 env' own' := fun env' own' hst hi' hb' => by
          have e1 : IntKind.i64.wrap (k + 1) = k + 1 := wr64 (by (first | omega | ((try simp only [nc] at *); (try simp only [Int.ofNat_eq_natCast] at *); omega))) (by (first | omega | ((try simp only [nc] at *); (try simp only [Int.ofNat_eq_natCast] at *); omega)))
          refine hKn2 _ _ hst ?_ ?_
          · rw [hi', hb', e1]
            refine ⟨by dsimp only; (first | omega | ((try simp only [nc] at *); (try simp only [Int.ofNat_eq_natCast] at *); omega)), by dsimp only; (first | omega | ((try simp only [nc] at *); (try simp only [Int.ofNat_eq_natCast] at *); omega)), ?_⟩
            dsimp only
            rw [show (k + 1).toNat = k.toNat + 1 by (first | omega | ((try simp only [nc] at *); (try simp only [Int.ofNat_eq_natCast] at *); omega)), hbs]
          · rw [hi', e1]; dsimp only; (first | omega | ((try simp only [nc] at *); (try simp only [Int.ofNat_eq_natCast] at *); omega))
        clear hb hKn2 hbs
        cbv
        refine brk (fun h5 => ?_) (fun h5 => ?_)
        · subst h5
          cbv
          refine kn _ _ (.mt [] ?_) ?_ ?_
          · (cbv; repeat (refine ⟨rfl, ?_⟩; cbv))
          · simp only [iAt, geti, x_add]
          · simp only [bAt, geti]; simp
        · subst h5
          cbv
          refine .lists hen hk0 (by (first | omega | ((try simp only [nc] at *); (try simp only [Int.ofNat_eq_natCast] at *); omega))) fun r' y hr' hy => ?_
          rw [hr] at hr'; cases hr'
          have ly : (y.length : Int) = r.length := by simp [hy]
          cbv
          refine brk (fun h6 => ?_) (fun h6 => ?_)
          · simp only [x_eq, x_len, ly, decide_eq_true_eq] at h6
            have hone : r.length = 1 := by (first | omega | ((try simp only [nc] at *); (try simp only [Int.ofNat_eq_natCast] at *); omega))
            cbv
            refine .lists hen hk0 (by (first | omega | ((try simp only [nc] at *); (try simp only [Int.ofNat_eq_natCast] at *); omega))) fun r' y2 hr' hy2 => ?_
            rw [hr] at hr'; cases hr'
            cbv
            refine .map hy2 (Int.le_refl _) (by (first | omega | ((try simp only [nc] at *); (try simp only [Int.ofNat_eq_natCast] at *); omega))) (fun _ => rfl) fun z hz => ?_
            cbv
            refine .map hea hi0 h1 (fun _ => rfl) fun x' hx' => ?_
            rw [hx] at hx'; cases hx'
            have hse := single_eq (x := x) hone hz
            cbv
            refine kn _ _ (.mt [] ?_) ?_ ?_
            · (cbv; repeat (refine ⟨rfl, ?_⟩; cbv))
            · simp only [iAt, geti, x_add]
            · simp only [bAt, geti, x_eq, hse]; simp
          · simp only [x_eq, x_len, ly, decide_eq_false_iff_not] at h6
            have hse : decide (r = [x]) = false := decide_eq_false fun e => h6 (by rw [e]; rfl)
            cbv
            refine kn _ _ (.mt [] ?_) ?_ ?_
            · (cbv; repeat (refine ⟨rfl, ?_⟩; cbv))
            · simp only [iAt, geti, x_add]
            · simp only [bAt, geti, hse]; simp
      simp only [x_lt, x_len, lns, decide_eq_false_iff_not] at h4
      rw [aloneTo, List.take_of_length_le (by (first | omega | ((try simp only [nc] at *); (try simp only [Int.ofNat_eq_natCast] at *); omega)))] at hb
      clear hKn2 hk0 hk1 h4
      have hb : b = true := by rw [hb]; exact decide_eq_true hsx
      subst hb
      cbv
      refine brk (fun h2 => ?_) (fun h2 => ?_)
      · cbv; simp [x_not] at h2
      clear h2
      cbv
      refine hKn _ _ (.mt [] ?_) ?_ ?_
      · (cbv; repeat (refine ⟨rfl, ?_⟩; cbv))
      · simp only [iAt, geti, x_add]
        rw [wr64 (by (first | omega | ((try simp only [nc] at *); (try simp only [Int.ofNat_eq_natCast] at *); omega))) (by (first | omega | ((try simp only [nc] at *); (try simp only [Int.ofNat_eq_natCast] at *); omega)))]
        exact ⟨by (first | omega | ((try simp only [nc] at *); (try simp only [Int.ofNat_eq_natCast] at *); omega)), by (first | omega | ((try simp only [nc] at *); (try simp only [Int.ofNat_eq_natCast] at *); omega))⟩
      · simp only [iAt, geti, x_add]
        rw [wr64 (by (first | omega | ((try simp only [nc] at *); (try simp only [Int.ofNat_eq_natCast] at *); omega))) (by (first | omega | ((try simp only [nc] at *); (try simp only [Int.ofNat_eq_natCast] at *); omega)))]
        (first | omega | ((try simp only [nc] at *); (try simp only [Int.ofNat_eq_natCast] at *); omega))
    cbv
    exact hK _ _ rfl

end Go.SX.Runs
