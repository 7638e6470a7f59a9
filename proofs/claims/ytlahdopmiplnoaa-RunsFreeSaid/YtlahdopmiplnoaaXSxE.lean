/-
  How what is owned goes on: a new block, a row that grew, a store, a freeze.
-/
import Derived.Test.YtlahdopmiplnoaaXSxD
namespace Go.SX
open Go

section
variable {P : Program} {c : Cx} {own : List Res} {env : List SV} {a : Act} {w w' : World}

def Cx.push (c : Cx) (v : Value) : Cx := { θ := fun r => if r = c.N then v else c.θ r, F := c.F, N := c.N + 1 }

theorem Cx.push_le (c : Cx) (v : Value) : c.le (c.push v) :=
  ⟨Nat.le_succ _, fun r hr => by simp [Cx.push, Nat.ne_of_lt hr], fun _ _ h => h⟩

theorem Sat.push (h : Sat c own w) (row : Option Nat) (own0 : List Res) (hl : own0.length = own.length)
    (h00 : ∀ (s : Nat) y, own0[s]? = some y → y = .gone ∨ (own[s]? = some y ∧ (y.live = true → ∀ b, row = some b → blkOf (c.θ s) ≠ some b)))
    (hrow : ∀ b, row = some b → Own c own b) (hos : w'.os = w.os) (htape : w'.tape = w.tape) (hout : w'.output = w.output) (hsize : w.heap.size ≤ w'.heap.size)
    (hkeep : ∀ b, b < w.heap.size → some b ≠ row → w'.heap[b]? = w.heap[b]?)
    (v : Value) (x : Res) (hv : v.oneCell' = true) (hfresh : ∀ b, blkOf v = some b → w.heap.size ≤ b ∨ row = some b) (hres : ResOk (c.push v) w' v x) :
    Sat (c.push v) (own0 ++ [x]) w' ∧ c.le (c.push v) ∧ Goes c own w (c.push v) (own0 ++ [x]) w' := by
  have h0 : ∀ (s : Nat) y, own0[s]? = some y → y.live = true → own[s]? = some y ∧ ∀ b, row = some b → blkOf (c.θ s) ≠ some b := fun s y hy hl => by
    rcases h00 s y hy with rfl | ⟨h1, h2⟩
    · simp [Res.live] at hl
    · exact ⟨h1, h2 hl⟩
  have hle := c.push_le v
  have hN : own0.length = c.N := hl.trans h.n
  have hθ : ∀ s, s < c.N → (c.push v).θ s = c.θ s := hle.t
  have hθN : (c.push v).θ c.N = v := by simp [Cx.push]
  have hrF : ∀ b, row = some b → c.F b = none := fun b hb => by
    obtain ⟨r, y, hy, hly, hby⟩ := hrow b hb
    exact h.notF r y b hy hly hby
  -- what stands in the new list
  have hget : ∀ (s : Nat) y, (own0 ++ [x])[s]? = some y → (s < c.N ∧ own0[s]? = some y) ∨ (s = c.N ∧ y = x) := fun s y hy => by
    rw [List.getElem?_append] at hy
    split at hy
    · exact .inl ⟨by omega, hy⟩
    · rename_i hge
      have : s = c.N := by
        have := (List.getElem?_eq_some_iff.1 hy).1; simp at this; omega
      subst this
      simp [hN] at hy
      exact .inr ⟨rfl, hy.symm⟩
  have hF : ∀ b o, c.F b = some o → w'.heap[b]? = some o := fun b o hb => by
    rw [hkeep b (h.F_lt hb) (fun e => by rw [hrF b e.symm] at hb; cases hb)]
    exact h.le b o hb
  refine ⟨⟨by simp [Cx.push, hN], ?_, ?_, ?_, hF, ?_⟩, hle, ⟨hos, htape, hout, hsize, ?_, fun b hb => .inl hb, ?_, fun _ _ hb => hb⟩⟩
  · intro r y hy
    rcases hget r y hy with ⟨hr, hy⟩ | ⟨rfl, rfl⟩
    · rw [hθ r hr]
      rcases h00 r y hy with rfl | ⟨hy', hb⟩
      · trivial
      · exact (h.res r y hy').keep hle fun hly b hbk => hkeep b (h.blk_lt ⟨r, y, hy', hly, hbk⟩) (fun e => hb hly b e.symm hbk)
    · rw [hθN]; exact hres
  · intro r s y z b hy hz hly hlz hb hb'
    rcases hget r y hy with ⟨hr, hy⟩ | ⟨rfl, rfl⟩
    · obtain ⟨hy', hbr⟩ := h0 r y hy hly
      rw [hθ r hr] at hb
      rcases hget s z hz with ⟨hs, hz⟩ | ⟨rfl, rfl⟩
      · obtain ⟨hz', _⟩ := h0 s z hz hlz
        rw [hθ s hs] at hb'
        exact h.apart r s y z b hy' hz' hly hlz hb hb'
      · rw [hθN] at hb'
        have hlt := h.blk_lt ⟨r, y, hy', hly, hb⟩
        rcases hfresh b hb' with h1 | h1
        · omega
        · exact absurd hb (hbr b h1)
    · rw [hθN] at hb
      rcases hget s z hz with ⟨hs, hz⟩ | ⟨rfl, rfl⟩
      · obtain ⟨hz', hbs⟩ := h0 s z hz hlz
        rw [hθ s hs] at hb'
        have hlt := h.blk_lt ⟨s, z, hz', hlz, hb'⟩
        rcases hfresh b hb with h1 | h1
        · omega
        · exact absurd hb' (hbs b h1)
      · rfl
  · intro r y b hy hly hb
    rcases hget r y hy with ⟨hr, hy⟩ | ⟨rfl, rfl⟩
    · obtain ⟨hy', _⟩ := h0 r y hy hly
      rw [hθ r hr] at hb
      exact h.notF r y b hy' hly hb
    · rw [hθN] at hb
      rcases hfresh b hb with h1 | h1
      · cases hcF : c.F b with
        | none => exact hcF
        | some o => have := h.F_lt hcF; omega
      · exact hrF b h1
  · intro r
    simp only [Cx.push]
    split
    · exact hv
    · exact h.one r
  · intro b hb hn
    exact hkeep b hb (fun e => hn (hrow b e.symm))
  · rintro b ⟨r, y, hy, hly, hb⟩
    rcases hget r y hy with ⟨hr, hy⟩ | ⟨rfl, rfl⟩
    · obtain ⟨hy', _⟩ := h0 r y hy hly
      rw [hθ r hr] at hb
      exact .inl ⟨r, y, hy', hly, hb⟩
    · rw [hθN] at hb
      rcases hfresh b hb with h1 | h1
      · exact .inr h1
      · exact .inl (hrow b h1)

/-- A new block, nothing else. -/
theorem Sat.alloc (h : Sat c own w) (o : Obj) (v : Value) (x : Res) (hv : v.oneCell' = true) (hb : blkOf v = some w.heap.size) (hres : ResOk (c.push v) (w.alloc o) v x) :
    Sat (c.push v) (own ++ [x]) (w.alloc o) ∧ c.le (c.push v) ∧ Goes c own w (c.push v) (own ++ [x]) (w.alloc o) :=
  h.push (w' := w.alloc o) none own rfl (fun s y hy => .inr ⟨hy, fun _ b hb => by cases hb⟩) (fun b hb => by cases hb) rfl rfl rfl (by simp) (fun b hb _ => RowKit.Below.heap_alloc w o b hb) v x hv
    (fun b hb' => .inl (by rw [hb] at hb'; cases hb'; exact Nat.le_refl _)) hres

/-- A store into a block that is owned. -/
theorem Sat.update (h : Sat c own w) {r b : Nat} {x x' : Res} (hx : own[r]? = some x) (hl : x.live = true) (hl' : x'.live = true) (hb : blkOf (c.θ r) = some b) (hos : w'.os = w.os) (htape : w'.tape = w.tape) (hout : w'.output = w.output)
    (hsize : w'.heap.size = w.heap.size) (hkeep : ∀ k, k ≠ b → w'.heap[k]? = w.heap[k]?) (hres : ResOk c w' (c.θ r) x') :
    Sat c (own.set r x') w' ∧ Goes c own w c (own.set r x') w' := by
  have hrlt : r < own.length := (List.getElem?_eq_some_iff.1 hx).1
  have hget : ∀ (s : Nat) y, (own.set r x')[s]? = some y → (s = r ∧ y = x') ∨ (s ≠ r ∧ own[s]? = some y) := fun s y hy => by
    rw [List.getElem?_set] at hy
    split at hy
    · rename_i e; subst e; simp [] at hy; exact .inl ⟨rfl, hy.symm⟩
    · rename_i e; exact .inr ⟨fun e' => e e'.symm, hy⟩
  have hnF : c.F b = none := h.notF r x b hx hl hb
  refine ⟨⟨by simp [h.n], ?_, ?_, ?_, ?_, h.one⟩, ⟨hos, htape, hout, by omega, ?_, fun _ hh => .inl hh, ?_, fun _ _ hh => hh⟩⟩
  · intro s y hy
    rcases hget s y hy with ⟨rfl, rfl⟩ | ⟨hne, hy⟩
    · exact hres
    · exact (h.res s y hy).keep (Cx.le.refl c) fun hly k hk => hkeep k fun e => by
        subst e; exact hne (h.apart s r y x k hy hx hly hl hk hb)
  · intro s t y z k hy hz hly hlz hk hk'
    rcases hget s y hy with ⟨rfl, rfl⟩ | ⟨hne, hy1⟩
    · rcases hget t z hz with ⟨rfl, rfl⟩ | ⟨hne, hz1⟩
      · rfl
      · exact h.apart s t x z k hx hz1 hl hlz hk hk'
    · rcases hget t z hz with ⟨rfl, rfl⟩ | ⟨hne, hz1⟩
      · exact h.apart s t y x k hy1 hx hly hl hk hk'
      · exact h.apart s t y z k hy1 hz1 hly hlz hk hk'
  · intro s y k hy hly hk
    rcases hget s y hy with ⟨rfl, rfl⟩ | ⟨hne, hy⟩
    · exact h.notF s x k hx hl hk
    · exact h.notF s y k hy hly hk
  · intro k o hk
    rw [hkeep k (fun e => by subst e; rw [hnF] at hk; cases hk)]
    exact h.le k o hk
  · intro k hk hn
    exact hkeep k fun e => hn ⟨r, x, hx, hl, e ▸ hb⟩
  · rintro k ⟨s, y, hy, hly, hk⟩
    rcases hget s y hy with ⟨rfl, rfl⟩ | ⟨hne, hy⟩
    · exact .inl ⟨s, x, hx, hl, hk⟩
    · exact .inl ⟨s, y, hy, hly, hk⟩

/-- The world goes on by draws alone. -/
theorem Sat.drew (h : Sat c own w) (hw : w'.heap = w.heap) : Sat c own w' :=
  h.on (Cx.le.refl c) rfl h.one (fun b _ => by rw [hw]) (fun b o hb => by rw [hw]; exact h.le b o hb) (fun _ hh => .inl hh)
theorem Goes.drew (hw : w'.heap = w.heap) (hos : w'.os = w.os) (ht : w'.tape = w.tape) (ho : w'.output = w.output) : Goes c own w c own w' :=
  ⟨hos, ht, ho, by rw [hw]; exact Nat.le_refl _, fun _ _ _ => by rw [hw], fun _ h => .inl h, fun _ h => .inl h, fun _ _ h => h⟩

theorem flatten_get {es : List (List D)} {sz : Nat} (h : ∀ ds ∈ es, ds.length = sz) : ∀ (i j : Nat) (ds : List D), es[i]? = some ds → j < sz → es.flatten[i * sz + j]? = ds[j]? := by
  induction es with
  | nil => intro i j ds hi; simp at hi
  | cons e es ih =>
    intro i j ds hi hj
    have he : e.length = sz := h e (by simp)
    cases i with
    | zero =>
      simp at hi; subst hi
      rw [List.flatten_cons, List.getElem?_append_left (by omega)]; simp
    | succ i =>
      simp at hi
      rw [List.flatten_cons, List.getElem?_append_right (by rw [he, Nat.add_mul]; omega)]
      have : (i + 1) * sz + j - e.length = i * sz + j := by rw [he, Nat.add_mul]; omega
      rw [this]
      exact ih (fun ds hd => h ds (by simp [hd])) i j ds hi hj

theorem flatten_len {es : List (List D)} {sz : Nat} (h : ∀ ds ∈ es, ds.length = sz) : es.flatten.length = es.length * sz := by
  induction es with
  | nil => simp
  | cons e es ih => rw [List.flatten_cons, List.length_append, ih (fun d hd => h d (by simp [hd])), h e (by simp), List.length_cons, Nat.add_mul]; omega

/-- What a frozen row reads as. -/
def Cx.frz (c : Cx) (b : Nat) (o : Obj) : Cx := { c with F := fun k => if k = b then some o else c.F k }

theorem Cx.frz_le {b : Nat} {o : Obj} (h : c.F b = none) : c.le (c.frz b o) :=
  ⟨Nat.le_refl _, fun _ _ => rfl, fun k x hk => by
    simp only [Cx.frz]; split
    · rename_i e; subst e; rw [h] at hk; cases hk
    · exact hk⟩

theorem row_rep {ty sz b cap : Nat} {es : List (List D)} {cur : Array Value} {us : List Value} (hd : ∀ ds ∈ es, ds.length = sz) (hF : c.F b = some (.cells cur ty (0, 0)))
    (hcap : es.length ≤ cap) (htake : cur.toList.take (es.length * sz) = us) (hus : ∀ (j : Nat) d, es.flatten[j]? = some d → ∃ u, us[j]? = some u ∧ Rep c.F u d) :
    Rep c.F (.slice (some ⟨b, 0, none⟩) es.length cap) (.sl es) := by
  have hlt : ∀ (i j : Nat) (ds : List D) d, es[i]? = some ds → ds[j]? = some d → j < sz ∧ ∃ u, us[i * sz + j]? = some u ∧ Rep c.F u d ∧ cur[0 + i * sz + j]? = some u := fun i j ds d hi hj => by
    have hl : ds.length = sz := hd ds (List.mem_of_getElem? hi)
    have hjl : j < sz := by rw [← hl]; exact (List.getElem?_eq_some_iff.1 hj).1
    obtain ⟨u, h1, h2⟩ := hus (i * sz + j) d (by rw [flatten_get hd i j ds hi hjl]; exact hj)
    refine ⟨hjl, u, h1, h2, ?_⟩
    rw [← htake, List.getElem?_take] at h1
    split at h1
    · rw [Nat.zero_add]; simpa using h1
    · cases h1
  refine .sl b 0 cap cur ty (0, 0) es sz (fun i j => (us[i * sz + j]?).getD undef) hF hcap (fun i ds hi => hd ds (List.mem_of_getElem? hi)) ?_ ?_
  · intro i ds j d hi hj
    obtain ⟨_, u, h1, _, h3⟩ := hlt i j ds d hi hj
    rw [h3]; simp [h1]
  · intro i ds j d hi hj
    obtain ⟨_, u, h1, h2, _⟩ := hlt i j ds d hi hj
    simpa [h1] using h2

/-- A row is frozen: its handle is data from now on. -/
theorem Sat.freeze (h : Sat c own w) {r ty sz : Nat} {es : List (List D)} (hx : own[r]? = some (.row ty sz es)) :
    ∃ c', Sat c' (own.set r (.fz es)) w ∧ c.le c' ∧ Goes c own w c' (own.set r (.fz es)) w ∧ Rep c'.F (c.θ r) (.sl es) := by
  have hrlt : r < own.length := (List.getElem?_eq_some_iff.1 hx).1
  have hget : ∀ (s : Nat) y, (own.set r (.fz es))[s]? = some y → y.live = true → s ≠ r ∧ own[s]? = some y := fun s y hy hl => by
    rw [List.getElem?_set] at hy
    split at hy
    · rename_i e; subst e; simp [] at hy; subst hy; simp [Res.live] at hl
    · rename_i e; exact ⟨fun e' => e e'.symm, hy⟩
  have hget2 : ∀ (s : Nat) y, (own.set r (.fz es))[s]? = some y → (s = r ∧ y = .fz es) ∨ own[s]? = some y := fun s y hy => by
    rw [List.getElem?_set] at hy
    split at hy
    · rename_i e; subst e; simp [] at hy; exact .inl ⟨rfl, hy.symm⟩
    · exact .inr hy
  obtain ⟨hd, us, ⟨hn, hv⟩, hc⟩ := h.res r _ hx
  rcases hv with ⟨hv, h0⟩ | ⟨b, cap, cur, hv, _, hb, hle, _, hcs, htake⟩
  · have hes : es = [] := List.eq_nil_of_length_eq_zero h0
    subst hes
    refine ⟨c, ⟨by simp [h.n], fun s y hy => ?_, fun s t y z k hy hz hly hlz hk hk' => ?_, fun s y k hy hly hk => ?_, h.le, h.one⟩, Cx.le.refl c, ⟨rfl, rfl, rfl, Nat.le_refl _, fun _ _ _ => rfl, fun _ hh => .inl hh, ?_, fun _ _ hh => hh⟩, by rw [hv]; exact .nil _ _ (fun _ => rfl)⟩
    · rcases hget2 s y hy with ⟨rfl, rfl⟩ | hy
      · rw [hv]; exact .nil _ _ (fun _ => rfl)
      · exact h.res s y hy
    · exact h.apart s t y z k (hget s y hy hly).2 (hget t z hz hlz).2 hly hlz hk hk'
    · exact h.notF s y k (hget s y hy hly).2 hly hk
    · rintro k ⟨s, y, hy, hly, hk⟩
      exact .inl ⟨s, y, (hget s y hy hly).2, hly, hk⟩
  · have hblk : blkOf (c.θ r) = some b := by rw [hv]; rfl
    have hnF : c.F b = none := h.notF r _ b hx rfl hblk
    have hcle : c.le (c.frz b (.cells cur ty (0, 0))) := Cx.frz_le hnF
    have hown : Own c own b := ⟨r, _, hx, rfl, hblk⟩
    have hrep : Rep (c.frz b (.cells cur ty (0, 0))).F (c.θ r) (.sl es) := by
      rw [hv]
      exact row_rep (c := c.frz b (.cells cur ty (0, 0))) (ty := ty) (cur := cur) hd (by simp [Cx.frz]) hle htake (fun j d hj => let ⟨u, h1, h2⟩ := hc j d hj; ⟨u, h1, h2.mono hcle.f⟩)
    refine ⟨c.frz b (.cells cur ty (0, 0)), ⟨by simp [h.n, Cx.frz], fun s y hy => ?_, fun s t y z k hy hz hly hlz hk hk' => ?_, fun s y k hy hly hk => ?_, ?_, h.one⟩, hcle,
      ⟨rfl, rfl, rfl, Nat.le_refl _, fun _ _ _ => rfl, ?_, ?_, hcle.f⟩, ?_⟩
    · rcases hget2 s y hy with ⟨rfl, rfl⟩ | hy
      · exact hrep
      · exact (h.res s y hy).keep hcle (fun _ _ _ => rfl)
    · exact h.apart s t y z k (hget s y hy hly).2 (hget t z hz hlz).2 hly hlz hk hk'
    · obtain ⟨hne, hy'⟩ := hget s y hy hly
      simp only [Cx.frz]
      split
      · rename_i e; subst e
        exact absurd (h.apart s r y _ k hy' hx hly rfl hk hblk) hne
      · exact h.notF s y k hy' hly hk
    · intro k o hk
      simp only [Cx.frz] at hk
      split at hk
      · rename_i e; subst e; cases hk; exact hb
      · exact h.le k o hk
    · intro k hk
      simp only [Cx.frz] at hk
      split at hk
      · rename_i e; subst e; exact .inr (.inr hown)
      · exact .inl hk
    · rintro k ⟨s, y, hy, hly, hk⟩
      exact .inl ⟨s, y, (hget s y hy hly).2, hly, hk⟩
    · exact hrep

end
end Go.SX
