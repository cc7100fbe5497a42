import PyProof.Rows.All
import Wide.All
import OpenK.AllK
import Wide.FinOn
import HandS.ForMost
import HandS.Property
import HandS.Head2
import HandS.HeadEnd
import HandS.HeadNt
import KE.DatumOrd
import KE.GoesEnum
import PyProof.TupleOfSeq
import HandS.Walk
import HandS.SortKw
import HandS.Evl
import HandS.Deep
import HandS.Zip
import HandS.Star
import HandS.MakeKwOnly
import HandS.Strs
import HandS.IsInst
import HandS.Style
import PySem.Challenge.RW_everyfire_k39_whole_kept_goals
set_option Elab.async false
set_option linter.all false
set_option maxRecDepth 100000
set_option maxHeartbeats 0
/-! The plain law: fires over a land, whatever the order in which they are reckoned. No program in sight. -/
namespace Ef
section
variable {α : Type} [DecidableEq α]

/-! ### dicts as lists of pairs -/
def dget (d : List (α × Int)) (p : α) : Option Int := (d.find? fun kv => decide (kv.1 = p)).map (·.2)
def dput (d : List (α × Int)) (p : α) (v : Int) : List (α × Int) :=
  if (d.any fun kv => decide (kv.1 = p)) = true then d.map (fun kv => if kv.1 = p then (kv.1, v) else kv) else d ++ [(p, v)]
def ddrop (d : List (α × Int)) (p : α) : List (α × Int) := d.filter fun kv => decide (kv.1 ≠ p)

theorem dget_nil (p : α) : dget ([] : List (α × Int)) p = none := rfl
theorem dget_cons (q : α) (v : Int) (d : List (α × Int)) (p : α) : dget ((q, v) :: d) p = if q = p then some v else dget d p := by
  unfold dget
  by_cases h : q = p
  · rw [List.find?_cons_of_pos (by simpa using h), if_pos h]; rfl
  · rw [List.find?_cons_of_neg (by simpa using h), if_neg h]
theorem dget_any (p : α) : ∀ d : List (α × Int), (d.any fun kv => decide (kv.1 = p)) = (dget d p).isSome
  | [] => rfl
  | (q, v) :: d => by
    rw [dget_cons, List.any_cons, dget_any p d]
    by_cases h : q = p
    · simp [h]
    · simp [h]
theorem dget_map (p : α) (v : Int) (q : α) : ∀ d : List (α × Int), dget (d.map fun kv => if kv.1 = p then (kv.1, v) else kv) q = (dget d q).map fun x => if q = p then v else x
  | [] => rfl
  | (r, x) :: d => by
    rw [List.map_cons]
    by_cases h : r = p
    · simp only [h, if_true]
      rw [dget_cons, dget_cons, dget_map p v q d]
      by_cases h2 : p = q
      · subst h2; simp
      · simp [h2]
    · simp only [h, if_false]
      rw [dget_cons, dget_cons, dget_map p v q d]
      by_cases h2 : r = q
      · subst h2; simp [h]
      · simp [h2]
theorem dget_snoc (d : List (α × Int)) (p : α) (v : Int) (q : α) (h : dget d p = none) : dget (d ++ [(p, v)]) q = if q = p then some v else dget d q := by
  induction d with
  | nil =>
    rw [List.nil_append, dget_cons]
    by_cases e : p = q
    · simp [e]
    · have e' : ¬ q = p := fun z => e z.symm
      simp [e, e', dget_nil]
  | cons r d ih =>
    obtain ⟨r, x⟩ := r
    rw [dget_cons] at h
    by_cases e : r = p
    · simp [e] at h
    · simp only [e, if_false] at h
      rw [List.cons_append, dget_cons, ih h, dget_cons]
      by_cases e2 : r = q
      · subst e2; simp [e]
      · simp [e2]
theorem dget_dput (d : List (α × Int)) (p : α) (v : Int) (q : α) : dget (dput d p v) q = if q = p then some v else dget d q := by
  unfold dput
  by_cases h : (d.any fun kv => decide (kv.1 = p)) = true
  · rw [if_pos h, dget_map]
    rw [dget_any] at h
    by_cases e : q = p
    · subst e
      cases e2 : dget d q with
      | none => rw [e2] at h; simp at h
      | some x => simp
    · simp [e]
  · rw [if_neg h]
    refine dget_snoc d p v q ?_
    rw [dget_any] at h
    cases e2 : dget d p with
    | none => rfl
    | some x => rw [e2] at h; simp at h
theorem dput_new {d : List (α × Int)} {p : α} (v : Int) (h : dget d p = none) : dput d p v = d ++ [(p, v)] := by
  unfold dput
  rw [if_neg]
  rw [dget_any, h]
  simp
theorem dget_ddrop (d : List (α × Int)) (p q : α) : dget (ddrop d p) q = if q = p then none else dget d q := by
  induction d with
  | nil => simp [ddrop, dget_nil]
  | cons r d ih =>
    obtain ⟨r, x⟩ := r
    unfold ddrop at ih ⊢
    rw [List.filter_cons]
    by_cases e : r = p
    · rw [if_neg (by simp [e]), ih, dget_cons]
      by_cases e2 : q = p
      · simp [e2]
      · simp [e2, show ¬ r = q from fun z => e2 (z.symm.trans e)]
    · rw [if_pos (by simp [e]), dget_cons, ih, dget_cons]
      by_cases e2 : r = q
      · subst e2; simp [e]
      · simp [e2]
theorem dget_mem {d : List (α × Int)} {p : α} {m : Int} (h : dget d p = some m) : (p, m) ∈ d := by
  unfold dget at h
  obtain ⟨kv, h1, h2⟩ := Option.map_eq_some_iff.mp h
  have h3 := List.mem_of_find?_eq_some h1
  have h4 := List.find?_some h1
  have h5 : kv.1 = p := by simpa using h4
  rw [← h5, ← h2]
  exact h3
theorem dget_none {d : List (α × Int)} {p : α} (h : dget d p = none) : ¬ p ∈ d.map (·.1) := by
  intro hm
  have h1 := dget_any p d
  rw [h] at h1
  obtain ⟨x, hx, e⟩ := List.mem_map.mp hm
  have h2 : (d.any fun kv => decide (kv.1 = p)) = true := List.any_eq_true.mpr ⟨x, hx, by simp [e]⟩
  rw [h2] at h1
  simp at h1
theorem dget_of_mem {d : List (α × Int)} {p : α} (h : p ∈ d.map (·.1)) : ∃ m, dget d p = some m := by
  cases e : dget d p with
  | none => exact absurd h (dget_none e)
  | some m => exact ⟨m, rfl⟩
/-- the keys stay different -/
theorem nodup_dput {d : List (α × Int)} (p : α) (v : Int) (h : (d.map (·.1)).Nodup) : ((dput d p v).map (·.1)).Nodup := by
  unfold dput
  by_cases e : (d.any fun kv => decide (kv.1 = p)) = true
  · rw [if_pos e, List.map_map]
    have e1 : (d.map ((fun x : α × Int => x.1) ∘ fun kv => if kv.1 = p then (kv.1, v) else kv)) = d.map (·.1) := by
      apply List.map_congr_left
      intro kv _
      show (if kv.1 = p then (kv.1, v) else kv).1 = kv.1
      split <;> rfl
    rw [e1]
    exact h
  · rw [if_neg e, List.map_append]
    rw [dget_any] at e
    have e2 : dget d p = none := by
      cases e2 : dget d p with
      | none => rfl
      | some x => rw [e2] at e; simp at e
    refine List.nodup_append.mpr ⟨h, by simp, ?_⟩
    intro a ha b hb
    have : b = p := by simpa using hb
    subst this
    intro z
    subst z
    exact dget_none e2 ha
theorem nodup_ddrop {d : List (α × Int)} (p : α) (h : (d.map (·.1)).Nodup) : ((ddrop d p).map (·.1)).Nodup := by
  unfold ddrop
  exact h.sublist ((List.filter_sublist).map _)
theorem mem_dget {d : List (α × Int)} (hn : (d.map (·.1)).Nodup) {p : α} {m : Int} (h : (p, m) ∈ d) : dget d p = some m := by
  induction d with
  | nil => simp at h
  | cons r d ih =>
    obtain ⟨r, x⟩ := r
    rw [dget_cons]
    rw [List.map_cons, List.nodup_cons] at hn
    rcases List.mem_cons.mp h with e | e
    · injection e with e1 e2
      subst e1 e2
      simp
    · have : r ≠ p := fun z => hn.1 (by subst z; exact List.mem_map.mpr ⟨_, e, rfl⟩)
      rw [if_neg this]
      exact ih hn.2 e
theorem dput_len (d : List (α × Int)) (p : α) (v : Int) : (dput d p v).length ≤ d.length + 1 := by
  unfold dput
  split
  · rw [List.length_map]; exact Nat.le_succ _
  · rw [List.length_append]; exact Nat.le_refl _
theorem dput_sub {d : List (α × Int)} {p : α} {v : Int} {P : α → Prop} (hd : ∀ kv ∈ d, P kv.1) (hp : P p) : ∀ kv ∈ dput d p v, P kv.1 := by
  unfold dput
  split
  · intro kv h
    obtain ⟨x, hx, e⟩ := List.mem_map.mp h
    subst e
    split
    · exact hd x hx
    · exact hd x hx
  · intro kv h
    rcases List.mem_append.mp h with h | h
    · exact hd kv h
    · have : kv = (p, v) := by simpa using h
      subst this
      exact hp

/-! ### the least minutes of rows -/
def lmStep (d : List (α × Int)) (r : α × Int) : List (α × Int) := dput d r.1 (if (dget d r.1).getD r.2 < r.2 then (dget d r.1).getD r.2 else r.2)
def lm (rows : List (α × Int)) : List (α × Int) := rows.foldl lmStep []
theorem lm_snoc (rows : List (α × Int)) (r : α × Int) : lm (rows ++ [r]) = lmStep (lm rows) r := by
  unfold lm
  rw [List.foldl_append]
  rfl
theorem lm_spec (rows : List (α × Int)) : (∀ p t, dget (lm rows) p = some t → (p, t) ∈ rows) ∧ (∀ p t, (p, t) ∈ rows → ∃ s, s ≤ t ∧ dget (lm rows) p = some s) := by
  have key : ∀ (l : List (α × Int)) (d pre : List (α × Int)), (∀ p t, dget d p = some t → (p, t) ∈ pre) → (∀ p t, (p, t) ∈ pre → ∃ s, s ≤ t ∧ dget d p = some s) →
      (∀ p t, dget (l.foldl lmStep d) p = some t → (p, t) ∈ pre ++ l) ∧ (∀ p t, (p, t) ∈ pre ++ l → ∃ s, s ≤ t ∧ dget (l.foldl lmStep d) p = some s) := by
    intro l
    induction l with
    | nil =>
      intro d pre h1 h2
      simpa using ⟨h1, h2⟩
    | cons r l ih =>
      intro d pre h1 h2
      obtain ⟨q, m⟩ := r
      rw [List.foldl_cons]
      have := ih (lmStep d (q, m)) (pre ++ [(q, m)]) ?_ ?_
      · simpa [List.append_assoc] using this
      · intro p t h
        unfold lmStep at h
        rw [dget_dput] at h
        by_cases e : p = q
        · subst e
          simp only [if_true, Option.some.injEq] at h
          cases e2 : dget d p with
          | none =>
            rw [e2] at h
            simp at h
            rw [← h]
            simp
          | some x =>
            rw [e2] at h
            simp only [Option.getD_some] at h
            split at h
            · rw [← h]
              exact List.mem_append_left _ (h1 p x e2)
            · rw [← h]
              simp
        · simp only [e, if_false] at h
          exact List.mem_append_left _ (h1 p t h)
      · intro p t h
        unfold lmStep
        rw [dget_dput]
        by_cases e : p = q
        · subst e
          simp only [if_true]
          refine ⟨_, ?_, rfl⟩
          rcases List.mem_append.mp h with h | h
          · obtain ⟨s, hs, e2⟩ := h2 p t h
            rw [e2]
            simp only [Option.getD_some]
            split <;> omega
          · have : t = m := by
              have e3 : (p, t) = (p, m) := by simpa using h
              injection e3
            subst this
            cases e2 : dget d p with
            | none => simp
            | some x =>
              simp only [Option.getD_some]
              split <;> omega
        · simp only [e, if_false]
          rcases List.mem_append.mp h with h | h
          · exact h2 p t h
          · have e3 : (p, t) = (q, m) := by simpa using h
            injection e3 with e4 _
            exact absurd e4 e
  have := key rows [] [] (by intro p t h; simp [dget_nil] at h) (by intro p t h; simp at h)
  simpa [lm] using this
theorem lm_nodup (rows : List (α × Int)) : ((lm rows).map (·.1)).Nodup := by
  unfold lm
  have key : ∀ (l d : List (α × Int)), (d.map (·.1)).Nodup → ((l.foldl lmStep d).map (·.1)).Nodup := by
    intro l
    induction l with
    | nil => intro d h; exact h
    | cons r l ih => intro d h; exact ih _ (nodup_dput _ _ h)
  exact key rows [] (by simp)
theorem lm_len (rows : List (α × Int)) : (lm rows).length ≤ rows.length := by
  unfold lm
  have key : ∀ (l d : List (α × Int)), (l.foldl lmStep d).length ≤ d.length + l.length := by
    intro l
    induction l with
    | nil => intro d; simp
    | cons r l ih =>
      intro d
      have h1 := ih (lmStep d r)
      have h2 : (lmStep d r).length ≤ d.length + 1 := dput_len _ _ _
      rw [List.foldl_cons, List.length_cons]
      omega
  simpa using key rows []

/-! ### breaks, edges -/
structure Edge (α : Type) where
  src : α
  dst : α
  c : Int → Option Int
/-- ahead of the break -/
def ahead (b : List (α × Int)) (p : α) (m : Int) : Bool := match dget b p with
  | none => true
  | some t => decide (m < t)
theorem ahead_le {b : List (α × Int)} {p : α} {m s : Int} (h : ahead b p m = true) (hs : s ≤ m) : ahead b p s = true := by
  unfold ahead at h ⊢
  cases e : dget b p with
  | none => rfl
  | some t =>
    rw [e] at h
    simp only [decide_eq_true_eq] at h ⊢
    omega
/-- further breaks -/
theorem ahead_more {rows more : List (α × Int)} {p : α} {m : Int} (h : ahead (lm (rows ++ more)) p m = true) : ahead (lm rows) p m = true := by
  unfold ahead at h ⊢
  cases e : dget (lm rows) p with
  | none => rfl
  | some t =>
    have h1 := (lm_spec rows).1 p t e
    obtain ⟨s, hs, e2⟩ := (lm_spec (rows ++ more)).2 p t (List.mem_append_left _ h1)
    rw [e2] at h
    simp only [decide_eq_true_eq] at h ⊢
    omega

/-! ### what bounds a fire, what it comes along -/
structure Closed (S b : List (α × Int)) (E : List (Edge α)) (d : α → Option Int) : Prop where
  st : ∀ p m, (p, m) ∈ S → ahead b p m = true → ∃ t, t ≤ m ∧ d p = some t
  ed : ∀ e ∈ E, ∀ m t, d e.src = some m → e.c m = some t → ahead b e.dst t = true → ∃ s, s ≤ t ∧ d e.dst = some s
/-- a place with a minute comes from a start or from an earlier place -/
def Comes (S : List (α × Int)) (E : List (Edge α)) (f : List (α × Int)) (p : α) (m : Int) : Prop :=
  (p, m) ∈ S ∨ ∃ e ∈ E, e.dst = p ∧ ∃ m', dget f e.src = some m' ∧ e.c m' = some m
inductive Supp (S b : List (α × Int)) (E : List (Edge α)) : List (α × Int) → Prop
  | nil : Supp S b E []
  | snoc {f : List (α × Int)} {p : α} {m : Int} : Supp S b E f → dget f p = none → ahead b p m = true → Comes S E f p m → Supp S b E (f ++ [(p, m)])
/-- of the edges: a later beginning is no gain -/
def Mono (E : List (Edge α)) : Prop := ∀ e ∈ E, ∀ m m' t', m ≤ m' → e.c m' = some t' → ∃ t, t ≤ t' ∧ e.c m = some t
/-- each edge of E' has one of E that is no slower -/
def Faster (E E' : List (Edge α)) : Prop := ∀ e' ∈ E', ∃ e ∈ E, e.src = e'.src ∧ e.dst = e'.dst ∧ ∀ m m' t', m ≤ m' → e'.c m' = some t' → ∃ t, t ≤ t' ∧ e.c m = some t
theorem Mono.faster {E : List (Edge α)} (h : Mono E) : Faster E E := fun e he => ⟨e, he, rfl, rfl, fun m m' t' => h e he m m' t'⟩
theorem compare {S b b' S' : List (α × Int)} {E E' : List (Edge α)} {d : α → Option Int} (C : Closed S b E d) (hS : ∀ x ∈ S', x ∈ S) (hb : ∀ p m, ahead b' p m = true → ahead b p m = true) (hE : Faster E E')
    {f : List (α × Int)} (h : Supp S' b' E' f) : ∀ p m', dget f p = some m' → ∃ m, m ≤ m' ∧ d p = some m := by
  induction h with
  | nil => intro p m' h; simp [dget_nil] at h
  | @snoc f p m hf hn ha hc ih =>
    intro q m' h
    rw [dget_snoc f p m q hn] at h
    by_cases e : q = p
    · subst e
      simp only [if_true, Option.some.injEq] at h
      subst h
      rcases hc with hc | ⟨e', he', ed, m1, h1, h2⟩
      · exact C.st q m (hS _ hc) (hb _ _ ha)
      · obtain ⟨m0, l0, d0⟩ := ih _ _ h1
        obtain ⟨e, he, es, ed2, ec⟩ := hE e' he'
        obtain ⟨t, lt, et⟩ := ec m0 m1 m l0 h2
        have dd : e.dst = q := ed2.trans ed
        obtain ⟨s, ls, ds⟩ := C.ed e he m0 t (by rw [es]; exact d0) et (by rw [dd]; exact ahead_le (hb _ _ ha) lt)
        exact ⟨s, by omega, by rw [← dd]; exact ds⟩
    · simp only [e, if_false] at h
      exact ih q m' h
theorem Supp.nodup {S b : List (α × Int)} {E : List (Edge α)} {f : List (α × Int)} (h : Supp S b E f) : (f.map (·.1)).Nodup := by
  induction h with
  | nil => simp
  | @snoc f p m hf hn ha hc ih =>
    rw [List.map_append]
    refine List.nodup_append.mpr ⟨ih, by simp, ?_⟩
    intro a hma b hmb z
    have e : b = p := by simpa using hmb
    rw [z, e] at hma
    exact dget_none hn hma
theorem Supp.places {S b : List (α × Int)} {E : List (Edge α)} {f : List (α × Int)} {P : List α} (h : Supp S b E f) (hS : ∀ x ∈ S, x.1 ∈ P) (hE : ∀ e ∈ E, e.dst ∈ P) : ∀ x ∈ f, x.1 ∈ P := by
  induction h with
  | nil => intro x hx; simp at hx
  | @snoc f p m hf hn ha hc ih =>
    intro x hx
    rcases List.mem_append.mp hx with hx | hx
    · exact ih x hx
    · have : x = (p, m) := by simpa using hx
      subst this
      rcases hc with hc | ⟨e, he, ed, _⟩
      · exact hS _ hc
      · show p ∈ P
        rw [← ed]
        exact hE e he
theorem nodup_len {P : List α} : ∀ {l : List α}, l.Nodup → (∀ x ∈ l, x ∈ P) → l.length ≤ P.length := by
  intro l
  induction l generalizing P with
  | nil => intro _ _; exact Nat.zero_le _
  | cons x l ih =>
    intro hn hs
    rw [List.nodup_cons] at hn
    have hx : x ∈ P := hs x List.mem_cons_self
    have h1 := ih (P := P.erase x) hn.2 (fun y hy => by
      have hy' : y ∈ P := hs y (List.mem_cons_of_mem _ hy)
      have hne : y ≠ x := fun z => hn.1 (z ▸ hy)
      exact (List.mem_erase_of_ne hne).mpr hy')
    rw [List.length_erase_of_mem hx] at h1
    have h2 : 0 < P.length := List.length_pos_of_mem hx
    rw [List.length_cons]
    omega
theorem Supp.len {S b : List (α × Int)} {E : List (Edge α)} {f : List (α × Int)} {P : List α} (h : Supp S b E f) (hS : ∀ x ∈ S, x.1 ∈ P) (hE : ∀ e ∈ E, e.dst ∈ P) : f.length ≤ P.length := by
  have h1 := nodup_len (P := P) h.nodup (fun x hx => by
    obtain ⟨y, hy, e⟩ := List.mem_map.mp hx
    rw [← e]
    exact h.places hS hE y hy)
  rw [List.length_map] at h1
  exact h1

/-! ### the program's search: the least of what waits -/
structure DInv (S b : List (α × Int)) (E : List (Edge α)) (w f : List (α × Int)) : Prop where
  nd : (w.map (·.1)).Nodup
  dis : ∀ p m, dget w p = some m → dget f p = none
  sup : ∀ p m, dget w p = some m → ahead b p m = true ∧ Comes S E f p m
  fsup : Supp S b E f
  st : ∀ p m, (p, m) ∈ S → ahead b p m = true → ∃ t, t ≤ m ∧ (dget f p = some t ∨ dget w p = some t)
  ed : ∀ e ∈ E, ∀ m t, dget f e.src = some m → e.c m = some t → ahead b e.dst t = true → ∃ s, s ≤ t ∧ (dget f e.dst = some s ∨ dget w e.dst = some s)
  le : ∀ p q m t, dget f p = some m → dget w q = some t → m ≤ t
/-- what a link does to what waits, when p was found at m -/
def relax (b f : List (α × Int)) (p : α) (m : Int) (w : List (α × Int)) (e : Edge α) : List (α × Int) :=
  if e.src = p ∧ dget f e.dst = none then (match e.c m with
    | none => w
    | some t => if ahead b e.dst t = true then dput w e.dst (if (dget w e.dst).getD t < t then (dget w e.dst).getD t else t) else w)
  else w
theorem relax_down (b f : List (α × Int)) (p : α) (m : Int) (w : List (α × Int)) (e : Edge α) (q : α) (x : Int) (h : dget w q = some x) : ∃ y, y ≤ x ∧ dget (relax b f p m w e) q = some y := by
  unfold relax
  split
  · cases ec : e.c m with
    | none => exact ⟨x, Int.le_refl _, h⟩
    | some t =>
      show ∃ y, y ≤ x ∧ dget (if ahead b e.dst t = true then dput w e.dst (if (dget w e.dst).getD t < t then (dget w e.dst).getD t else t) else w) q = some y
      split
      · rw [dget_dput]
        by_cases e2 : q = e.dst
        · subst e2
          rw [h]
          simp only [if_true, Option.getD_some]
          exact ⟨_, by split <;> omega, rfl⟩
        · simp only [e2, if_false]
          exact ⟨x, Int.le_refl _, h⟩
      · exact ⟨x, Int.le_refl _, h⟩
  · exact ⟨x, Int.le_refl _, h⟩
theorem relaxes_down (b f : List (α × Int)) (p : α) (m : Int) : ∀ (E : List (Edge α)) (w : List (α × Int)) (q : α) (x : Int), dget w q = some x → ∃ y, y ≤ x ∧ dget (E.foldl (relax b f p m) w) q = some y
  | [], w, q, x, h => ⟨x, Int.le_refl _, h⟩
  | e :: E, w, q, x, h => by
    obtain ⟨y, h1, h2⟩ := relax_down b f p m w e q x h
    obtain ⟨z, h3, h4⟩ := relaxes_down b f p m E _ q y h2
    exact ⟨z, by omega, h4⟩
/-- what waits behind the links: it waited before, or came by one of them -/
theorem relaxes_from (b f : List (α × Int)) (p : α) (m : Int) : ∀ (E : List (Edge α)) (w : List (α × Int)) (q : α) (y : Int), dget (E.foldl (relax b f p m) w) q = some y →
    dget w q = some y ∨ (dget f q = none ∧ ahead b q y = true ∧ ∃ e ∈ E, e.src = p ∧ e.dst = q ∧ e.c m = some y)
  | [], w, q, y, h => .inl h
  | e :: E, w, q, y, h => by
    rw [List.foldl_cons] at h
    rcases relaxes_from b f p m E _ q y h with h1 | ⟨h0, h1, e', h2, h3⟩
    · unfold relax at h1
      split at h1
      · rename_i hc
        cases ec : e.c m with
        | none =>
          rw [ec] at h1
          exact .inl h1
        | some t =>
          rw [ec] at h1
          have h1' : dget (if ahead b e.dst t = true then dput w e.dst (if (dget w e.dst).getD t < t then (dget w e.dst).getD t else t) else w) q = some y := h1
          split at h1'
          · rename_i ha
            rw [dget_dput] at h1'
            by_cases e2 : q = e.dst
            · subst e2
              simp only [if_true, Option.some.injEq] at h1'
              cases ew : dget w e.dst with
              | none =>
                rw [ew] at h1'
                simp at h1'
                subst h1'
                exact .inr ⟨hc.2, ha, e, List.mem_cons_self, hc.1, rfl, ec⟩
              | some x =>
                rw [ew] at h1'
                simp only [Option.getD_some] at h1'
                split at h1'
                · subst h1'
                  exact .inl rfl
                · subst h1'
                  exact .inr ⟨hc.2, ha, e, List.mem_cons_self, hc.1, rfl, ec⟩
            · simp only [e2, if_false] at h1'
              exact .inl h1'
          · exact .inl h1'
      · exact .inl h1
    · exact .inr ⟨h0, h1, e', List.mem_cons_of_mem _ h2, h3⟩
theorem relax_hit (b f : List (α × Int)) (p : α) (m : Int) (w : List (α × Int)) (e : Edge α) (t : Int) (h1 : e.src = p) (h2 : dget f e.dst = none) (h3 : e.c m = some t) (h4 : ahead b e.dst t = true) : ∃ s, s ≤ t ∧ dget (relax b f p m w e) e.dst = some s := by
  unfold relax
  rw [if_pos ⟨h1, h2⟩, h3]
  show ∃ s, s ≤ t ∧ dget (if ahead b e.dst t = true then dput w e.dst (if (dget w e.dst).getD t < t then (dget w e.dst).getD t else t) else w) e.dst = some s
  rw [if_pos h4, dget_dput, if_pos rfl]
  exact ⟨_, by split <;> omega, rfl⟩
theorem relaxes_hit (b f : List (α × Int)) (p : α) (m : Int) : ∀ (E : List (Edge α)) (w : List (α × Int)) (e : Edge α) (t : Int), e ∈ E → e.src = p → dget f e.dst = none → e.c m = some t → ahead b e.dst t = true →
    ∃ s, s ≤ t ∧ dget (E.foldl (relax b f p m) w) e.dst = some s
  | [], _, _, _, h, _, _, _, _ => by simp at h
  | e' :: E, w, e, t, h, h1, h2, h3, h4 => by
    rw [List.foldl_cons]
    rcases List.mem_cons.mp h with h | h
    · subst h
      obtain ⟨s, l1, l2⟩ := relax_hit b f p m w e t h1 h2 h3 h4
      obtain ⟨s2, l3, l4⟩ := relaxes_down b f p m E _ _ _ l2
      exact ⟨s2, by omega, l4⟩
    · exact relaxes_hit b f p m E _ e t h h1 h2 h3 h4
theorem relax_nodup (b f : List (α × Int)) (p : α) (m : Int) (w : List (α × Int)) (e : Edge α) (h : (w.map (·.1)).Nodup) : ((relax b f p m w e).map (·.1)).Nodup := by
  unfold relax
  split
  · cases e.c m with
    | none => exact h
    | some t =>
      show ((if ahead b e.dst t = true then dput w e.dst (if (dget w e.dst).getD t < t then (dget w e.dst).getD t else t) else w).map (·.1)).Nodup
      split
      · exact nodup_dput _ _ h
      · exact h
  · exact h
theorem relaxes_nodup (b f : List (α × Int)) (p : α) (m : Int) : ∀ (E : List (Edge α)) (w : List (α × Int)), (w.map (·.1)).Nodup → ((E.foldl (relax b f p m) w).map (·.1)).Nodup
  | [], _, h => h
  | e :: E, w, h => relaxes_nodup b f p m E _ (relax_nodup b f p m w e h)
theorem relax_len (b f : List (α × Int)) (p : α) (m : Int) (w : List (α × Int)) (e : Edge α) : (relax b f p m w e).length ≤ w.length + 1 := by
  unfold relax
  split
  · cases e.c m with
    | none => exact Nat.le_succ _
    | some t =>
      show (if ahead b e.dst t = true then dput w e.dst (if (dget w e.dst).getD t < t then (dget w e.dst).getD t else t) else w).length ≤ _
      split
      · exact dput_len _ _ _
      · exact Nat.le_succ _
  · exact Nat.le_succ _
/-- a fire's first minute is no earlier than its setting out -/
def Late (E : List (Edge α)) : Prop := ∀ e ∈ E, ∀ m t, e.c m = some t → m ≤ t
theorem Comes.snoc {S : List (α × Int)} {E : List (Edge α)} {f : List (α × Int)} {p q : α} {m x : Int} (hn : dget f p = none) (h : Comes S E f q x) : Comes S E (f ++ [(p, m)]) q x := by
  rcases h with h | ⟨e, he, ed, m', h1, h2⟩
  · exact .inl h
  · refine .inr ⟨e, he, ed, m', ?_, h2⟩
    rw [dget_snoc f p m _ hn, if_neg]
    · exact h1
    · intro z
      rw [z, hn] at h1
      cases h1
theorem DInv.step {S b : List (α × Int)} {E : List (Edge α)} {w f : List (α × Int)} (hl : Late E) (D : DInv S b E w f) {p : α} {m : Int} (hp : dget w p = some m) (hmin : ∀ q t, dget w q = some t → m ≤ t) :
    DInv S b E (E.foldl (relax b (f ++ [(p, m)]) p m) (ddrop w p)) (f ++ [(p, m)]) := by
  have hn := D.dis p m hp
  have gf : ∀ q, dget (f ++ [(p, m)]) q = if q = p then some m else dget f q := fun q => dget_snoc f p m q hn
  have gw : ∀ q, dget (ddrop w p) q = if q = p then none else dget w q := fun q => dget_ddrop w p q
  refine ⟨relaxes_nodup _ _ _ _ _ _ (nodup_ddrop p D.nd), ?_, ?_, ?_, ?_, ?_, ?_⟩
  · intro q y h
    rcases relaxes_from b _ p m E _ q y h with h1 | ⟨h0, _⟩
    · rw [gw] at h1
      by_cases e : q = p
      · simp [e] at h1
      · simp only [e, if_false] at h1
        rw [gf, if_neg e]
        exact D.dis q y h1
    · exact h0
  · intro q y h
    rcases relaxes_from b _ p m E _ q y h with h1 | ⟨h0, h1, e', h2, h3, h4, h5⟩
    · rw [gw] at h1
      by_cases e : q = p
      · simp [e] at h1
      · simp only [e, if_false] at h1
        exact ⟨(D.sup q y h1).1, (D.sup q y h1).2.snoc hn⟩
    · refine ⟨h1, .inr ⟨e', h2, h4, m, ?_, h5⟩⟩
      rw [gf, h3, if_pos rfl]
  · exact .snoc D.fsup hn (D.sup p m hp).1 (D.sup p m hp).2
  · intro q x hs ha
    obtain ⟨t, lt, h⟩ := D.st q x hs ha
    by_cases e : q = p
    · subst e
      rcases h with h | h
      · rw [hn] at h; cases h
      · rw [hp] at h
        injection h with h
        subst h
        exact ⟨m, lt, .inl (by rw [gf, if_pos rfl])⟩
    · rcases h with h | h
      · exact ⟨t, lt, .inl (by rw [gf, if_neg e]; exact h)⟩
      · obtain ⟨y, ly, hy⟩ := relaxes_down b (f ++ [(p, m)]) p m E (ddrop w p) q t (by rw [gw, if_neg e]; exact h)
        exact ⟨y, by omega, .inr hy⟩
  · intro e he x t h1 h2 ha
    rw [gf] at h1
    by_cases es : e.src = p
    · simp only [es, if_true, Option.some.injEq] at h1
      subst h1
      cases ed : dget (f ++ [(p, m)]) e.dst with
      | none =>
        obtain ⟨s, ls, hs⟩ := relaxes_hit b _ p m E (ddrop w p) e t he es ed h2 ha
        exact ⟨s, ls, .inr hs⟩
      | some y =>
        refine ⟨y, ?_, .inl rfl⟩
        have hmt := hl e he m t h2
        rw [gf] at ed
        by_cases e3 : e.dst = p
        · simp only [e3, if_true, Option.some.injEq] at ed
          omega
        · simp only [e3, if_false] at ed
          have := D.le _ _ _ _ ed hp
          omega
    · simp only [es, if_false] at h1
      obtain ⟨s, ls, h⟩ := D.ed e he x t h1 h2 ha
      by_cases e3 : e.dst = p
      · rcases h with h | h
        · rw [e3, hn] at h; cases h
        · rw [e3, hp] at h
          injection h with h
          subst h
          exact ⟨m, ls, .inl (by rw [gf, if_pos e3])⟩
      · rcases h with h | h
        · exact ⟨s, ls, .inl (by rw [gf, if_neg e3]; exact h)⟩
        · obtain ⟨y, ly, hy⟩ := relaxes_down b (f ++ [(p, m)]) p m E (ddrop w p) e.dst s (by rw [gw, if_neg e3]; exact h)
          exact ⟨y, by omega, .inr hy⟩
  · intro q r x t h1 h2
    have hx : x ≤ m := by
      rw [gf] at h1
      by_cases e : q = p
      · simp only [e, if_true, Option.some.injEq] at h1
        omega
      · simp only [e, if_false] at h1
        exact D.le _ _ _ _ h1 hp
    have ht : m ≤ t := by
      rcases relaxes_from b _ p m E _ r t h2 with h3 | ⟨_, _, e', h3, _, _, h5⟩
      · rw [gw] at h3
        by_cases e : r = p
        · simp [e] at h3
        · simp only [e, if_false] at h3
          exact hmin r t h3
      · exact hl e' h3 m t h5
    omega
/-- what waits at the beginning -/
def waitStep (b : List (α × Int)) (w : List (α × Int)) (r : α × Int) : List (α × Int) := if ahead b r.1 r.2 = true then dput w r.1 r.2 else w
def waits (b S : List (α × Int)) : List (α × Int) := (lm S).foldl (waitStep b) []
theorem waits_from (b : List (α × Int)) : ∀ (l w : List (α × Int)) (p : α) (m : Int), dget (l.foldl (waitStep b) w) p = some m → dget w p = some m ∨ ((p, m) ∈ l ∧ ahead b p m = true)
  | [], _, _, _, h => .inl h
  | r :: l, w, p, m, h => by
    rw [List.foldl_cons] at h
    rcases waits_from b l _ p m h with h1 | ⟨h1, h2⟩
    · unfold waitStep at h1
      split at h1
      · rename_i ha
        rw [dget_dput] at h1
        by_cases e : p = r.1
        · subst e
          simp only [if_true, Option.some.injEq] at h1
          subst h1
          exact .inr ⟨List.mem_cons_self, ha⟩
        · simp only [e, if_false] at h1
          exact .inl h1
      · exact .inl h1
    · exact .inr ⟨List.mem_cons_of_mem _ h1, h2⟩
theorem waits_to (b : List (α × Int)) : ∀ (l w : List (α × Int)), (l.map (·.1)).Nodup → ∀ (p : α) (m : Int), (p, m) ∈ l → ahead b p m = true → dget (l.foldl (waitStep b) w) p = some m
  | [], _, _, _, _, h, _ => by simp at h
  | r :: l, w, hn, p, m, h, ha => by
    rw [List.foldl_cons]
    rw [List.map_cons, List.nodup_cons] at hn
    rcases List.mem_cons.mp h with h | h
    · subst h
      have keep : ∀ (l w : List (α × Int)), ¬ p ∈ l.map (·.1) → dget (l.foldl (waitStep b) w) p = dget w p := by
        intro l
        induction l with
        | nil => intro w _; rfl
        | cons r l ih =>
          intro w hm
          rw [List.map_cons, List.mem_cons] at hm
          rw [List.foldl_cons, ih _ (fun z => hm (.inr z))]
          unfold waitStep
          split
          · rw [dget_dput, if_neg (fun z => hm (.inl z))]
          · rfl
      rw [keep l _ hn.1]
      unfold waitStep
      rw [if_pos ha, dget_dput, if_pos rfl]
    · exact waits_to b l _ hn.2 p m h ha
theorem waits_nodup (b : List (α × Int)) : ∀ (l w : List (α × Int)), (w.map (·.1)).Nodup → ((l.foldl (waitStep b) w).map (·.1)).Nodup
  | [], _, h => h
  | r :: l, w, h => by
    rw [List.foldl_cons]
    refine waits_nodup b l _ ?_
    unfold waitStep
    split
    · exact nodup_dput _ _ h
    · exact h
theorem DInv.start (S b : List (α × Int)) (E : List (Edge α)) : DInv S b E (waits b S) [] := by
  refine ⟨waits_nodup b _ _ (by simp), fun _ _ _ => rfl, ?_, .nil, ?_, ?_, ?_⟩
  · intro p m h
    rcases waits_from b _ _ p m h with h1 | ⟨h1, h2⟩
    · simp [dget_nil] at h1
    · exact ⟨h2, .inl ((lm_spec S).1 p m (mem_dget (lm_nodup S) h1))⟩
  · intro p m h ha
    obtain ⟨t, lt, e⟩ := (lm_spec S).2 p m h
    exact ⟨t, lt, .inr (waits_to b _ _ (lm_nodup S) p t (dget_mem e) (ahead_le ha lt))⟩
  · intro e _ m t h
    simp [dget_nil] at h
  · intro p q m t h
    simp [dget_nil] at h
/-- a fire, as the search leaves it -/
structure Cert (S b : List (α × Int)) (E : List (Edge α)) (f : List (α × Int)) : Prop where
  cl : Closed S b E (dget f)
  su : Supp S b E f
theorem DInv.cert {S b : List (α × Int)} {E : List (Edge α)} {f : List (α × Int)} (D : DInv S b E [] f) : Cert S b E f := by
  refine ⟨⟨fun p m h ha => ?_, fun e he m t h1 h2 ha => ?_⟩, D.fsup⟩
  · obtain ⟨t, lt, h⟩ := D.st p m h ha
    rcases h with h | h
    · exact ⟨t, lt, h⟩
    · simp [dget_nil] at h
  · obtain ⟨t, lt, h⟩ := D.ed e he m t h1 h2 ha
    rcases h with h | h
    · exact ⟨t, lt, h⟩
    · simp [dget_nil] at h

/-! ### the law's own fire: all links, as often as there are places -/
def bfPut (u : List (α × Int)) (p : α) (t : Int) : List (α × Int) := match dget u p with
  | none => dput u p t
  | some x => if t < x then dput u p t else u
def bfStart (b : List (α × Int)) (u : List (α × Int)) (r : α × Int) : List (α × Int) := if ahead b r.1 r.2 = true then bfPut u r.1 r.2 else u
def bfLink (b : List (α × Int)) (u : List (α × Int)) (e : Edge α) : List (α × Int) := match dget u e.src with
  | none => u
  | some m => (match e.c m with
    | none => u
    | some t => if ahead b e.dst t = true then bfPut u e.dst t else u)
def bfRound (b : List (α × Int)) (E : List (Edge α)) (u : List (α × Int)) : List (α × Int) := E.foldl (bfLink b) u
def bfRounds (b : List (α × Int)) (E : List (Edge α)) : Nat → List (α × Int) → List (α × Int)
  | 0, u => u
  | n + 1, u => bfRound b E (bfRounds b E n u)
def bf (S b : List (α × Int)) (E : List (Edge α)) (n : Nat) : List (α × Int) := bfRounds b E n (S.foldl (bfStart b) [])
theorem bfPut_get (u : List (α × Int)) (p : α) (t : Int) (q : α) : dget (bfPut u p t) q = dget u q ∨ (q = p ∧ dget (bfPut u p t) q = some t) := by
  unfold bfPut
  cases e : dget u p with
  | none =>
    show dget (dput u p t) q = dget u q ∨ (q = p ∧ dget (dput u p t) q = some t)
    rw [dget_dput]
    by_cases h : q = p
    · exact .inr ⟨h, by rw [if_pos h]⟩
    · exact .inl (by rw [if_neg h])
  | some x =>
    show dget (if t < x then dput u p t else u) q = dget u q ∨ (q = p ∧ dget (if t < x then dput u p t else u) q = some t)
    split
    · rw [dget_dput]
      by_cases h : q = p
      · exact .inr ⟨h, by rw [if_pos h]⟩
      · exact .inl (by rw [if_neg h])
    · exact .inl rfl
theorem bfPut_down (u : List (α × Int)) (p : α) (t : Int) (q : α) (x : Int) (h : dget u q = some x) : ∃ y, y ≤ x ∧ dget (bfPut u p t) q = some y := by
  unfold bfPut
  cases e : dget u p with
  | none =>
    show ∃ y, y ≤ x ∧ dget (dput u p t) q = some y
    rw [dget_dput, if_neg (fun z => by rw [z, e] at h; cases h)]
    exact ⟨x, Int.le_refl _, h⟩
  | some z =>
    show ∃ y, y ≤ x ∧ dget (if t < z then dput u p t else u) q = some y
    split
    · rw [dget_dput]
      by_cases h2 : q = p
      · subst h2
        rw [e] at h
        injection h with h
        subst h
        rw [if_pos rfl]
        exact ⟨t, by omega, rfl⟩
      · rw [if_neg h2]
        exact ⟨x, Int.le_refl _, h⟩
    · exact ⟨x, Int.le_refl _, h⟩
theorem bfPut_hit (u : List (α × Int)) (p : α) (t : Int) : ∃ y, y ≤ t ∧ dget (bfPut u p t) p = some y := by
  unfold bfPut
  cases e : dget u p with
  | none => exact ⟨t, Int.le_refl _, by show dget (dput u p t) p = some t; rw [dget_dput, if_pos rfl]⟩
  | some z =>
    show ∃ y, y ≤ t ∧ dget (if t < z then dput u p t else u) p = some y
    split
    · exact ⟨t, Int.le_refl _, by rw [dget_dput, if_pos rfl]⟩
    · exact ⟨z, by omega, e⟩
def Below (d : α → Option Int) (u : List (α × Int)) : Prop := ∀ p m', dget u p = some m' → ∃ m, m ≤ m' ∧ d p = some m
theorem bfPut_below {d : α → Option Int} {u : List (α × Int)} {p : α} {t : Int} (h : Below d u) (hp : ∃ m, m ≤ t ∧ d p = some m) : Below d (bfPut u p t) := by
  intro q m' hq
  rcases bfPut_get u p t q with e | ⟨e1, e2⟩
  · rw [e] at hq
    exact h q m' hq
  · rw [e2] at hq
    injection hq with hq
    subst hq
    rw [e1]
    exact hp
theorem bfLink_below {S b : List (α × Int)} {E : List (Edge α)} {d : α → Option Int} (C : Closed S b E d) (hm : Mono E) {u : List (α × Int)} (h : Below d u) {e : Edge α} (he : e ∈ E) : Below d (bfLink b u e) := by
  unfold bfLink
  cases e1 : dget u e.src with
  | none => exact h
  | some m =>
    dsimp only
    cases e2 : e.c m with
    | none => exact h
    | some t =>
      show Below d (if ahead b e.dst t = true then bfPut u e.dst t else u)
      split
      · rename_i ha
        obtain ⟨m0, l0, d0⟩ := h _ _ e1
        obtain ⟨t0, lt, c0⟩ := hm e he m0 m t l0 e2
        obtain ⟨s, ls, ds⟩ := C.ed e he m0 t0 d0 c0 (ahead_le ha lt)
        exact bfPut_below h ⟨s, by omega, ds⟩
      · exact h
theorem foldl_keep {β γ : Type} {g : β → γ → β} {I : β → Prop} : ∀ (l : List γ) (u : β), I u → (∀ u x, x ∈ l → I u → I (g u x)) → I (l.foldl g u)
  | [], _, h, _ => h
  | x :: l, u, h, k => foldl_keep l _ (k u x List.mem_cons_self h) fun u y hy => k u y (List.mem_cons_of_mem _ hy)
theorem bf_below {S b : List (α × Int)} {E : List (Edge α)} {d : α → Option Int} (C : Closed S b E d) (hm : Mono E) (n : Nat) : Below d (bf S b E n) := by
  unfold bf
  have h0 : Below d (S.foldl (bfStart b) []) := by
    refine foldl_keep S [] (by intro p m' h; simp [dget_nil] at h) fun u r hr h => ?_
    unfold bfStart
    split
    · rename_i ha
      exact bfPut_below h (C.st r.1 r.2 hr ha)
    · exact h
  induction n with
  | zero => exact h0
  | succ n ih =>
    show Below d (bfRound b E (bfRounds b E n (S.foldl (bfStart b) [])))
    unfold bfRound
    exact foldl_keep E _ ih fun u e he h => bfLink_below C hm h he
def Down (u v : List (α × Int)) : Prop := ∀ q x, dget u q = some x → ∃ y, y ≤ x ∧ dget v q = some y
theorem Down.refl (u : List (α × Int)) : Down u u := fun _ x h => ⟨x, Int.le_refl _, h⟩
theorem Down.trans {u v w : List (α × Int)} (a : Down u v) (b : Down v w) : Down u w := fun q x h => by
  obtain ⟨y, l1, e1⟩ := a q x h
  obtain ⟨z, l2, e2⟩ := b q y e1
  exact ⟨z, by omega, e2⟩
theorem bfLink_down (b u : List (α × Int)) (e : Edge α) : Down u (bfLink b u e) := by
  unfold bfLink
  cases e1 : dget u e.src with
  | none => exact .refl u
  | some m =>
    dsimp only
    cases e2 : e.c m with
    | none => exact .refl u
    | some t =>
      show Down u (if ahead b e.dst t = true then bfPut u e.dst t else u)
      split
      · exact fun q x h => bfPut_down u e.dst t q x h
      · exact .refl u
theorem bfStart_down (b u : List (α × Int)) (r : α × Int) : Down u (bfStart b u r) := by
  unfold bfStart
  split
  · exact fun q x h => bfPut_down u r.1 r.2 q x h
  · exact .refl u
theorem foldl_down {γ : Type} {g : List (α × Int) → γ → List (α × Int)} (hg : ∀ u x, Down u (g u x)) : ∀ (l : List γ) (u : List (α × Int)), Down u (l.foldl g u)
  | [], u => .refl u
  | x :: l, u => (hg u x).trans (foldl_down hg l _)
theorem bfRound_hit {b : List (α × Int)} {E : List (Edge α)} (hm : Mono E) : ∀ (E1 : List (Edge α)) (u : List (α × Int)) (e : Edge α), (∀ e ∈ E1, e ∈ E) → e ∈ E1 → ∀ (m' m x : Int), dget u e.src = some x → x ≤ m' → e.c m' = some m → ahead b e.dst m = true →
    ∃ y, y ≤ m ∧ dget (E1.foldl (bfLink b) u) e.dst = some y
  | [], _, _, _, h, _, _, _, _, _, _, _ => by simp at h
  | e' :: E1, u, e, hs, h, m', m, x, h1, h2, h3, h4 => by
    rw [List.foldl_cons]
    rcases List.mem_cons.mp h with h | h
    · subst h
      obtain ⟨t, lt, et⟩ := hm e (hs e List.mem_cons_self) x m' m h2 h3
      have : ∃ y, y ≤ m ∧ dget (bfLink b u e) e.dst = some y := by
        unfold bfLink
        rw [h1]
        show ∃ y, y ≤ m ∧ dget (match e.c x with | none => u | some t => if ahead b e.dst t = true then bfPut u e.dst t else u) e.dst = some y
        rw [et]
        show ∃ y, y ≤ m ∧ dget (if ahead b e.dst t = true then bfPut u e.dst t else u) e.dst = some y
        rw [if_pos (ahead_le h4 lt)]
        obtain ⟨y, ly, ey⟩ := bfPut_hit u e.dst t
        exact ⟨y, by omega, ey⟩
      obtain ⟨y, ly, ey⟩ := this
      obtain ⟨z, lz, ez⟩ := foldl_down (bfLink_down b) E1 _ _ _ ey
      exact ⟨z, by omega, ez⟩
    · obtain ⟨y, ly, ey⟩ := bfLink_down b u e' _ _ h1
      exact bfRound_hit hm E1 _ e (fun z hz => hs z (List.mem_cons_of_mem _ hz)) h m' m y ey (by omega) h3 h4
theorem bfStarts_hit (b : List (α × Int)) : ∀ (l u : List (α × Int)) (p : α) (m : Int), (p, m) ∈ l → ahead b p m = true → ∃ y, y ≤ m ∧ dget (l.foldl (bfStart b) u) p = some y
  | [], _, _, _, h, _ => by simp at h
  | r :: l, u, p, m, h, ha => by
    rw [List.foldl_cons]
    rcases List.mem_cons.mp h with h | h
    · subst h
      obtain ⟨y, ly, ey⟩ := bfPut_hit u p m
      have e1 : bfStart b u (p, m) = bfPut u p m := by unfold bfStart; rw [if_pos ha]
      rw [e1]
      obtain ⟨z, lz, ez⟩ := foldl_down (bfStart_down b) l _ _ _ ey
      exact ⟨z, by omega, ez⟩
    · exact bfStarts_hit b l _ p m h ha
theorem bfRounds_down {b : List (α × Int)} {E : List (Edge α)} : ∀ (n : Nat) (u : List (α × Int)), Down u (bfRounds b E n u)
  | 0, u => .refl u
  | n + 1, u => (bfRounds_down n u).trans (foldl_down (bfLink_down b) E _)
/-- behind as many rounds as the chain is long, each of its places is found as early -/
theorem bf_chain {S b : List (α × Int)} {E : List (Edge α)} (hm : Mono E) {f : List (α × Int)} (h : Supp S b E f) : ∀ (n : Nat), f.length ≤ n → ∀ p m, dget f p = some m → ∃ y, y ≤ m ∧ dget (bf S b E n) p = some y := by
  induction h with
  | nil => intro n _ p m h; simp [dget_nil] at h
  | @snoc f p m hf hn ha hc ih =>
    intro n hlen q x hq
    rw [List.length_append] at hlen
    have hlen' : f.length + 1 ≤ n := hlen
    obtain ⟨k, rfl⟩ : ∃ k, n = k + 1 := ⟨n - 1, by omega⟩
    rw [dget_snoc f p m q hn] at hq
    by_cases e : q = p
    · subst e
      simp only [if_true, Option.some.injEq] at hq
      subst hq
      rcases hc with hc | ⟨e', he', ed, m1, h1, h2⟩
      · obtain ⟨y, ly, ey⟩ := bfStarts_hit b S [] q m hc ha
        obtain ⟨z, lz, ez⟩ := bfRounds_down (b := b) (E := E) (k + 1) _ _ _ ey
        exact ⟨z, by omega, ez⟩
      · obtain ⟨y, ly, ey⟩ := ih k (by omega) _ _ h1
        have := bfRound_hit (b := b) hm E (bf S b E k) e' (fun _ h => h) he' m1 m y ey ly h2 (by rw [ed]; exact ha)
        rw [ed] at this
        exact this
    · simp only [e, if_false] at hq
      exact ih (k + 1) (by omega) q x hq
/-- the two fires are one -/
theorem bf_eq {S b : List (α × Int)} {E : List (Edge α)} (hm : Mono E) {f : List (α × Int)} (C : Cert S b E f) {n : Nat} (hn : f.length ≤ n) (p : α) : dget (bf S b E n) p = dget f p := by
  have h1 := bf_below C.cl hm n
  cases e : dget f p with
  | none =>
    cases e2 : dget (bf S b E n) p with
    | none => rfl
    | some x =>
      obtain ⟨m, _, e3⟩ := h1 p x e2
      rw [e] at e3
      cases e3
  | some m =>
    obtain ⟨y, ly, ey⟩ := bf_chain hm C.su n hn p m e
    obtain ⟨z, lz, ez⟩ := h1 p y ey
    rw [e] at ez
    injection ez with ez
    rw [ey]
    congr 1
    omega
end
end Ef

/-! The text by places, the defs as data, the facts of the head. -/
namespace Ef
open PySem PySem.Spec PyProof.Rows L2
def topS (i : Nat) : Stmt := PySem.Challenge.pw_everyfire_k39_whole_kept_goals.main.body.getD i (.Pass ⟨0, 0, 0, 0⟩)

abbrev s_check_places : Stmt := topS 8
abbrev s_check_winds : Stmt := topS 12
abbrev s_check_changes : Stmt := topS 13
abbrev s_blowing : Stmt := topS 14
abbrev s_chances : Stmt := topS 15
abbrev s_least_numbers : Stmt := topS 17
abbrev s_is_number : Stmt := topS 18
abbrev s_check_numbers : Stmt := topS 19
abbrev s_check_rows : Stmt := topS 20
abbrev s_least_minutes : Stmt := topS 21
abbrev s_caught : Stmt := topS 22
abbrev s_spread : Stmt := topS 23
abbrev s_check_fire : Stmt := topS 24
abbrev s_told : Stmt := topS 25
abbrev s_burning : Stmt := topS 26
abbrev s_fastest : Stmt := topS 27
abbrev s_never_burn : Stmt := topS 29
abbrev s_check_question : Stmt := topS 30
abbrev s_keeps : Stmt := topS 31
abbrev s_is_name : Stmt := topS 40
abbrev s_are_different : Stmt := topS 41
abbrev s_require : Stmt := topS 42
abbrev s_checked_times : Stmt := topS 43
abbrev s_Land_init : Stmt := inClass (topS 44) 0
abbrev s_Land_are_ends : Stmt := inClass (topS 44) 1
abbrev s_Land_checked_link : Stmt := inClass (topS 44) 2
abbrev s_Land_checked_path : Stmt := inClass (topS 44) 3
abbrev s_Land_link_names : Stmt := inClass (topS 44) 4
abbrev s_Land_check_place : Stmt := inClass (topS 44) 5
abbrev s_Land_check_wind : Stmt := inClass (topS 44) 6
abbrev s_law_row : Stmt := topS 46
abbrev s_law_numbers : Stmt := topS 47
abbrev s_law_parts : Stmt := topS 48
abbrev s_law_weather : Stmt := topS 49
abbrev s_law_wind : Stmt := topS 50
abbrev s_law_caught : Stmt := topS 51
abbrev s_law_fire : Stmt := topS 52
abbrev s_law_rows : Stmt := topS 53
abbrev s_law_names : Stmt := topS 54
abbrev s_law_made : Stmt := topS 55
abbrev s_law_some : Stmt := topS 56
abbrev s_law_told : Stmt := topS 57
abbrev s_law_kept : Stmt := topS 58
abbrev s_law_between : Stmt := topS 59
abbrev s_law : Stmt := topS 60

/-- the getter of a property -/
def propA (K : PySem.W.Frag) (C f : Str) : Addr := He.ma K (He.ga K C) f
def getter (K : PySem.W.Frag) (C f : Str) : Addr := match PySem.W.recIn K (propA K C f) "property" with
  | some (.ref g :: _) => g
  | _ => 0
def propB (K : PySem.W.Frag) (C f : Str) : Bool := He.eqO (PySem.W.findIn K (.ref (He.ga K C)) f) (some (some (.ref (propA K C f)))) &&
  (He.eqO (PySem.W.specialIn K (.ref (propA K C f)) "__get__") (some (some (.builtin "property.__get__"))) && (decide (PySem.W.takesIn K (.ref (propA K C f)) = some true) && (match PySem.W.recIn K (propA K C f) "property" with
  | some (.ref _ :: _) => true
  | _ => false)))
theorem propB_ok {K : PySem.W.Frag} {C f : Str} (h : propB K C f = true) : PropOf K (He.ga K C) f (propA K C f) (getter K C f) := by
  obtain ⟨h1, h⟩ := He.ba h
  obtain ⟨h2, h⟩ := He.ba h
  obtain ⟨h3, h4⟩ := He.ba h
  refine ⟨He.eqO_ok h1, He.eqO_ok h2, of_decide_eq_true h3, ?_⟩
  unfold getter
  split at h4
  · rename_i g r e
    exact ⟨r, by rw [e]⟩
  · cases h4

def d_check_places : He5.DefA := ⟨fun K => He.fAd K ("check_places", none), "check_places", "check_places", defArgs s_check_places, defBody s_check_places, defScope s_check_places, [], []⟩
def d_check_winds : He5.DefA := ⟨fun K => He.fAd K ("check_winds", none), "check_winds", "check_winds", defArgs s_check_winds, defBody s_check_winds, defScope s_check_winds, [], []⟩
def d_check_changes : He5.DefA := ⟨fun K => He.fAd K ("check_changes", none), "check_changes", "check_changes", defArgs s_check_changes, defBody s_check_changes, defScope s_check_changes, [], []⟩
def d_blowing : He5.DefA := ⟨fun K => He.fAd K ("blowing", none), "blowing", "blowing", defArgs s_blowing, defBody s_blowing, defScope s_blowing, [], []⟩
def d_chances : He5.DefA := ⟨fun K => He.fAd K ("chances", none), "chances", "chances", defArgs s_chances, defBody s_chances, defScope s_chances, [], []⟩
def d_least_numbers : He5.DefA := ⟨fun K => He.fAd K ("least_numbers", none), "least_numbers", "least_numbers", defArgs s_least_numbers, defBody s_least_numbers, defScope s_least_numbers, [], []⟩
def d_is_number : He5.DefA := ⟨fun K => He.fAd K ("is_number", none), "is_number", "is_number", defArgs s_is_number, defBody s_is_number, defScope s_is_number, [], []⟩
def d_check_numbers : He5.DefA := ⟨fun K => He.fAd K ("check_numbers", none), "check_numbers", "check_numbers", defArgs s_check_numbers, defBody s_check_numbers, defScope s_check_numbers, [], []⟩
def d_check_rows : He5.DefA := ⟨fun K => He.fAd K ("check_rows", none), "check_rows", "check_rows", defArgs s_check_rows, defBody s_check_rows, defScope s_check_rows, [], []⟩
def d_least_minutes : He5.DefA := ⟨fun K => He.fAd K ("least_minutes", none), "least_minutes", "least_minutes", defArgs s_least_minutes, defBody s_least_minutes, defScope s_least_minutes, [], []⟩
def d_caught : He5.DefA := ⟨fun K => He.fAd K ("caught", none), "caught", "caught", defArgs s_caught, defBody s_caught, defScope s_caught, [], []⟩
def d_spread : He5.DefA := ⟨fun K => He.fAd K ("spread", none), "spread", "spread", defArgs s_spread, defBody s_spread, defScope s_spread, [], []⟩
def d_check_fire : He5.DefA := ⟨fun K => He.fAd K ("check_fire", none), "check_fire", "check_fire", defArgs s_check_fire, defBody s_check_fire, defScope s_check_fire, [], []⟩
def d_told : He5.DefA := ⟨fun K => He.fAd K ("told", none), "told", "told", defArgs s_told, defBody s_told, defScope s_told, [], []⟩
def d_burning : He5.DefA := ⟨fun K => He.fAd K ("burning", none), "burning", "burning", defArgs s_burning, defBody s_burning, defScope s_burning, [], []⟩
def d_fastest : He5.DefA := ⟨fun K => He.fAd K ("fastest", none), "fastest", "fastest", defArgs s_fastest, defBody s_fastest, defScope s_fastest, [], []⟩
def d_never_burn : He5.DefA := ⟨fun K => He.fAd K ("never_burn", none), "never_burn", "never_burn", defArgs s_never_burn, defBody s_never_burn, defScope s_never_burn, [], []⟩
def d_check_question : He5.DefA := ⟨fun K => He.fAd K ("check_question", none), "check_question", "check_question", defArgs s_check_question, defBody s_check_question, defScope s_check_question, [], []⟩
def d_keeps : He5.DefA := ⟨fun K => He.fAd K ("keeps", none), "keeps", "keeps", defArgs s_keeps, defBody s_keeps, defScope s_keeps, [], []⟩
def d_is_name : He5.DefA := ⟨fun K => He.fAd K ("is_name", none), "is_name", "is_name", defArgs s_is_name, defBody s_is_name, defScope s_is_name, [], []⟩
def d_are_different : He5.DefA := ⟨fun K => He.fAd K ("are_different", none), "are_different", "are_different", defArgs s_are_different, defBody s_are_different, defScope s_are_different, [], []⟩
def d_require : He5.DefA := ⟨fun K => He.fAd K ("require", none), "require", "require", defArgs s_require, defBody s_require, defScope s_require, [], []⟩
def d_checked_times : He5.DefA := ⟨fun K => He.fAd K ("checked_times", none), "checked_times", "checked_times", defArgs s_checked_times, defBody s_checked_times, defScope s_checked_times, [], []⟩
def d_Land_init : He5.DefA := ⟨fun K => He.fAd K ("Land", some "__init__"), "__init__", "Land.__init__", defArgs s_Land_init, defBody s_Land_init, defScope s_Land_init, [], []⟩
def d_Land_are_ends : He5.DefA := ⟨fun K => He.fAd K ("Land", some "are_ends"), "are_ends", "Land.are_ends", defArgs s_Land_are_ends, defBody s_Land_are_ends, defScope s_Land_are_ends, [], []⟩
def d_Land_checked_link : He5.DefA := ⟨fun K => He.fAd K ("Land", some "checked_link"), "checked_link", "Land.checked_link", defArgs s_Land_checked_link, defBody s_Land_checked_link, defScope s_Land_checked_link, [], []⟩
def d_Land_checked_path : He5.DefA := ⟨fun K => He.fAd K ("Land", some "checked_path"), "checked_path", "Land.checked_path", defArgs s_Land_checked_path, defBody s_Land_checked_path, defScope s_Land_checked_path, [], []⟩
def d_Land_link_names : He5.DefA := ⟨fun K => getter K "Land" "link_names", "link_names", "Land.link_names", defArgs s_Land_link_names, defBody s_Land_link_names, defScope s_Land_link_names, [], []⟩
def d_Land_check_place : He5.DefA := ⟨fun K => He.fAd K ("Land", some "check_place"), "check_place", "Land.check_place", defArgs s_Land_check_place, defBody s_Land_check_place, defScope s_Land_check_place, [], []⟩
def d_Land_check_wind : He5.DefA := ⟨fun K => He.fAd K ("Land", some "check_wind"), "check_wind", "Land.check_wind", defArgs s_Land_check_wind, defBody s_Land_check_wind, defScope s_Land_check_wind, [], []⟩
def d_law_row : He5.DefA := ⟨fun K => He.fAd K ("_law_row", none), "_law_row", "_law_row", defArgs s_law_row, defBody s_law_row, defScope s_law_row, [], []⟩
def d_law_numbers : He5.DefA := ⟨fun K => He.fAd K ("_law_numbers", none), "_law_numbers", "_law_numbers", defArgs s_law_numbers, defBody s_law_numbers, defScope s_law_numbers, [], []⟩
def d_law_parts : He5.DefA := ⟨fun K => He.fAd K ("_law_parts", none), "_law_parts", "_law_parts", defArgs s_law_parts, defBody s_law_parts, defScope s_law_parts, [], []⟩
def d_law_weather : He5.DefA := ⟨fun K => He.fAd K ("_law_weather", none), "_law_weather", "_law_weather", defArgs s_law_weather, defBody s_law_weather, defScope s_law_weather, [], []⟩
def d_law_wind : He5.DefA := ⟨fun K => He.fAd K ("_law_wind", none), "_law_wind", "_law_wind", defArgs s_law_wind, defBody s_law_wind, defScope s_law_wind, [], []⟩
def d_law_caught : He5.DefA := ⟨fun K => He.fAd K ("_law_caught", none), "_law_caught", "_law_caught", defArgs s_law_caught, defBody s_law_caught, defScope s_law_caught, [], []⟩
def d_law_fire : He5.DefA := ⟨fun K => He.fAd K ("_law_fire", none), "_law_fire", "_law_fire", defArgs s_law_fire, defBody s_law_fire, defScope s_law_fire, [], []⟩
def d_law_rows : He5.DefA := ⟨fun K => He.fAd K ("_law_rows", none), "_law_rows", "_law_rows", defArgs s_law_rows, defBody s_law_rows, defScope s_law_rows, [], []⟩
def d_law_names : He5.DefA := ⟨fun K => He.fAd K ("_law_names", none), "_law_names", "_law_names", defArgs s_law_names, defBody s_law_names, defScope s_law_names, [], []⟩
def d_law_made : He5.DefA := ⟨fun K => He.fAd K ("_law_made", none), "_law_made", "_law_made", defArgs s_law_made, defBody s_law_made, defScope s_law_made, [], []⟩
def d_law_some : He5.DefA := ⟨fun K => He.fAd K ("_law_some", none), "_law_some", "_law_some", defArgs s_law_some, defBody s_law_some, defScope s_law_some, [], []⟩
def d_law_told : He5.DefA := ⟨fun K => He.fAd K ("_law_told", none), "_law_told", "_law_told", defArgs s_law_told, defBody s_law_told, defScope s_law_told, [], []⟩
def d_law_kept : He5.DefA := ⟨fun K => He.fAd K ("_law_kept", none), "_law_kept", "_law_kept", defArgs s_law_kept, defBody s_law_kept, defScope s_law_kept, [], []⟩
def d_law_between : He5.DefA := ⟨fun K => He.fAd K ("_law_between", none), "_law_between", "_law_between", defArgs s_law_between, defBody s_law_between, defScope s_law_between, [], []⟩
def d_law : He5.DefA := ⟨fun K => He.fAd K ("law", none), "law", "law", defArgs s_law, defBody s_law, defScope s_law, [], []⟩
def fn : List He5.DefA := [d_check_places, d_check_winds, d_check_changes, d_blowing, d_chances, d_least_numbers, d_is_number, d_check_numbers, d_check_rows, d_least_minutes, d_caught, d_spread, d_check_fire, d_told, d_burning, d_fastest, d_never_burn, d_check_question, d_keeps, d_is_name, d_are_different, d_require, d_checked_times, d_Land_init, d_Land_are_ends, d_Land_checked_link, d_Land_checked_path, d_Land_link_names, d_Land_check_place, d_Land_check_wind, d_law_row, d_law_numbers, d_law_parts, d_law_weather, d_law_wind, d_law_caught, d_law_fire, d_law_rows, d_law_names, d_law_made, d_law_some, d_law_told, d_law_kept, d_law_between, d_law]
def fa : List He.Fa := [.glo "check_places", .glo "check_winds", .glo "check_changes", .glo "blowing", .glo "chances", .glo "least_numbers", .glo "is_number", .glo "check_numbers", .glo "check_rows", .glo "least_minutes", .glo "caught", .glo "spread", .glo "check_fire", .glo "told", .glo "burning", .glo "fastest", .glo "never_burn", .glo "check_question", .glo "keeps", .glo "is_name", .glo "are_different", .glo "require", .glo "checked_times", .glo "_law_row", .glo "_law_numbers", .glo "_law_parts", .glo "_law_weather", .glo "_law_wind", .glo "_law_caught", .glo "_law_fire", .glo "_law_rows", .glo "_law_names", .glo "_law_made", .glo "_law_some", .glo "_law_told", .glo "_law_kept", .glo "_law_between", .glo "law", .glo "Land", .cls "Land", .mkr "Land", .meth "Land" "are_ends", .meth "Land" "checked_link", .meth "Land" "checked_path", .meth "Land" "check_place", .meth "Land" "check_wind", .noat "Land" "winds", .noat "Land" "places", .noat "Land" "links", .noat "Land" "paths", .free "len", .free "min", .free "max", .free "abs", .free "int", .free "any", .free "all", .free "zip", .free "enumerate", .free "range", .free "tuple", .free "list", .free "dict", .free "sorted", .free "isinstance", .free "bool", .int "MOST_CHANGES" 40, .int "MOST_MINUTE" 100000, .int "MOST_NAME_CHARS" 12, .int "MOST_WINDS" 4, .int "MOST_PLACES" 24, .int "MOST_LINKS" 60, .int "MOST_PATHS" 60, .int "MOST_MINUTES" 1000, .str "NAME_CHARS" "abcdefghijklmnopqrstuvwxyz0123456789"]
def loose : List Str := ([("_wall" : Str), ("EveryfireError" : Str), ("InvalidLand" : Str), ("UnknownName" : Str), ("InvalidWeather" : Str), ("InvalidQuestion" : Str), ("check_places" : Str), ("MOST_CHANGES" : Str), ("MOST_MINUTE" : Str), ("check_winds" : Str), ("check_changes" : Str), ("blowing" : Str), ("chances" : Str), ("least_numbers" : Str), ("is_number" : Str), ("check_numbers" : Str), ("check_rows" : Str), ("least_minutes" : Str), ("caught" : Str), ("spread" : Str), ("check_fire" : Str), ("told" : Str), ("burning" : Str), ("fastest" : Str), ("never_burn" : Str), ("check_question" : Str), ("keeps" : Str), ("NAME_CHARS" : Str), ("MOST_NAME_CHARS" : Str), ("MOST_WINDS" : Str), ("MOST_PLACES" : Str), ("MOST_LINKS" : Str), ("MOST_PATHS" : Str), ("MOST_MINUTES" : Str), ("is_name" : Str)] : List Str) ++ ([("are_different" : Str), ("require" : Str), ("checked_times" : Str), ("Land" : Str), ("_law_row" : Str), ("_law_numbers" : Str), ("_law_parts" : Str), ("_law_weather" : Str), ("_law_wind" : Str), ("_law_caught" : Str), ("_law_fire" : Str), ("_law_rows" : Str), ("_law_names" : Str), ("_law_made" : Str), ("_law_some" : Str), ("_law_told" : Str), ("_law_kept" : Str), ("_law_between" : Str)] : List Str)

/-! the Hook: the facts, the property -/
def obsZ (K : PySem.W.Frag) : He.AlD := ((fa.all fun f => f.ok K) && ((fn.all fun d => d.ok K) && propB K "Land" "link_names"), fn.map fun d => He5.fnA K (d.at_ K))
def valZ : He.AlD := (true, fn.map He5.DefA.val)
def SaysZ (K : PySem.W.Frag) : Prop := obsZ K = valZ
def obsZG (g : Addr → Option Obj) : He.AlD := obsZ (He.frG g (He.asD g 5))
def hookZ : PySem.W.Hook where
  α := He.AlD
  obs := fun s => obsZG s.heap.get?
  val := fun _ => valZ
  says := fun _ h => ∃ K : PySem.W.Frag, K.In h ∧ SaysZ K
  of := fun _ _ e => ⟨_, He.frG_in, e⟩
  keeps := fun _ _ _ ⟨K, hK, c⟩ k => ⟨K, PySem.W.Frag.In.keeps hK k, c⟩
theorem obsZG_eq {g : Addr → Option Obj} {s : Shared} (h : ∀ a, g a = s.heap.get? a) : obsZG g = hookZ.obs s := by
  have e : g = s.heap.get? := funext h
  rw [e] <;> rfl
abbrev R : PySem.W.OpenRow := PySem.W.OpenLaw.row PySem.Challenge.rw_everyfire_k39_whole_kept_goals
def ob (s : PySem.W.SharedT) : He.AlD := obsZG (HandSHeadRun.getT s)
theorem ob_eq (s : PySem.W.SharedT) : ob s = hookZ.obs s.abs := obsZG_eq (HandSHeadRun.getT_eq s)
section
variable {K : PySem.W.Frag}
theorem SaysZ.a (c : SaysZ K) : (fa.all fun f => f.ok K) = true := (He.ba (show ((fa.all fun f => f.ok K) && ((fn.all fun d => d.ok K) && propB K "Land" "link_names")) = true from congrArg (fun z : He.AlD => z.1) c)).1
theorem SaysZ.b (c : SaysZ K) : ((fn.all fun d => d.ok K) && propB K "Land" "link_names") = true := (He.ba (show ((fa.all fun f => f.ok K) && ((fn.all fun d => d.ok K) && propB K "Land" "link_names")) = true from congrArg (fun z : He.AlD => z.1) c)).2
theorem SaysZ.fact (c : SaysZ K) (i : Nat) {f : He.Fa} (h : fa[i]? = some f := by rfl) : f.ok K = true := List.all_eq_true.mp c.a f (List.mem_of_getElem? h)
theorem SaysZ.prop (c : SaysZ K) : PropOf K (He.ga K "Land") "link_names" (propA K "Land" "link_names") (getter K "Land" "link_names") := propB_ok (He.ba c.b).2
theorem SaysZ.def_ (c : SaysZ K) (i : Nat) {d : He5.DefA} (h : fn[i]? = some d := by rfl) : ∃ fd, FunD K d.name d.qual d.params d.body d.scope (d.dvs K) (d.kws K) (d.at_ K) fd := by
  have c2 := (He.ba c.b).1
  have e : fn.map (fun d => He5.fnA K (d.at_ K)) = fn.map He5.DefA.val := congrArg (fun z : He.AlD => z.2) c
  have e2 : (fn.map fun d => He5.fnA K (d.at_ K))[i]? = (fn.map He5.DefA.val)[i]? := by rw [e]
  rw [List.getElem?_map, List.getElem?_map, h] at e2
  exact He5.DefA.funD (Option.some.inj e2) (List.all_eq_true.mp c2 d (List.mem_of_getElem? h))
end
end Ef

/-! Rules that the hand layer lacks: min of data, min with default=, sorted of a tuple of texts, enumerate over a tuple, a chain of three comparisons, a dict locked as a value. -/
namespace PySem
open Sem (wp)
set_option maxHeartbeats 4000000 in
theorem ef_enumerate_new {v : Value} {o : Obj} {H : Heap → Prop} (B : Begins v o H) :
    Meets (Builtin.«enumerate.__new__» ⟨[.type "enumerate", v], []⟩) (fun _ R s => H s.heap ∧
      R (.ok (.ret (.ref (s.heap.push o).objs.size))) { s with heap := (s.heap.push o).push { cls := .type "enumerate", data := .fields #[.none, .bool false, .ref s.heap.objs.size, rawInt 0, .none, .none] } }) :=
  .of_wp fun prog w A R s h => by
    obtain ⟨hp, g, d, tk, os⟩ := s; obtain ⟨h1, h⟩ := h
    have hsub := sub_enumerate
    have q1 : ∀ {A' : Around} {E : Value → Shared → Prop} {Q : Value → Shared → Prop}, Q (.ref hp.objs.size) ⟨hp.push o, g, d, tk, os⟩ → wpAny (model prog w) A' (pyIter v) Q E ⟨hp, g, d, tk, os⟩ :=
      fun q => B.iter prog w _ _ ⟨hp, g, d, tk, os⟩ _ h1 q
    wp_walk using q1
    refine wpAny_stack_any fun st => wpAny_pure ?_
    split
    · rename_i c _ _ _ _ _
      cases (c == Value.type "enumerate")
      · wp_walk using q1
        exact ⟨_, rfl, h⟩
      · wp_walk using q1
        exact ⟨_, rfl, h⟩
    · wp_walk using q1
      exact ⟨_, rfl, h⟩
section
variable {prog : Program} {w : World} {A : Around} {E : Value → Shared → Prop} {s : Shared}
theorem ef_enum_begins {v : Value} {o : Obj} {H : Heap → Prop} {Q : Value → Shared → Prop} (B : Begins v o H) (h1 : H s.heap)
    (h : ∀ h', IsEnum h' (s.heap.objs.size + 1) s.heap.objs.size 0 .none → h'.get? s.heap.objs.size = some o → h'.objs.size = s.heap.objs.size + 2 →
      (∀ b o, s.heap.get? b = some o → h'.get? b = some o) → Q (.ref (s.heap.objs.size + 1)) { s with heap := h' }) :
    wpAny (model prog w) A (call (.type "enumerate") [v]) Q E s := by
  refine callType_new F.called_enumerate (by decide) (F.typeCall_enumerate_1 _) (F.newCall_enumerate_1 _) (fun obj => F.args_object_init_2 obj _) F.entry_enumerate_new
    (ef_enumerate_new B) ⟨h1, ?_⟩
  have hz : (s.heap.push o).objs.size = s.heap.objs.size + 1 := Heap.size_push ..
  show _ ∧ _
  rw [hz]
  have he : IsEnum ((s.heap.push o).push { cls := .type "enumerate", data := .fields #[.none, .bool false, .ref s.heap.objs.size, rawInt 0, .none, .none] }) (s.heap.objs.size + 1) s.heap.objs.size 0 .none := by
    have := Heap.get?_push_size (s.heap.push o) (o := { cls := .type "enumerate", data := .fields #[.none, .bool false, .ref s.heap.objs.size, rawInt 0, .none, .none] }) rfl
    rw [hz] at this; exact this
  refine ⟨⟨_, he, rfl⟩, h _ he (Heap.get?_push_of_some _ (Heap.get?_push_size _ B.free)) (by rw [Heap.size_push, hz]) fun b o x => Heap.get?_push_of_some _ (Heap.get?_push_of_some _ x)⟩
end
end PySem

namespace PyProof.Rows
open PySem
section
variable {prog : Program} {w : World} {A : Around} {E : Value → Shared → Prop} {s : Shared}
/-- sorted(t) of a tuple: list.sort on a new list of its items -/
theorem ef_sorted_tuple {l : Addr} {vs : List Value} {ss : List Str} {Q : Value → Shared → Prop} (hl : s.heap.IsTuple l vs.toArray) (hS : StrsAre vs ss) (h64 : vs.length < 64)
    (h : ∀ (h1 h' : Heap) (out : Array Value) (ss' : List Str) (ep : Nat), (∀ b o, s.heap.get? b = some o → h1.get? b = some o) → (∀ b o, h1.get? b = some o → h'.get? b = some o) → h'.get? h1.objs.size = some (seqObj "list" out ep) →
      StrsAre out.toList ss' → ss'.Perm ss → sortedS ss' = true → Q (.ref h1.objs.size) { s with heap := h' }) :
    wpAny (model prog w) A (call (.builtin "sorted") [.ref l]) Q E s := by
  obtain ⟨o, ho, hc, n, hd⟩ := hl
  refine Calls.call_function_entry kind_sorted plain_sorted entry_sorted (args_sorted1 _) ?_
  unfold Builtin.«sorted»
  refine wpAny_bind (m := checkCount "sorted" 1 1 _) (wpAny_pure ?_)
  refine wpAny_bind (wpAny_collect_seq l (.inr rfl) ho hc hd (fun h1 hk => ?_) (by rw [List.size_toArray]; exact Nat.le_trans (Nat.le_of_lt h64) (by decide)))
  have ev : vs.toArray.toList = vs := by simp
  rw [ev]
  refine wpAny_bind (wpAny_newList ?_ (Nat.le_trans (Nat.le_of_lt h64) (by decide)))
  have hoL : (h1.push (seqObj "list" vs.toArray 0)).get? h1.objs.size = some (seqObj "list" vs.toArray 0) := Heap.get?_push_size _ rfl
  show wpAny _ _ _ _ _ { s with heap := h1.push (seqObj "list" vs.toArray 0) }
  refine wpAny_bind (wpAny_holding (wpAny_call_entry slot_list_sort ⟨_, hoL, rfl⟩ entry_list_sort
    (list_sort_treeK (s := { s with heap := h1.push (seqObj "list" vs.toArray 0) }) strKind_oneLt hoL hS.keysOf (fun v₁ v₂ rest e => keyKind_strs (by rw [← e]; exact hS)) h64 fun st' a1 a2 => ⟨_, rfl, ?_⟩) (args_list_sort _)))
  refine wpAny_pure ⟨_, rfl, ?_⟩
  obtain ⟨ss', b1, b2, b3⟩ := sorted_out_str hS a1 a2
  obtain ⟨ep, he⟩ := sortedHeap_at (vs := vs) (out := (arrOf st').map (·.2)) hoL
  refine h h1 _ _ ss' ep hk (fun b u q => ?_) he b1 b2 b3
  have hlt := Heap.lt_size q
  rw [sortedHeap_old (Nat.ne_of_lt hlt) (by rw [Heap.size_push]; exact Nat.lt_succ_of_lt hlt)]
  exact Heap.get?_push_of_some _ q
end
end PyProof.Rows

namespace L2
open PySem PySem.Spec PyProof.Rows
/-! ### min of data -/
theorem dpAll_of_get {K : PySem.W.Frag} {H : Hp} : ∀ {vs : List V} {ds : List PyData} {i : Nat} {v : V}, DpAll K H vs ds → vs[i]? = some v → ∃ d, ds[i]? = some d ∧ Dp K H v d
  | _, _, _, _, .nil, e => by simp at e
  | _, _, 0, _, .cons h _, e => by simp at e; subst e; exact ⟨_, rfl, h⟩
  | _, _, i + 1, _, .cons _ t, e => by simpa using dpAll_of_get (i := i) t (by simpa using e)
theorem rel_of_vals {vs : List V} {us : List Value} {i : Nat} {u : Value} (r : Vals vs us) (e : us[i]? = some u) : ∃ v, vs[i]? = some v ∧ RelV v u := by
  have hl := r.length
  have hi : i < vs.length := by rw [hl]; exact (List.getElem?_eq_some_iff.mp e).1
  obtain ⟨u', e1, e2⟩ := r.get (List.getElem?_eq_getElem hi)
  rw [e] at e1
  cases e1
  exact ⟨vs[i], List.getElem?_eq_getElem hi, e2⟩
def prIS (p : Int × Str) : PyData := .tuple [.int p.1, .str p.2]
theorem prIS_toD (p : Int × Str) : PySem.W.Datum.toD p = prIS p := rfl
theorem prIS_lay {p : Int × Str} (h : PyData.strOk p.2 = true) : (prIS p).canLay0 = true := by simp [prIS, PyData.canLay0, PyData.canLayAll0, h]
theorem minOf_mem {α : Type} [DecidableEq α] [PySem.W.DatumOrd α] : ∀ (xs : List α) (x : α), PySem.W.minOf x xs ∈ x :: xs
  | [], x => List.mem_cons_self
  | y :: ys, x => by
    show PySem.W.minOf (if PySem.W.DatumOrd.lt y x = true then y else x) ys ∈ x :: y :: ys
    have h := minOf_mem ys (if PySem.W.DatumOrd.lt y x = true then y else x)
    rcases List.mem_cons.mp h with e | e
    · rw [e]
      split
      · exact List.mem_cons_of_mem _ List.mem_cons_self
      · exact List.mem_cons_self
    · exact List.mem_cons_of_mem _ (List.mem_cons_of_mem _ e)
theorem minOf_fst : ∀ (xs : List (Int × Str)) (x : Int × Str), (PySem.W.minOf x xs).1 ≤ x.1 ∧ ∀ y ∈ xs, (PySem.W.minOf x xs).1 ≤ y.1
  | [], x => ⟨Int.le_refl _, fun y h => by simp at h⟩
  | z :: zs, x => by
    show (PySem.W.minOf (if PySem.W.DatumOrd.lt z x = true then z else x) zs).1 ≤ x.1 ∧ ∀ y ∈ z :: zs, (PySem.W.minOf (if PySem.W.DatumOrd.lt z x = true then z else x) zs).1 ≤ y.1
    obtain ⟨h1, h2⟩ := minOf_fst zs (if PySem.W.DatumOrd.lt z x = true then z else x)
    have hlt : PySem.W.DatumOrd.lt z x = if z.1 = x.1 then PySem.W.DatumOrd.lt z.2 x.2 else decide (z.1 < x.1) := rfl
    have hz : (if PySem.W.DatumOrd.lt z x = true then z else x).1 ≤ z.1 ∧ (if PySem.W.DatumOrd.lt z x = true then z else x).1 ≤ x.1 := by
      by_cases e : z.1 = x.1
      · split
        · exact ⟨Int.le_refl _, by omega⟩
        · exact ⟨by omega, Int.le_refl _⟩
      · rw [hlt, if_neg e]
        split
        · rename_i q
          have := of_decide_eq_true q
          exact ⟨Int.le_refl _, by omega⟩
        · rename_i q
          have : ¬ z.1 < x.1 := fun z' => q (decide_eq_true z')
          exact ⟨by omega, Int.le_refl _⟩
    refine ⟨by omega, fun y hy => ?_⟩
    rcases List.mem_cons.mp hy with e | hy
    · rw [e]; omega
    · exact h2 y hy
theorem minOf_int : ∀ (xs : List Int) (x : Int), (PySem.W.minOf x xs) ≤ x ∧ ∀ y ∈ xs, (PySem.W.minOf x xs) ≤ y
  | [], x => ⟨Int.le_refl _, fun y h => by simp at h⟩
  | z :: zs, x => by
    show (PySem.W.minOf (if PySem.W.DatumOrd.lt z x = true then z else x) zs) ≤ x ∧ ∀ y ∈ z :: zs, (PySem.W.minOf (if PySem.W.DatumOrd.lt z x = true then z else x) zs) ≤ y
    obtain ⟨h1, h2⟩ := minOf_int zs (if PySem.W.DatumOrd.lt z x = true then z else x)
    have hlt : PySem.W.DatumOrd.lt z x = decide (z < x) := rfl
    rw [hlt] at h1 h2 ⊢
    by_cases e : z < x
    · simp only [e, decide_true, if_true] at h1 h2 ⊢
      refine ⟨by omega, fun y hy => ?_⟩
      rcases List.mem_cons.mp hy with e | hy
      · rw [e]; exact h1
      · exact h2 y hy
    · simp only [e, decide_false, Bool.false_eq_true, if_false] at h1 h2 ⊢
      refine ⟨h1, fun y hy => ?_⟩
      rcases List.mem_cons.mp hy with e2 | hy
      · rw [e2]; omega
      · exact h2 y hy
section
variable {X : Cx}
/-- min(l), l a list of pairs (int, text) -/
def rMinP (K : PySem.W.Frag) : List V → Hp → VK → Prop := fun vs H Q => ∃ (a : Addr) (ys : List V) (p : Int × Str) (ps : List (Int × Str)), vs = [V.ref a] ∧ SqL K H a ys ∧ DpAll K H ys ((p :: ps).map prIS) ∧ (∀ r ∈ p :: ps, PyData.strOk r.2 = true) ∧
  ∀ (v : V) (q : Int × Str), q ∈ p :: ps → (∀ r ∈ p :: ps, q.1 ≤ r.1) → Dp K H v (prIS q) → Q v H
theorem cr_minP (hc : X.calm = true) (hu : X.A.units + 64 < cLine) : CallR X (.builtin "min") (rMinP X.K) := by
  intro pins s σ H vs us Q I r h
  obtain ⟨a, ys, p, ps, rfl, hs, hd, hok, q⟩ := h
  obtain ⟨its, rv, hl, _⟩ := I.list hs
  rw [Vals.ref1 r]
  obtain ⟨as, ra⟩ := Dp.readsAll I _ _ _ hd rv
  have hh := I.ok.hd hc
  refine PySem.W.min_list_datum (α := Int × Str) (x := p) (xs := ps) hh hl.isList ⟨as, ?_⟩ (Nat.lt_of_le_of_lt (show X.A.units + 1 + PySem.W.Datum.depth (Int × Str) ≤ X.A.units + 64 from (by show _ + 1 + (max (0 : Nat) 0 + 1) ≤ _ + 64; omega)) hu) fun i v h' tk hi hv hk => ?_
  · have e : its.toArray.toList = its := by simp
    rw [e]
    exact ra
  · have hi' : its[i]? = some v := by simpa using hi
    obtain ⟨y, hy, ry⟩ := rel_of_vals rv hi'
    obtain ⟨d, hdi, hyd⟩ := dpAll_of_get hd hy
    obtain ⟨bs, hb⟩ := hv
    obtain ⟨cs, hcs⟩ := Dp.reads I d y v hyd ry
    have I2 : Inv X pins σ H { s with heap := h', toks := tk } := I.kept hk
    have hcs2 : Reads h' v d cs := PyProof.Rows.Reads.keeps hk hcs
    have hm := minOf_mem ps p
    have e1 : prIS (PySem.W.minOf p ps) = d := SeqAt.Reads.unique _ _ v bs cs (prIS_lay (hok _ hm)) hb hcs2
    obtain ⟨f1, f2⟩ := minOf_fst ps p
    refine ⟨y, H, I2, ry, q y (PySem.W.minOf p ps) hm (fun r hr => ?_) (by rw [e1]; exact hyd)⟩
    rcases List.mem_cons.mp hr with e | hr
    · rw [e]; exact f1
    · exact f2 r hr
/-- min(l, default=None), l a list of ints -/
def rMinN (K : PySem.W.Frag) : List V → List V → Hp → VK → Prop := fun vs zs H Q => ∃ (a : Addr) (ns : List Int), vs = [V.ref a] ∧ zs = [V.non] ∧ SqL K H a (ns.map V.int) ∧ (ns = [] → Q .non H) ∧
  ∀ m, m ∈ ns → (∀ n ∈ ns, m ≤ n) → Q (.int m) H
theorem dpAll_ints {K : PySem.W.Frag} {H : Hp} : ∀ ns : List Int, DpAll K H (ns.map V.int) (ns.map PyData.int)
  | [] => .nil
  | n :: ns => .cons (.int n) (dpAll_ints ns)
theorem cr_minN (hc : X.calm = true) (hu : X.A.units + 64 < cLine) : CallRK X (.builtin "min") [Str.ofString "default"] (rMinN X.K) := by
  intro pins s σ H vs zs us ws Q I r rz h
  obtain ⟨a, ns, rfl, rfl, hs, q0, q⟩ := h
  obtain ⟨its, rv, hl, _⟩ := I.list hs
  obtain rfl := Vals.ref1 r
  obtain ⟨w1, rfl, e1⟩ := vals1 rz
  obtain rfl : w1 = Value.none := e1
  have hd : DpAll X.K H (ns.map V.int) (ns.map PyData.int) := dpAll_ints ns
  obtain ⟨as, ra⟩ := Dp.readsAll I _ _ _ hd rv
  have hh := I.ok.hd hc
  show wpAny _ _ (call (.builtin "min") [Value.ref a] [(Str.ofString "default", Value.none)]) _ _ _
  refine PySem.W.min_list_datum_default (α := Int) (xs := ns) (d := Value.none) hh hl.isList ⟨as, ?_⟩ (Nat.lt_of_le_of_lt (show X.A.units + 1 + PySem.W.Datum.depth Int ≤ X.A.units + 64 from (by show _ + 1 + (0 : Nat) ≤ _ + 64; omega)) hu) (fun e h' tk hk => ?_) fun y zs i v h' tk e hi hv hk => ?_
  · have e : its.toArray.toList = its := by simp
    rw [e]
    exact ra
  · exact ⟨.non, H, I.kept hk, rfl, q0 e⟩
  · obtain ⟨t, ev⟩ := PySem.W.int_of_holds hv
    subst e
    obtain ⟨f1, f2⟩ := minOf_int zs y
    refine ⟨.int (PySem.W.minOf y zs), H, I.kept hk, ⟨t, ev⟩, q _ (minOf_mem zs y) fun n hn => ?_⟩
    rcases List.mem_cons.mp hn with e | hn
    · rw [e]; exact f1
    · exact f2 n hn
/-- sorted(t), t a tuple of texts -/
def rSortT (K : PySem.W.Frag) : List V → Hp → VK → Prop := fun vs H Q => ∃ (a : Addr) (xs : List Str), vs = [V.ref a] ∧ SqT K H a (xs.map V.str) ∧ xs.length < 64 ∧
  ∀ (ys : List Str) (p : Addr), ys.Perm xs → sortedS ys = true → H p = none → Q (.ref p) (upd H p (.lst (ys.map V.str)))
theorem cr_sortT : CallR X (.builtin "sorted") (rSortT X.K) := by
  intro pins s σ H vs us Q I r h
  obtain ⟨a, xs, rfl, hs, h64, q⟩ := h
  obtain ⟨its, rv, hl, _⟩ := I.tuple hs
  rw [Vals.ref1 r]
  have hlen0 := rv.length
  rw [List.length_map] at hlen0
  refine PyProof.Rows.ef_sorted_tuple (show s.heap.IsTuple a its.toArray from hl) rv.strs (by rw [← hlen0]; exact h64) fun h1 h' out ss' ep hk1 hk2 he b1 b2 b3 => ?_
  have I1 : Inv X pins σ H { s with heap := h1 } := I.kept (t' := s.toks) hk1
  have hlen : (ss'.map V.str).length ≤ sizeLine := by rw [List.length_map, b2.length_eq]; exact small64 h64
  exact ⟨.ref _, upd H h1.objs.size (.lst (ss'.map V.str)), I1.laid (t' := s.toks) hk2 (Nat.le_refl _) ⟨hlen, out.toList, ep, vals_of_strs b1, he⟩, rfl, q ss' _ b2 b3 (I1.hok.fresh (Nat.le_refl _))⟩
end

/-! ### a value locked as it comes -/
def tLockV (t : TE) : TE := fun σ H Q => t σ H fun v H1 => ∃ d kvs, v = .ref d ∧ H1 d = some (.dK kvs) ∧ ∀ od, Q v (upd H1 d (.frz od (.dK kvs)))
theorem pe_lockV {X : Cx} {e : Expr} {t : TE} (h : PE X e t) : PE X e (tLockV t) := by
  refine ⟨fun pins s σ H Q I hq => ?_⟩
  refine thn (h.run pins s σ H _ I hq) fun u s1 ⟨v, H1, I1, r1, d, kvs, ev, hd, q⟩ => ?_
  obtain ⟨od, I2⟩ := I1.lock hd (by trivial)
  exact ⟨v, _, I2, r1, q od⟩

/-! ### enumerate(tuple) -/
def IteT (K : PySem.W.Frag) (a : Addr) : It :=
  ⟨fun i H => ∃ (xs : List V) (x : V), SqT K H a xs ∧ xs[i]? = some x, fun i H v H' => ∃ T x, v = .ref T ∧ H T = none ∧ H' = upd H T (.tup [.int (i : Nat), x]) ∧ ∀ xs, SqT K H a xs → xs[i]? = some x, fun i H => ∃ xs : List V, SqT K H a xs ∧ xs.length ≤ i⟩
theorem turn_enumT {P : Program} {w : World} {K : PySem.W.Frag} {elts : List Expr} {kk : Nat} {tpos : Pos} (a e it : Addr) (hea : e ≠ a) (hta : it ≠ a) :
    Turn P w K (.Tuple elts kk tpos) (IteT K a) [e, it] e (fun i h => (∃ old, IsEnum h e it ((i : Nat) : Int) old) ∧ h.IsTupleIter it a i ∧ e ≠ it) where
  mem := by simp
  obj := fun i h st b hb => by
    obtain ⟨⟨old, he⟩, ⟨o, ho, hc, hd⟩, _⟩ := st
    have e' : b = e ∨ b = it := by simpa using hb
    rcases e' with z | z
    · rw [z]; exact ⟨_, he, fun v q => nomatch q⟩
    · rw [z]; exact ⟨o, ho, fun v q => by rw [hd] at q; cases q⟩
  keep := fun i h h' st k => let ⟨⟨old, he⟩, hi, hne⟩ := st; ⟨⟨old, k e (by simp) _ he⟩, hi.at fun o q => k it (by simp) o q, hne⟩
  item := by
    intro X hP hw hK hc i pins s σ H E I hf st hg
    subst hP hw hK
    obtain ⟨⟨old, he⟩, hit, hne⟩ := st
    obtain ⟨xs, x, hq, hx⟩ := hg
    obtain ⟨its, rv, p, hz⟩ := I.tuple hq
    obtain ⟨u, hu, ru⟩ := rv.get hx
    have hel : e < s.heap.objs.size := Heap.lt_size he
    have hil : it < s.heap.objs.size := by obtain ⟨_, q, _⟩ := hit; exact Heap.lt_size q
    have hlt : i < its.toArray.size := by
      have := (List.getElem?_eq_some_iff.mp hu).1
      simpa using this
    have hin : X.A.in1.handled = none := I.ok.hd hc
    refine wpAny_pyNext_enum_itemD (Draws.tuple (A := X.A.in1) hin it a (Ne.symm hta) its.toArray) he ⟨hit, show s.heap.IsTuple a its.toArray from p⟩ hlt hne (by simp [hne, hea]) fun x' h' tk hP ho hst hT hsz hk => ?_
    have ex : x' = u := by
      have h1 : its.toArray[i]? = some u := by simpa using hu
      rw [h1] at hP
      exact (Option.some.inj hP).symm
    subst ex
    refine ⟨_, rfl, wpAny_letOwnedTupleGo_enum (s := { s with heap := h', toks := tk + 1 }) ho fun h'' he' sb => ?_⟩
    have hT2 : h''.get? s.heap.objs.size = some { cls := .type "tuple", data := .seq #[.int i tk, x'] } := (sb.2 _ (Nat.ne_of_gt hel)).trans hT
    have new : ObjOk X.prog X.w (upd H s.heap.objs.size (.tup [.int (i : Nat), x])) h'' s.heap.objs.size (.tup [.int (i : Nat), x]) :=
      ⟨by show 2 ≤ sizeLine; decide, [.int i tk, x'], .cons ⟨_, rfl⟩ (.cons ru .nil), ⟨_, hT2, rfl, _, rfl⟩⟩
    have I1 : Inv X pins σ (upd H s.heap.objs.size (.tup [.int (i : Nat), x])) { s with heap := h'', toks := tk + 1 } :=
      I.turnedNew (ch := [e, it]) (fun b ob hb q => (sb.2 b (fun z => hb (by simp [z]))).trans (hk b ob (fun z => hb (by simp [z])) (fun z => hb (by simp [z])) q)) hf (Nat.le_refl _) new
    refine ⟨.ref s.heap.objs.size, _, I1, rfl, ⟨_, x, rfl, I.hok.fresh (Nat.le_refl _), rfl, fun ys hy => by rw [I.tuple_inj hy hq]; exact hx⟩, ⟨⟨x', ?_⟩, hst.1.at fun o q => (sb.2 it (Ne.symm hne)).trans q, hne⟩, fun b hb => ?_⟩
    · have e1 : ((i + 1 : Nat) : Int) = (i : Int) + 1 := by omega
      rw [e1]; exact he'
    · have hb' : b < s.heap.objs.size := by
        have e' : b = e ∨ b = it := by simpa using hb
        rcases e' with z | z
        · rw [z]; exact hel
        · rw [z]; exact hil
      rw [upd_ne (Nat.ne_of_lt hb')]
      exact (hf b hb).1
  done := by
    intro X hP hw hK hc i pins s σ H E I hf st hg
    subst hP hw hK
    obtain ⟨⟨old, he⟩, hit, hne⟩ := st
    obtain ⟨xs, hq, hx⟩ := hg
    obtain ⟨its, rv, p, hz⟩ := I.tuple hq
    obtain ⟨f0, f1, f2, f3, f4, f5⟩ := hf it (by simp)
    have hl := rv.length
    have hin : X.A.in1.in1.handled = none := I.ok.hd hc
    obtain ⟨o, ho, hcl, hdt⟩ := id hit
    have hge : its.toArray.size ≤ i := by simp; omega
    refine wpAny_pyNext_enum_endD (n := 0) (fp := [it, a]) (P := fun _ _ => True) (St := fun _ h => h.IsTupleIter it a i ∧ h.IsTuple a its.toArray) ?_ he ⟨hit, show s.heap.IsTuple a its.toArray from p⟩ fun h' eb => ⟨rfl, I.turned (t' := s.toks) (fun b o hb q => eb b o hb q) f0 f1 f3 f4 f5⟩
    exact ⟨fun _ _ st => let ⟨o, ho, _⟩ := st.1; ⟨o, ho⟩, fun _ _ _ st hk => ⟨st.1.at fun o e => hk it (by simp) o e, st.2.at fun o e => hk a (by simp) o e⟩, fun i s Q E hi => absurd hi (Nat.not_lt_zero _),
      fun s Q E st hE => wpAny_nextOf_tuple_end (by exact hin) st.1 st.2 (by rw [Array.getElem?_eq_none_iff]; exact hge) hE⟩
  self := fun A i s Q E st h => let ⟨⟨_, he⟩, _⟩ := st; wpAny_pyIter_enum he h
def iEnumT (K : PySem.W.Frag) (ta : TA) : TI := fun σ H R => ta σ H fun vs H1 => ∃ a xs, vs = [.ref a] ∧ SqT K H1 a xs ∧ R (IteT K a) H1
theorem pi_enumT {X : Cx} {e : Expr} {ta : TA} {p pos tpos : Pos} {elts : List Expr} {kk : Nat} (hg : Gl X "enumerate") (hm : X.mg "enumerate" = none) (ha : PA X [e] ta) (hs : starEach [e] X.env = [(false, eval e X.env)] := by rfl) :
    PI X (.Tuple elts kk tpos) (.Call (.Name "enumerate" p) [e] [] pos) (iEnumT X.K ta) := by
  refine ⟨fun pins s σ H R I h => ?_⟩
  refine Call_ (ld_blt I hg hm boot_enumerate (PyProof.Rows.callWith_type1 (thn (ha.run pos pins s σ H _ I h) fun us s1 ⟨vs, H1, I1, r1, q1⟩ => ?_) hs rfl))
  obtain ⟨a, xs, ex, hq, q⟩ := q1
  subst ex
  cases r1 with
  | cons r rr =>
    cases rr
    cases r
    obtain ⟨its, rv, p', hz⟩ := I1.tuple hq
    have pt : s1.heap.IsTuple a its.toArray := p'
    have hal : a < s1.heap.objs.size := by obtain ⟨o, ho, _⟩ := pt; exact Heap.lt_size ho
    refine ef_enum_begins (begins_tuple a its.toArray) pt fun h' he hit hsz hk => wpAny_pyIter_enum he ?_
    have I2 : Inv X pins σ H1 { s1 with heap := h' } := I1.kept (t' := s1.toks) hk
    refine ⟨s1.heap.objs.size + 1, [s1.heap.objs.size + 1, s1.heap.objs.size], _, _, H1, rfl, I2, turn_enumT a (s1.heap.objs.size + 1) s1.heap.objs.size (Nat.ne_of_gt (Nat.lt_succ_of_lt hal)) (Nat.ne_of_gt hal), ⟨⟨.none, he⟩, ⟨_, hit, rfl, rfl⟩, Nat.succ_ne_self _⟩, fun b hb => ?_, q⟩
    have e' : b = s1.heap.objs.size + 1 ∨ b = s1.heap.objs.size := by simpa using hb
    have hle : s1.heap.objs.size ≤ b := by
      rcases e' with z | z
      · rw [z]; exact Nat.le_add_right _ _
      · rw [z]; exact Nat.le_refl _
    exact I1.fpOk hle (I1.hok.fresh hle)
theorem walk_enumT {K : PySem.W.Frag} {a : Addr} {xs : List V} : Walk (IteT K a) xs.length (fun H => SqT K H a xs) (YPair (fun i => some (.int (i : Nat))) (fun i => xs[i]?)) := by
  refine ⟨fun i _ hi q => ⟨xs, xs[i], q, by simp [hi]⟩, fun _ q => ⟨xs, q, Nat.le_refl _⟩, fun i H v H' _ q y => ?_⟩
  obtain ⟨T, x, h1, h2, h3, h4⟩ := y
  exact ⟨T, .int (i : Nat), x, h1, h2, h3, rfl, h4 xs q⟩

/-! ### a op1 b op2 c op3 d -/
def tChain3 (r r' r'' : R2) (ta tb tc td : TE) : TE := fun σ H Q => ta σ H fun x H1 => tb σ H1 fun y H2 => r x y H2 fun z H3 => ∃ k, z = .bl k ∧
  (if k = true then tc σ H3 fun w' H4 => r' y w' H4 fun z2 H5 => ∃ k2, z2 = .bl k2 ∧ (if k2 = true then td σ H5 fun x4 H6 => r'' w' x4 H6 Q else Q (.bl false) H5) else Q (.bl false) H3)
theorem pe_chain3 {X : Cx} {a b c d : Expr} {ta tb tc td : TE} {pos : Pos} {op op' op'' : CmpOp} {r r' r'' : R2} (ho : OpR X (compareOp op) r) (ho' : OpR X (compareOp op') r') (ho'' : OpR X (compareOp op'') r'') (ha : PE X a ta) (hb : PE X b tb) (hc : PE X c tc) (hd : PE X d td)
    (hm : lastMarks [op, op', op''] [b, c, d] = false := by with_unfolding_all rfl) : PE X (.Compare a [op, op', op''] [b, c, d] pos) (tChain3 r r' r'' ta tb tc td) := by
  refine ⟨fun pins s σ H Q I h => ?_⟩
  refine Compare_chain (thn (ha.run pins s σ H _ I h) fun v s1 ⟨x, H1, I1, r1, q1⟩ => chain_link (thn (hb.run pins s1 σ H1 _ I1 q1) fun u s2 ⟨y, H2, I2, r2, q2⟩ =>
    thn (ho pins s2 σ H2 x y v u _ I2 r1 r2 q2) fun d s3 ⟨z, H3, I3, r3, k, e, q3⟩ => ?_)) hm
  subst e
  cases r3
  refine wpAny_truthy_bool ?_
  cases k with
  | false => exact ite_ff ⟨.bl false, H3, I3, rfl, q3⟩
  | true =>
    refine ite_tt (chain_link (thn (hc.run pins s3 σ H3 _ I3 q3) fun w' s4 ⟨z', H4, I4, r4, q4⟩ => thn (ho' pins s4 σ H4 y z' u w' _ I4 r2 r4 q4) fun d2 s5 ⟨z2, H5, I5, r5, k2, e2, q5⟩ => ?_))
    subst e2
    cases r5
    refine wpAny_truthy_bool ?_
    cases k2 with
    | false => exact ite_ff ⟨.bl false, H5, I5, rfl, q5⟩
    | true => exact ite_tt (chain_last (thn (hd.run pins s5 σ H5 _ I5 q5) fun w4 s6 ⟨x4, H6, I6, r6, q6⟩ => ho'' pins s6 σ H6 z' x4 w' w4 Q I6 r4 r6 q6))
end L2

/-! Readings said by data: what an expression evaluates to, as PyData. -/
namespace Ef
open PySem PySem.Spec PyProof.Rows L2 Evl

/-! ### heaps -/
/-- tuples stay -/
def Kt (H H' : Hp) : Prop := ∀ b xs, Rd H b (.tup xs) → Rd H' b (.tup xs)
theorem Kt.refl (H : Hp) : Kt H H := fun _ _ h => h
theorem Kt.trans {H H1 H2 : Hp} (a : Kt H H1) (b : Kt H1 H2) : Kt H H2 := fun x xs h => b x xs (a x xs h)
theorem kt_ex {H H' : Hp} (e : Ex H H') : Kt H H' := fun b xs h => ex_rd e h
def mutO : HO → Bool
  | .lst _ => true
  | .dK _ => true
  | .ins _ _ _ => true
  | _ => false
theorem kt_mut {H : Hp} {l : Addr} {o u : HO} (h : H l = some o) (hm : mutO o = true) : Kt H (upd H l u) := fun b xs hb => by
  have hne : b ≠ l := by
    intro e
    subst e
    rcases hb with hb | ⟨z, hb⟩
    · rw [h] at hb; cases hb; simp [mutO] at hm
    · rw [h] at hb; cases hb; simp [mutO] at hm
  rcases hb with hb | ⟨z, hb⟩
  · exact .inl (by rw [upd_ne hne]; exact hb)
  · exact .inr ⟨z, by rw [upd_ne hne]; exact hb⟩
theorem kt_new {H : Hp} {l : Addr} {u : HO} (h : H l = none) : Kt H (upd H l u) := kt_ex (Ex.new h)
theorem kt_t {K : PySem.W.Frag} {H H' : Hp} {a : Addr} {xs : List V} (e : Kt H H') (h : SqT K H a xs) : SqT K H' a xs := by
  rcases h with h | h
  · exact .inl (e _ _ h)
  · exact .inr h
mutual
def imm : PyData → Bool
  | .none => true
  | .bool _ => true
  | .int _ => true
  | .str _ => true
  | .list _ => false
  | .tuple ds => immAll ds
  | .dict _ => false
def immAll : List PyData → Bool
  | [] => true
  | d :: ds => imm d && immAll ds
end
theorem immAll_map {α : Type} {f : α → PyData} (h : ∀ x, imm (f x) = true) : ∀ l : List α, immAll (l.map f) = true
  | [] => by simp [immAll]
  | x :: l => by simp [immAll, h x, immAll_map h l]
theorem immAll_iff : ∀ {l : List PyData}, immAll l = true ↔ ∀ d ∈ l, imm d = true
  | [] => by simp [immAll]
  | x :: l => by simp [immAll, immAll_iff (l := l)]

section
variable {K : PySem.W.Frag} {H H' : Hp}
mutual
theorem dp_ex (e : Ex H H') : ∀ (d : PyData) (v : V), Dp K H v d → Dp K H' v d
  | .none, _, h => by cases h; exact .non
  | .bool _, _, h => by cases h; exact .bl _
  | .int _, _, h => by cases h; exact .int _
  | .str _, _, h => by cases h; exact .str _
  | .list ds, _, h => by
    cases h with
    | lst hs ha => exact .lst (ex_l e hs) (dpa_ex e ds _ ha)
  | .tuple ds, _, h => by
    cases h with
    | tup hs ha => exact .tup (ex_t e hs) (dpa_ex e ds _ ha)
  | .dict _, _, h => by cases h
theorem dpa_ex (e : Ex H H') : ∀ (ds : List PyData) (vs : List V), DpAll K H vs ds → DpAll K H' vs ds
  | [], _, h => by cases h; exact .nil
  | d :: ds, _, h => by
    cases h with
    | cons h1 h2 => exact .cons (dp_ex e d _ h1) (dpa_ex e ds _ h2)
end
mutual
theorem dp_kt (e : Kt H H') : ∀ (d : PyData) (v : V), imm d = true → Dp K H v d → Dp K H' v d
  | .none, _, _, h => by cases h; exact .non
  | .bool _, _, _, h => by cases h; exact .bl _
  | .int _, _, _, h => by cases h; exact .int _
  | .str _, _, _, h => by cases h; exact .str _
  | .list ds, _, i, h => by simp [imm] at i
  | .tuple ds, _, i, h => by
    cases h with
    | tup hs ha => exact .tup (kt_t e hs) (dpa_kt e ds _ (by simpa [imm] using i) ha)
  | .dict _, _, _, h => by cases h
theorem dpa_kt (e : Kt H H') : ∀ (ds : List PyData) (vs : List V), immAll ds = true → DpAll K H vs ds → DpAll K H' vs ds
  | [], _, _, h => by cases h; exact .nil
  | d :: ds, _, i, h => by
    have i' : imm d = true ∧ immAll ds = true := by simpa [immAll] using i
    cases h with
    | cons h1 h2 => exact .cons (dp_kt e d _ i'.1 h1) (dpa_kt e ds _ i'.2 h2)
end
theorem _root_.L2.Dp.ex {v : V} {d : PyData} (h : Dp K H v d) (e : Ex H H') : Dp K H' v d := dp_ex e d v h
theorem _root_.L2.Dp.kt {v : V} {d : PyData} (h : Dp K H v d) (e : Kt H H') (i : imm d = true) : Dp K H' v d := dp_kt e d v i h
theorem _root_.L2.DpAll.ex {v : List V} {d : List PyData} (h : DpAll K H v d) (e : Ex H H') : DpAll K H' v d := dpa_ex e d v h
theorem _root_.L2.DpAll.kt {v : List V} {d : List PyData} (h : DpAll K H v d) (e : Kt H H') (i : immAll d = true) : DpAll K H' v d := dpa_kt e d v i h

/-! ### inversions -/
theorem _root_.L2.Dp.int_inv {v : V} {i : Int} (h : Dp K H v (.int i)) : v = .int i := by cases h; rfl
theorem _root_.L2.Dp.str_inv {v : V} {z : Str} (h : Dp K H v (.str z)) : v = .str z := by cases h; rfl
theorem _root_.L2.Dp.bl_inv {v : V} {b : Bool} (h : Dp K H v (.bool b)) : v = .bl b := by cases h; rfl
theorem _root_.L2.Dp.non_inv {v : V} (h : Dp K H v .none) : v = .non := by cases h; rfl
theorem _root_.L2.Dp.tup_inv {v : V} {ds : List PyData} (h : Dp K H v (.tuple ds)) : ∃ a xs, v = .ref a ∧ SqT K H a xs ∧ DpAll K H xs ds := by
  cases h with
  | tup hs ha => exact ⟨_, _, rfl, hs, ha⟩
theorem _root_.L2.Dp.lst_inv {v : V} {ds : List PyData} (h : Dp K H v (.list ds)) : ∃ a xs, v = .ref a ∧ SqL K H a xs ∧ DpAll K H xs ds := by
  cases h with
  | lst hs ha => exact ⟨_, _, rfl, hs, ha⟩
theorem _root_.L2.DpAll.len {xs : List V} {ds : List PyData} (h : DpAll K H xs ds) : xs.length = ds.length := by
  induction ds generalizing xs with
  | nil => cases h; rfl
  | cons d ds ih =>
    cases h with
    | cons h1 h2 => exact congrArg Nat.succ (ih h2)
theorem _root_.L2.DpAll.get {xs : List V} {ds : List PyData} (h : DpAll K H xs ds) {i : Nat} {d : PyData} (hi : ds[i]? = some d) : ∃ v, xs[i]? = some v ∧ Dp K H v d := by
  induction ds generalizing xs i with
  | nil => simp at hi
  | cons d' ds ih =>
    cases h with
    | cons h1 h2 =>
      cases i with
      | zero => simp at hi; subst hi; exact ⟨_, rfl, h1⟩
      | succ i => simpa using ih h2 (by simpa using hi)
theorem _root_.L2.DpAll.app {xs ys : List V} {ds es : List PyData} (h : DpAll K H xs ds) (h' : DpAll K H ys es) : DpAll K H (xs ++ ys) (ds ++ es) := by
  induction ds generalizing xs with
  | nil => cases h; exact h'
  | cons d ds ih =>
    cases h with
    | cons h1 h2 => exact .cons h1 (ih h2)
theorem _root_.L2.DpAll.one {v : V} {d : PyData} (h : Dp K H v d) : DpAll K H [v] [d] := .cons h .nil
theorem _root_.L2.DpAll.atI {xs : List V} {ds : List PyData} (h : DpAll K H xs ds) {i : Int} {d : PyData} (hi : L2.atI ds i = some d) : ∃ v, L2.atI xs i = some v ∧ Dp K H v d := by
  unfold L2.atI at hi ⊢
  rw [h.len]
  cases e : ixN ds.length i with
  | none => rw [e] at hi; simp at hi
  | some j =>
    rw [e] at hi
    exact h.get hi
theorem _root_.L2.DpAll.strs_inv {xs : List V} : ∀ {ss : List Str}, DpAll K H xs (ss.map PyData.str) → xs = ss.map V.str := by
  intro ss
  induction ss generalizing xs with
  | nil => intro h; cases h; rfl
  | cons s ss ih =>
    intro h
    cases h with
    | cons h1 h2 => rw [List.map_cons, Dp.str_inv h1, ih h2]
theorem _root_.L2.DpAll.ints_inv {xs : List V} : ∀ {ss : List Int}, DpAll K H xs (ss.map PyData.int) → xs = ss.map V.int := by
  intro ss
  induction ss generalizing xs with
  | nil => intro h; cases h; rfl
  | cons s ss ih =>
    intro h
    cases h with
    | cons h1 h2 => rw [List.map_cons, Dp.int_inv h1, ih h2]
theorem dpa_strs : ∀ ss : List Str, DpAll K H (ss.map V.str) (ss.map PyData.str)
  | [] => .nil
  | s :: ss => .cons (.str s) (dpa_strs ss)
theorem dpa_ints : ∀ ss : List Int, DpAll K H (ss.map V.int) (ss.map PyData.int)
  | [] => .nil
  | s :: ss => .cons (.int s) (dpa_ints ss)
theorem dpa_bls : ∀ ss : List Bool, DpAll K H (ss.map V.bl) (ss.map PyData.bool)
  | [] => .nil
  | s :: ss => .cons (.bl s) (dpa_bls ss)
theorem _root_.L2.DpAll.bls_inv {xs : List V} : ∀ {ss : List Bool}, DpAll K H xs (ss.map PyData.bool) → xs = ss.map V.bl := by
  intro ss
  induction ss generalizing xs with
  | nil => intro h; cases h; rfl
  | cons s ss ih =>
    intro h
    cases h with
    | cons h1 h2 => rw [List.map_cons, Dp.bl_inv h1, ih h2]
end

/-! ### places -/
theorem atI_map {α β : Type} (f : α → β) (l : List α) (i : Int) : L2.atI (l.map f) i = (L2.atI l i).map f := by
  unfold L2.atI
  rw [List.length_map]
  cases ixN l.length i with
  | none => rfl
  | some j => simp
theorem atI_of {α : Type} {l : List α} {i : Int} {x : α} (h0 : 0 ≤ i) (h : l[i.toNat]? = some x) : L2.atI l i = some x := by
  have hl := (List.getElem?_eq_some_iff.mp h).1
  unfold L2.atI ixN
  rw [if_pos h0, if_pos (by omega)]
  exact h
theorem atI_lt {α : Type} {l : List α} {i : Int} (h0 : 0 ≤ i) (h : i < l.length) : ∃ x, L2.atI l i = some x ∧ l[i.toNat]? = some x := by
  have h2 : i.toNat < l.length := by omega
  exact ⟨l[i.toNat], atI_of h0 (List.getElem?_eq_getElem h2), List.getElem?_eq_getElem h2⟩

/-! ### what evaluates to what -/
def EvD (K : PySem.W.Frag) (te : TE) (σ : L2.St) (H : Hp) (d : PyData) : Prop := ∀ H1, Ex H H1 → ∀ Q : VK, (∀ v H2, Ex H1 H2 → Dp K H2 v d → Q v H2) → te σ H1 Q
/-- a new list of the data ds -/
def EvF (K : PySem.W.Frag) (te : TE) (σ : L2.St) (H : Hp) (ds : List PyData) : Prop := ∀ H1, Ex H H1 → ∀ Q : VK, (∀ p xs H2, H1 p = none → Ex H1 H2 → H2 p = some (.lst xs) → DpAll K H2 xs ds → Q (.ref p) H2) → te σ H1 Q
def EdA (K : PySem.W.Frag) (ta : TA) (σ : L2.St) (H : Hp) (ds : List PyData) : Prop := ∀ H1, Ex H H1 → ∀ Q : List V → Hp → Prop, (∀ vs H2, Ex H1 H2 → DpAll K H2 vs ds → Q vs H2) → ta σ H1 Q
section
variable {K : PySem.W.Frag} {σ : L2.St} {H H' : Hp} {ta tb te tx : TE} {t u : TT} {x y z v : V} {r : R2} {d e : PyData} {ds es : List PyData}
theorem EvD.mono (e : Ex H H') (h : EvD K te σ H d) : EvD K te σ H' d := fun H1 a Q q => h H1 (e.trans a) Q q
theorem EvF.mono (e : Ex H H') (h : EvF K te σ H ds) : EvF K te σ H' ds := fun H1 a Q q => h H1 (e.trans a) Q q
theorem EdA.mono {ta : TA} (e : Ex H H') (h : EdA K ta σ H ds) : EdA K ta σ H' ds := fun H1 a Q q => h H1 (e.trans a) Q q
theorem EvF.toD (h : EvF K te σ H ds) : EvD K te σ H (.list ds) := fun H1 e Q q => h H1 e Q fun p xs H2 _ e2 hp ha => q _ H2 e2 (.lst (SqL.of hp) ha)
theorem evd_var {i : Nat} (h : σ[i]? = some (some v)) (hd : Dp K H v d) : EvD K (tVar i) σ H d := fun H1 e _ q => ⟨v, h, q v H1 (Ex.refl H1) (hd.ex e)⟩
theorem EvD.int {i : Int} (h : EvD K te σ H (.int i)) : Ev te σ H (.int i) := fun H1 e Q q => h H1 e Q fun v H2 e2 hv => by rw [hv.int_inv]; exact q H2 e2
theorem EvD.str {i : Str} (h : EvD K te σ H (.str i)) : Ev te σ H (.str i) := fun H1 e Q q => h H1 e Q fun v H2 e2 hv => by rw [hv.str_inv]; exact q H2 e2
theorem EvD.bl {i : Bool} (h : EvD K te σ H (.bool i)) : Ev te σ H (.bl i) := fun H1 e Q q => h H1 e Q fun v H2 e2 hv => by rw [hv.bl_inv]; exact q H2 e2
theorem EvD.non (h : EvD K te σ H .none) : Ev te σ H .non := fun H1 e Q q => h H1 e Q fun v H2 e2 hv => by rw [hv.non_inv]; exact q H2 e2
theorem _root_.Evl.Ev.dI {i : Int} (h : Ev te σ H (.int i)) : EvD K te σ H (.int i) := fun H1 e Q q => h H1 e Q fun H2 e2 => q _ H2 e2 (.int i)
theorem _root_.Evl.Ev.dS {i : Str} (h : Ev te σ H (.str i)) : EvD K te σ H (.str i) := fun H1 e Q q => h H1 e Q fun H2 e2 => q _ H2 e2 (.str i)
theorem _root_.Evl.Ev.dB {i : Bool} (h : Ev te σ H (.bl i)) : EvD K te σ H (.bool i) := fun H1 e Q q => h H1 e Q fun H2 e2 => q _ H2 e2 (.bl i)
theorem _root_.Evl.Ev.dN (h : Ev te σ H .non) : EvD K te σ H .none := fun H1 e Q q => h H1 e Q fun H2 e2 => q _ H2 e2 .non
theorem EvD.to (h : EvD K te σ H d) (e : d = e') : EvD K te σ H e' := e ▸ h
theorem _root_.Evl.Ev.to (h : Ev te σ H v) (e : v = w) : Ev te σ H w := e ▸ h

/-- operators -/
theorem ev_add {i j : Int} (ha : Ev ta σ H (.int i)) (hb : Ev tb σ H (.int j)) : Ev (tOp (rI0 fun i j => .int (i + j)) ta tb) σ H (.int (i + j)) := ev_op ha hb rv_I0
theorem ev_sub {i j : Int} (ha : Ev ta σ H (.int i)) (hb : Ev tb σ H (.int j)) : Ev (tOp (rI0 fun i j => .int (i - j)) ta tb) σ H (.int (i - j)) := ev_op ha hb rv_I0
theorem ev_mul {i j : Int} (ha : Ev ta σ H (.int i)) (hb : Ev tb σ H (.int j)) (hc : CMul i j) : Ev (tOp (rI CMul fun i j => .int (i * j)) ta tb) σ H (.int (i * j)) := ev_op ha hb (rv_I hc)
theorem ev_mod {i j : Int} (ha : Ev ta σ H (.int i)) (hb : Ev tb σ H (.int j)) (hc : 0 < j) : Ev (tOp (rI (fun _ j => 0 < j) fun i j => .int (i % j)) ta tb) σ H (.int (i % j)) := ev_op ha hb (rv_I hc)
theorem ev_div {i j : Int} (ha : Ev ta σ H (.int i)) (hb : Ev tb σ H (.int j)) (hc : CDiv i j) : Ev (tOp (rI CDiv fun i j => .int (i / j)) ta tb) σ H (.int (i / j)) := ev_op ha hb (rv_I hc)
theorem ev_lt {i j : Int} (ha : Ev ta σ H (.int i)) (hb : Ev tb σ H (.int j)) : Ev (tOp (rI0 fun i j => .bl (decide (i < j))) ta tb) σ H (.bl (decide (i < j))) := ev_op ha hb rv_I0
theorem ev_le {i j : Int} (ha : Ev ta σ H (.int i)) (hb : Ev tb σ H (.int j)) : Ev (tOp (rI0 fun i j => .bl (decide (i ≤ j))) ta tb) σ H (.bl (decide (i ≤ j))) := ev_op ha hb rv_I0
theorem ev_gt {i j : Int} (ha : Ev ta σ H (.int i)) (hb : Ev tb σ H (.int j)) : Ev (tOp (rI0 fun i j => .bl (decide (j < i))) ta tb) σ H (.bl (decide (j < i))) := ev_op ha hb rv_I0
theorem ev_ge {i j : Int} (ha : Ev ta σ H (.int i)) (hb : Ev tb σ H (.int j)) : Ev (tOp (rI0 fun i j => .bl (decide (j ≤ i))) ta tb) σ H (.bl (decide (j ≤ i))) := ev_op ha hb rv_I0
theorem ev_eqv (ha : Ev ta σ H x) (hb : Ev tb σ H y) (hs : scal x y = true) : Ev (tOp rEq ta tb) σ H (.bl (decide (x = y))) := ev_op ha hb (rv_eq hs)
theorem ev_nev (ha : Ev ta σ H x) (hb : Ev tb σ H y) (hs : scal x y = true) : Ev (tOp rNe ta tb) σ H (.bl (!decide (x = y))) := ev_op ha hb (rv_ne hs)
def rIsN' : R2 := fun x y H Q => y = .non ∧ Q (.bl (decide (x = .non))) H
def rNotN' : R2 := fun x y H Q => y = .non ∧ Q (.bl (!decide (x = .non))) H
theorem op_isN' {X : Cx} : OpR X (compareOp .Is) rIsN' := op_isN
theorem op_notN' {X : Cx} : OpR X (compareOp .IsNot) rNotN' := op_notN
theorem ev_isN (ha : Ev ta σ H x) : Ev (tOp rIsN' ta (tC .non)) σ H (.bl (decide (x = .non))) := fun H1 e Q q => ha H1 e _ fun H2 e2 => ⟨rfl, q H2 e2⟩
theorem ev_notN (ha : Ev ta σ H x) : Ev (tOp rNotN' ta (tC .non)) σ H (.bl (!decide (x = .non))) := fun H1 e Q q => ha H1 e _ fun H2 e2 => ⟨rfl, q H2 e2⟩
/-- of data: is it None -/
def isNone : PyData → Bool
  | .none => true
  | _ => false
theorem dp_isN (h : Dp K H v d) : decide (v = .non) = isNone d := by cases h <;> simp [isNone]
theorem evd_isN (ha : EvD K ta σ H d) : Ev (tOp rIsN' ta (tC .non)) σ H (.bl (isNone d)) := fun H1 e Q q => ha H1 e _ fun v H2 e2 hv => ⟨rfl, by rw [dp_isN hv]; exact q H2 e2⟩
theorem evd_notN (ha : EvD K ta σ H d) : Ev (tOp rNotN' ta (tC .non)) σ H (.bl (!isNone d)) := fun H1 e Q q => ha H1 e _ fun v H2 e2 hv => ⟨rfl, by rw [dp_isN hv]; exact q H2 e2⟩
theorem ev_isB {a b : Bool} (ha : Ev ta σ H (.bl a)) (hb : Ev tb σ H (.bl b)) : Ev (tOp rIsB ta tb) σ H (.bl (decide (a = b))) := ev_op ha hb fun H1 _ _ q => ⟨a, b, rfl, rfl, q H1 (Ex.refl H1)⟩
/-- texts -/
def rAddS' : R2 := fun x y H Q => ∃ i j, x = .str i ∧ y = .str j ∧ i.length + j.length ≤ sizeLine ∧ Q (.str (i ++ j)) H
theorem op_addS' {X : Cx} : OpR X (binaryOp .Add) rAddS' := op_add_str
theorem ev_addS {i j : Str} (ha : Ev ta σ H (.str i)) (hb : Ev tb σ H (.str j)) (hl : i.length + j.length ≤ sizeLine) : Ev (tOp rAddS' ta tb) σ H (.str (i ++ j)) := ev_op ha hb fun H1 _ _ q => ⟨i, j, rfl, rfl, hl, q H1 (Ex.refl H1)⟩
def rInS' : R2 := fun x y H Q => ∃ (c : Nat) (z : Str), x = .str ⟨#[c]⟩ ∧ y = .str z ∧ Q (.bl (decide (c ∈ z.cps.toList))) H
theorem op_inS' {X : Cx} : OpR X (compareOp .In) rInS' := op_in_sign
theorem ev_inS {c : Nat} {z : Str} (ha : Ev ta σ H (.str ⟨#[c]⟩)) (hb : Ev tb σ H (.str z)) : Ev (tOp rInS' ta tb) σ H (.bl (decide (c ∈ z.cps.toList))) := ev_op ha hb fun H1 _ _ q => ⟨c, z, rfl, rfl, q H1 (Ex.refl H1)⟩

/-- places -/
theorem evd_ixT {i : Int} (ha : EvD K ta σ H (.tuple ds)) (hb : Ev tb σ H (.int i)) (h : L2.atI ds i = some d) : EvD K (tOp (rIxT K) ta tb) σ H d := fun H1 e Q q =>
  ha H1 e _ fun w H2 e2 hv => hb H2 (e.trans e2) _ fun H3 e3 => by
    obtain ⟨a, xs, rfl, hs, hx⟩ := (hv.ex e3).tup_inv
    obtain ⟨u, hu, hd⟩ := hx.atI h
    exact ⟨a, xs, i, u, rfl, rfl, hs, hu, q u H3 (e2.trans e3) hd⟩
theorem evd_ixL {i : Int} (ha : EvD K ta σ H (.list ds)) (hb : Ev tb σ H (.int i)) (h : L2.atI ds i = some d) : EvD K (tOp (rIxL K) ta tb) σ H d := fun H1 e Q q =>
  ha H1 e _ fun w H2 e2 hv => hb H2 (e.trans e2) _ fun H3 e3 => by
    obtain ⟨a, xs, rfl, hs, hx⟩ := (hv.ex e3).lst_inv
    obtain ⟨u, hu, hd⟩ := hx.atI h
    exact ⟨a, xs, i, u, rfl, rfl, hs, hu, q u H3 (e2.trans e3) hd⟩
theorem ev_ixS {i : Int} {w : Str} {c : Nat} (ha : Ev ta σ H (.str w)) (hb : Ev tb σ H (.int i)) (hl : w.length ≤ 100000) (h : L2.atI w.cps.toList i = some c) : Ev (tOp rIxS ta tb) σ H (.str ⟨#[c]⟩) := ev_op ha hb (rv_ixS hl h)
theorem ev_slS {w : Str} {tl th : TO} {lo hi : Option Int} (ha : Ev ta σ H (.str w)) (h1 : EvO tl σ H lo) (h2 : EvO th σ H hi) (hl : w.length ≤ sizeLine) : Ev (tSl rSlS ta tl th) σ H (.str (cutS w lo hi)) := fun H1 e Q q =>
  ha H1 e _ fun H2 e2 => h1 H2 (e.trans e2) _ fun H3 e3 => h2 H3 ((e.trans e2).trans e3) _ fun H4 e4 => ⟨w, rfl, hl, q H4 ((e2.trans e3).trans e4)⟩
theorem eo_none : EvO tNoPart σ H none := fun H1 _ _ q => q H1 (Ex.refl H1)
theorem eo_some {i : Int} (h : Ev te σ H (.int i)) : EvO (tPart te) σ H (some i) := fun H1 e _ q => h H1 e _ fun H2 e2 => ⟨i, rfl, q H2 e2⟩
theorem dpa_take {xs : List V} {ds : List PyData} (h : DpAll K H xs ds) (n : Nat) : DpAll K H (xs.take n) (ds.take n) := by
  induction ds generalizing xs n with
  | nil => cases h; simp; exact .nil
  | cons d ds ih =>
    cases h with
    | cons h1 h2 =>
      cases n with
      | zero => exact .nil
      | succ n => exact .cons h1 (ih h2 n)
theorem dpa_drop {xs : List V} {ds : List PyData} (h : DpAll K H xs ds) (n : Nat) : DpAll K H (xs.drop n) (ds.drop n) := by
  induction ds generalizing xs n with
  | nil => cases h; simp; exact .nil
  | cons d ds ih =>
    cases h with
    | cons h1 h2 =>
      cases n with
      | zero => exact .cons h1 h2
      | succ n => exact ih h2 n
def cutD (xs : List PyData) (lo hi : Option Int) : List PyData := (xs.drop (HT.sIx xs.length 0 lo)).take (HT.sIx xs.length xs.length hi - HT.sIx xs.length 0 lo)
theorem dpa_cut {xs : List V} {ds : List PyData} (h : DpAll K H xs ds) (lo hi : Option Int) : DpAll K H (cutV xs lo hi) (cutD ds lo hi) := by
  unfold cutV cutD
  rw [h.len]
  exact dpa_take (dpa_drop h _) _
/-- xs[lo:hi], a list: a new list -/
theorem evf_slL {tl th : TO} {lo hi : Option Int} (ha : EvD K ta σ H (.list ds)) (h1 : EvO tl σ H lo) (h2 : EvO th σ H hi) : EvF K (tSl (rSlL K) ta tl th) σ H (cutD ds lo hi) := fun H1 e Q q =>
  ha H1 e _ fun w H2 e2 hv => h1 H2 (e.trans e2) _ fun H3 e3 => h2 H3 ((e.trans e2).trans e3) _ fun H4 e4 => by
    obtain ⟨a, xs, rfl, hs, hx⟩ := (hv.ex (e3.trans e4)).lst_inv
    exact ⟨a, xs, rfl, hs, fun p hp => q p _ _ (fresh_back ((e2.trans e3).trans e4) hp) (((e2.trans e3).trans e4).trans (Ex.new hp)) upd_same (dpa_ex (Ex.new hp) _ _ (dpa_cut hx lo hi))⟩
/-- t[lo:hi], a tuple, not the whole of it -/
theorem evd_slT {tl th : TO} {lo hi : Option Int} (ha : EvD K ta σ H (.tuple ds)) (h1 : EvO tl σ H lo) (h2 : EvO th σ H hi) (hw : ¬ (HT.sIx ds.length 0 lo = 0 ∧ HT.sIx ds.length ds.length hi = ds.length)) : EvD K (tSl (rSlT K) ta tl th) σ H (.tuple (cutD ds lo hi)) := fun H1 e Q q =>
  ha H1 e _ fun w H2 e2 hv => h1 H2 (e.trans e2) _ fun H3 e3 => h2 H3 ((e.trans e2).trans e3) _ fun H4 e4 => by
    obtain ⟨a, xs, rfl, hs, hx⟩ := (hv.ex (e3.trans e4)).tup_inv
    exact ⟨a, xs, rfl, hs, by rw [hx.len]; exact hw, fun p hp => q (.ref p) _ (((e2.trans e3).trans e4).trans (Ex.new hp)) (.tup (SqT.of upd_same) (dpa_ex (Ex.new hp) _ _ (dpa_cut hx lo hi)))⟩

/-- argument lists, displays -/
theorem ed_nil : EdA K tNil σ H [] := fun H1 _ _ q => q [] H1 (Ex.refl H1) .nil
theorem ed_cons {tr : TA} (h : EvD K ta σ H d) (hr : EdA K tr σ H ds) : EdA K (tCons ta tr) σ H (d :: ds) := fun H1 e _ q =>
  h H1 e _ fun v H2 e2 hv => hr H2 (e.trans e2) _ fun vs H3 e3 hs => q (v :: vs) H3 (e2.trans e3) (.cons (hv.ex e3) hs)
theorem evd_tup {ta : TA} (h : EdA K ta σ H ds) (hl : ds.length ≤ 100000) : EvD K (tTup ta) σ H (.tuple ds) := fun H1 e _ q =>
  h H1 e _ fun vs H2 e2 hs => ⟨sz_of (by rw [hs.len]; exact hl), fun p hp => q _ _ (e2.trans (Ex.new hp)) (.tup (SqT.of upd_same) (dpa_ex (Ex.new hp) _ _ hs))⟩
theorem evf_lst {ta : TA} (h : EdA K ta σ H ds) (hl : ds.length ≤ 100000) : EvF K (tLst ta) σ H ds := fun H1 e _ q =>
  h H1 e _ fun vs H2 e2 hs => ⟨sz_of (by rw [hs.len]; exact hl), fun p hp => q p vs _ (fresh_back e2 hp) (e2.trans (Ex.new hp)) upd_same (dpa_ex (Ex.new hp) _ _ hs)⟩
/-- xs + ys, two new lists -/
theorem evf_cat (ha : EvF K ta σ H ds) (hb : EvF K tb σ H es) (hl : ds.length + es.length ≤ 100000) : EvF K (tOp rCat ta tb) σ H (ds ++ es) := fun H1 e _ q =>
  ha H1 e _ fun p xs H2 _ e2 hp hx => hb H2 (e.trans e2) _ fun p' ys H3 _ e3 hp' hy => ⟨p, p', xs, ys, rfl, rfl, e3 _ _ hp, hp', sz_of (by rw [hx.len, hy.len]; exact hl), fun l hl' =>
    q l (xs ++ ys) _ (fresh_back (e2.trans e3) hl') ((e2.trans e3).trans (Ex.new hl')) upd_same (dpa_ex (Ex.new hl') _ _ ((dpa_ex e3 _ _ hx).app hy))⟩

/-- calls of built-ins -/
def rLen (K : PySem.W.Frag) : List V → Hp → VK → Prop := fun xs H Q => ∃ x n, xs = [x] ∧ LenV K x H n ∧ Q (.int n) H
theorem call_len' {X : Cx} : CallR X (.builtin "len") (rLen X.K) := call_len
theorem ev_lenT (ha : EvD K ta σ H (.tuple ds)) : Ev (tCB (rLen K) (tCons ta tNil)) σ H (.int (ds.length : Int)) := fun H1 e Q q =>
  ha H1 e _ fun w H2 e2 hv => by
    obtain ⟨a, xs, rfl, hs, hx⟩ := hv.tup_inv
    exact ⟨.ref a, ds.length, rfl, Or.inr ⟨xs, hs, hx.len.symm⟩, q H2 e2⟩
theorem ev_lenL (ha : EvD K ta σ H (.list ds)) : Ev (tCB (rLen K) (tCons ta tNil)) σ H (.int (ds.length : Int)) := fun H1 e Q q =>
  ha H1 e _ fun w H2 e2 hv => by
    obtain ⟨a, xs, rfl, hs, hx⟩ := hv.lst_inv
    exact ⟨.ref a, ds.length, rfl, Or.inl ⟨xs, hs, hx.len.symm⟩, q H2 e2⟩
theorem ev_lenS {w : Str} (ha : Ev ta σ H (.str w)) (hl : w.length ≤ sizeLine) : Ev (tCB (rLen K) (tCons ta tNil)) σ H (.int (w.length : Int)) := fun H1 e Q q =>
  ha H1 e _ fun H2 e2 => ⟨.str w, w.length, rfl, ⟨hl, rfl⟩, q H2 e2⟩
def rInt1 : List V → Hp → VK → Prop := fun xs H Q => (∃ i, xs = [.int i] ∧ Q (.int i) H) ∨ ∃ k, xs = [.bl k] ∧ Q (.int (if k then 1 else 0)) H
theorem call_int1' {X : Cx} : CallR X (.type "int") rInt1 := call_int1
theorem ev_int1 {i : Int} (ha : Ev ta σ H (.int i)) : Ev (tCB rInt1 (tCons ta tNil)) σ H (.int i) := fun H1 e Q q => ha H1 e _ fun H2 e2 => Or.inl ⟨i, rfl, q H2 e2⟩
def rAbs : List V → Hp → VK → Prop := fun xs H Q => ∃ i, xs = [.int i] ∧ Q (.int (if i < 0 then -i else i)) H
theorem call_abs' {X : Cx} : CallR X (.builtin "abs") rAbs := call_abs
theorem ev_abs {i : Int} (ha : Ev ta σ H (.int i)) : Ev (tCB rAbs (tCons ta tNil)) σ H (.int (if i < 0 then -i else i)) := fun H1 e Q q => ha H1 e _ fun H2 e2 => ⟨i, rfl, q H2 e2⟩
def rMin2' : List V → Hp → VK → Prop := fun xs H Q => ∃ i j, xs = [.int i, .int j] ∧ Q (.int (if j < i then j else i)) H
theorem call_min2' {X : Cx} (hc : X.calm = true) : CallR X (.builtin "min") rMin2' := call_min2 hc
theorem ev_min2 {i j : Int} (ha : Ev ta σ H (.int i)) (hb : Ev tb σ H (.int j)) : Ev (tCB rMin2' (tCons ta (tCons tb tNil))) σ H (.int (if j < i then j else i)) := fun H1 e Q q =>
  ha H1 e _ fun H2 e2 => hb H2 (e.trans e2) _ fun H3 e3 => ⟨i, j, rfl, q H3 (e2.trans e3)⟩
def rMax2' : List V → Hp → VK → Prop := fun xs H Q => ∃ i j, xs = [.int i, .int j] ∧ Q (.int (if j > i then j else i)) H
theorem call_max2' {X : Cx} (hc : X.calm = true) : CallR X (.builtin "max") rMax2' := call_max2 hc
theorem ev_max2' {i j : Int} (ha : Ev ta σ H (.int i)) (hb : Ev tb σ H (.int j)) : Ev (tCB rMax2' (tCons ta (tCons tb tNil))) σ H (.int (if j > i then j else i)) := fun H1 e Q q =>
  ha H1 e _ fun H2 e2 => hb H2 (e.trans e2) _ fun H3 e3 => ⟨i, j, rfl, q H3 (e2.trans e3)⟩
def rTupOf (K : PySem.W.Frag) : List V → Hp → VK → Prop := fun xs H Q => ∃ p ys, xs = [.ref p] ∧ ((SqL K H p ys ∧ ∀ l, H l = none → Q (.ref l) (upd H l (.tup ys))) ∨ (SqT K H p ys ∧ Q (.ref p) H))
theorem call_tupOf' {X : Cx} : CallR X (.type "tuple") (rTupOf X.K) := call_tuple_of
theorem evd_tupL (ha : EvD K ta σ H (.list ds)) : EvD K (tCB (rTupOf K) (tCons ta tNil)) σ H (.tuple ds) := fun H1 e Q q =>
  ha H1 e _ fun w H2 e2 hv => by
    obtain ⟨a, xs, rfl, hs, hx⟩ := hv.lst_inv
    exact ⟨a, xs, rfl, Or.inl ⟨hs, fun l hl => q (.ref l) _ (e2.trans (Ex.new hl)) (.tup (SqT.of upd_same) (dpa_ex (Ex.new hl) _ _ hx))⟩⟩
theorem evd_tupT (ha : EvD K ta σ H (.tuple ds)) : EvD K (tCB (rTupOf K) (tCons ta tNil)) σ H (.tuple ds) := fun H1 e Q q =>
  ha H1 e _ fun w H2 e2 hv => by
    obtain ⟨a, xs, rfl, hs, hx⟩ := hv.tup_inv
    exact ⟨a, xs, rfl, Or.inr ⟨hs, q (.ref a) H2 e2 (.tup hs hx)⟩⟩
theorem evf_listOf (ha : EvD K ta σ H (.list ds)) : EvF K (tCB (rListS K) (tCons ta tNil)) σ H ds := fun H1 e Q q =>
  ha H1 e _ fun w H2 e2 hv => by
    obtain ⟨a, xs, rfl, hs, hx⟩ := hv.lst_inv
    exact ⟨a, xs, rfl, Or.inl hs, fun l hl => q l xs _ (fresh_back e2 hl) (e2.trans (Ex.new hl)) upd_same (dpa_ex (Ex.new hl) _ _ hx)⟩
theorem call_listS' {X : Cx} : CallR X (.type "list") (rListS X.K) := call_list_of
theorem ev_all {bs : List Bool} (ha : EvD K ta σ H (.list (bs.map .bool))) : Ev (tCB (rAll K) (tCons ta tNil)) σ H (.bl (bs.all id)) := fun H1 e Q q =>
  ha H1 e _ fun w H2 e2 hv => by
    obtain ⟨a, xs, rfl, hs, hx⟩ := hv.lst_inv
    rw [hx.bls_inv] at hs
    exact ⟨a, bs, rfl, hs, q H2 e2⟩
theorem ev_any {bs : List Bool} (ha : EvD K ta σ H (.list (bs.map .bool))) : Ev (tCB (rAny K) (tCons ta tNil)) σ H (.bl (bs.any id)) := fun H1 e Q q =>
  ha H1 e _ fun w H2 e2 hv => by
    obtain ⟨a, xs, rfl, hs, hx⟩ := hv.lst_inv
    rw [hx.bls_inv] at hs
    exact ⟨a, bs, rfl, hs, q H2 e2⟩

/-- == and in of data -/
theorem ev_neD (ha : EvD K ta σ H d) (hb : EvD K tb σ H e) (sd : SeqAt.shaped d = true) (se : SeqAt.shaped e = true) : Ev (tOp (rNeD K) ta tb) σ H (.bl (!PyData.eqv d e)) := fun H1 ex Q q =>
  ha H1 ex _ fun v H2 e2 hv => hb H2 (ex.trans e2) _ fun w H3 e3 hw => ⟨d, e, hv.ex e3, hw, sd, se, q H3 (e2.trans e3)⟩
theorem ev_inD (ha : EvD K ta σ H d) (hb : EvD K tb σ H (.list ds)) (sd : SeqAt.shaped d = true) (se : SeqAt.shaped (.list ds) = true) : Ev (tOp (rInD K) ta tb) σ H (.bl (ds.any fun z => PyData.eqv z d)) := fun H1 ex Q q =>
  ha H1 ex _ fun v H2 e2 hv => hb H2 (ex.trans e2) _ fun w H3 e3 hw => ⟨d, ds, hv.ex e3, hw, sd, se, q H3 (e2.trans e3)⟩
theorem ev_niD (ha : EvD K ta σ H d) (hb : EvD K tb σ H (.list ds)) (sd : SeqAt.shaped d = true) (se : SeqAt.shaped (.list ds) = true) : Ev (tOp (rNotInD K) ta tb) σ H (.bl (!ds.any fun z => PyData.eqv z d)) := fun H1 ex Q q =>
  ha H1 ex _ fun v H2 e2 hv => hb H2 (ex.trans e2) _ fun w H3 e3 hw => ⟨d, ds, hv.ex e3, hw, sd, se, q H3 (e2.trans e3)⟩
theorem flat_strs : ∀ ss : List Str, (ss.map V.str).all flatV = true
  | [] => rfl
  | s :: ss => by rw [List.map_cons, List.all_cons, flat_strs ss]; rfl
theorem inV_strs (z : Str) : ∀ ss : List Str, inV (.str z) (ss.map V.str) = decide (z ∈ ss)
  | [] => by simp [inV]
  | s :: ss => by
    have h := inV_strs z ss
    unfold inV at h ⊢
    rw [List.map_cons, List.any_cons, h]
    by_cases e : s = z
    · subst e; simp [eqV]
    · have e1 : eqV (.str s) (.str z) = false := by simp [eqV, e]
      have e2 : ¬ z = s := fun q => e q.symm
      rw [e1, Bool.false_or]
      simp [e2]
theorem ev_inT {z : Str} {ss : List Str} (ha : Ev ta σ H (.str z)) (hb : EvD K tb σ H (.tuple (ss.map .str))) : Ev (tOp (rIn K false) ta tb) σ H (.bl (decide (z ∈ ss))) := fun H1 ex Q q =>
  ha H1 ex _ fun H2 e2 => hb H2 (ex.trans e2) _ fun w H3 e3 hw => by
    obtain ⟨a, xs, rfl, hs, hx⟩ := hw.tup_inv
    rw [hx.strs_inv] at hs
    refine ⟨a, ss.map V.str, rfl, Or.inr hs, rfl, flat_strs ss, ?_⟩
    rw [inV_strs]
    exact q H3 (e2.trans e3)
theorem ev_niT {z : Str} {ss : List Str} (ha : Ev ta σ H (.str z)) (hb : EvD K tb σ H (.tuple (ss.map .str))) : Ev (tOp (rIn K true) ta tb) σ H (.bl (!decide (z ∈ ss))) := fun H1 ex Q q =>
  ha H1 ex _ fun H2 e2 => hb H2 (ex.trans e2) _ fun w H3 e3 hw => by
    obtain ⟨a, xs, rfl, hs, hx⟩ := hw.tup_inv
    rw [hx.strs_inv] at hs
    refine ⟨a, ss.map V.str, rfl, Or.inr hs, rfl, flat_strs ss, ?_⟩
    rw [inV_strs]
    exact q H3 (e2.trans e3)
/-- a conditional value, as data -/
theorem evd_if {b : Bool} (h : EvT t σ H b) (h1 : b = true → EvD K ta σ H d) (h2 : b = false → EvD K tb σ H d) : EvD K (tIf t ta tb) σ H d := fun H1 e Q q => h H1 e _ fun H2 e2 => by
  cases b with
  | true =>
    show ta σ H2 Q
    exact h1 rfl H2 (e.trans e2) Q fun v H3 e3 => q v H3 (e2.trans e3)
  | false =>
    show tb σ H2 Q
    exact h2 rfl H2 (e.trans e2) Q fun v H3 e3 => q v H3 (e2.trans e3)

/-- chains -/
theorem ev_chain {r r' : R2} {ta tb tc : TE} {x y z : V} {b c : Bool} (ha : Ev ta σ H x) (hb : Ev tb σ H y) (hc : Ev tc σ H z) (h1 : ∀ H1 (Q : VK), Q (.bl b) H1 → r x y H1 Q) (h2 : ∀ H1 (Q : VK), Q (.bl c) H1 → r' y z H1 Q) : Ev (tChain r r' ta tb tc) σ H (.bl (b && c)) := fun H1 e Q q =>
  ha H1 e _ fun H2 e2 => hb H2 (e.trans e2) _ fun H3 e3 => h1 H3 _ ⟨b, rfl, by
    cases b with
    | true =>
      show tc σ H3 fun w' H4 => r' y w' H4 Q
      exact hc H3 ((e.trans e2).trans e3) _ fun H4 e4 => h2 H4 Q (q H4 ((e2.trans e3).trans e4))
    | false =>
      show Q (.bl false) H3
      exact q H3 (e2.trans e3)⟩
theorem ev_chain3 {r r' r'' : R2} {ta tb tc td : TE} {x y z u : V} {b c d : Bool} (ha : Ev ta σ H x) (hb : Ev tb σ H y) (hc : Ev tc σ H z) (hd : Ev td σ H u) (h1 : ∀ H1 (Q : VK), Q (.bl b) H1 → r x y H1 Q) (h2 : ∀ H1 (Q : VK), Q (.bl c) H1 → r' y z H1 Q)
    (h3 : ∀ H1 (Q : VK), Q (.bl d) H1 → r'' z u H1 Q) : Ev (tChain3 r r' r'' ta tb tc td) σ H (.bl (b && (c && d))) := fun H1 e Q q =>
  ha H1 e _ fun H2 e2 => hb H2 (e.trans e2) _ fun H3 e3 => h1 H3 _ ⟨b, rfl, by
    cases b with
    | true =>
      show tc σ H3 fun w' H4 => r' y w' H4 fun z2 H5 => ∃ k2, z2 = .bl k2 ∧ (if k2 = true then td σ H5 fun x4 H6 => r'' w' x4 H6 Q else Q (.bl false) H5)
      refine hc H3 ((e.trans e2).trans e3) _ fun H4 e4 => h2 H4 _ ⟨c, rfl, ?_⟩
      cases c with
      | true =>
        show td σ H4 fun x4 H6 => r'' z x4 H6 Q
        exact hd H4 (((e.trans e2).trans e3).trans e4) _ fun H5 e5 => h3 H5 Q (q H5 (((e2.trans e3).trans e4).trans e5))
      | false =>
        show Q (.bl false) H4
        exact q H4 ((e2.trans e3).trans e4)
    | false =>
      show Q (.bl false) H3
      exact q H3 (e2.trans e3)⟩
theorem i0 {g : Int → Int → V} {i j : Int} (H1 : Hp) (Q : VK) (q : Q (g i j) H1) : rI0 g (.int i) (.int j) H1 Q := ⟨i, j, rfl, rfl, q⟩

/-! ### statements -/
variable {D : Ends} {tu tw : TS} {g : TG}
theorem s_asgD {i : Nat} (h : EvD K te σ H d) (k : ∀ v H1, Ex H H1 → Dp K H1 v d → D.nx (σ.set i (some v)) H1) : tAsg te (gName i) D σ H := h H (Ex.refl H) _ k
theorem s_asgF {i : Nat} (h : EvF K te σ H ds) (k : ∀ p xs H1, H p = none → Ex H H1 → H1 p = some (.lst xs) → DpAll K H1 xs ds → D.nx (σ.set i (some (.ref p))) H1) : tAsg te (gName i) D σ H := h H (Ex.refl H) _ k
theorem s_retD (h : EvD K te σ H d) (k : ∀ v H1, Ex H H1 → Dp K H1 v d → D.rt v H1) : tRet te D σ H := h H (Ex.refl H) _ k
theorem s_retF (h : EvF K te σ H ds) (k : ∀ p xs H1, H p = none → Ex H H1 → H1 p = some (.lst xs) → DpAll K H1 xs ds → D.rt (.ref p) H1) : tRet te D σ H := h H (Ex.refl H) _ k
theorem s_dropD (h : EvD K te σ H d) (k : ∀ H1, Ex H H1 → D.nx σ H1) : tDrop te D σ H := h H (Ex.refl H) _ fun _ H1 e _ => k H1 e
/-- xs.append(e) -/
theorem s_appD {l : Addr} {xs : List V} (hl : H l = some (.lst xs)) (ha : Ev ta σ H (.ref l)) (h : EvD K te σ H d) (hz : xs.length < 100000) (k : ∀ v H1, Ex H H1 → Dp K H1 v d → D.nx σ (upd H1 l (.lst (xs ++ [v])))) :
    tDrop (tBM K "list" rAppend ta (tCons te tNil)) D σ H := ha H (Ex.refl H) _ fun H1 e1 =>
  ⟨Or.inl ⟨rfl, xs, sq_of (e1 l _ hl)⟩, h H1 e1 _ fun v H2 e2 hv => ⟨l, xs, v, rfl, rfl, e2 l _ (e1 l _ hl), sz_lt hz, k v H2 (e1.trans e2) hv⟩⟩
/-- a list that grows -/
def LAt (K : PySem.W.Frag) (H : Hp) (l : Addr) (ds : List PyData) : Prop := ∃ xs, H l = some (.lst xs) ∧ DpAll K H xs ds
theorem LAt.new {p : Addr} (H1 : Hp) : LAt K (upd H1 p (.lst [])) p [] := ⟨[], upd_same, .nil⟩
theorem LAt.toD {l : Addr} (h : LAt K H l ds) : Dp K H (.ref l) (.list ds) := by
  obtain ⟨xs, h1, h2⟩ := h
  exact .lst (SqL.of h1) h2
theorem LAt.ex {l : Addr} (h : LAt K H l ds) (e : Ex H H') : LAt K H' l ds := by
  obtain ⟨xs, h1, h2⟩ := h
  exact ⟨xs, e _ _ h1, h2.ex e⟩
theorem s_app' {l : Addr} (hL : LAt K H l ds) (hi : immAll ds = true) (hid : imm d = true) (ha : Ev ta σ H (.ref l)) (h : EvD K te σ H d) (hz : ds.length < 100000)
    (k : ∀ H1 v H2, Ex H H1 → (∃ xs, H1 l = some (.lst xs)) → H2 = upd H1 l v → LAt K H2 l (ds ++ [d]) → Kt H H2 → D.nx σ H2) : tDrop (tBM K "list" rAppend ta (tCons te tNil)) D σ H := by
  obtain ⟨xs, h1, h2⟩ := hL
  refine s_appD h1 ha h (by rw [h2.len]; exact hz) fun v H1 e hv => ?_
  have hl1 : H1 l = some (.lst xs) := e _ _ h1
  have kt : Kt H1 (upd H1 l (.lst (xs ++ [v]))) := kt_mut hl1 rfl
  exact k H1 _ _ e ⟨xs, hl1⟩ rfl ⟨xs ++ [v], upd_same, ((h2.ex e).kt kt hi).app (.one (hv.kt kt hid))⟩ ((kt_ex e).trans kt)

/-! ### loops -/
/-- all but what stands at l -/
def But (l : Addr) (H H' : Hp) : Prop := ∀ b o, b ≠ l → H b = some o → H' b = some o
theorem But.kt {l : Addr} {o : HO} (h : But l H H') (hl : H l = some o) (hm : mutO o = true) : Kt H H' := fun b xs hb => by
  have hne : b ≠ l := by
    intro e
    subst e
    rcases hb with hb | ⟨z, hb⟩
    · rw [hl] at hb; cases hb; simp [mutO] at hm
    · rw [hl] at hb; cases hb; simp [mutO] at hm
  rcases hb with hb | ⟨z, hb⟩
  · exact .inl (h _ _ hne hb)
  · exact .inr ⟨z, h _ _ hne hb⟩
theorem But.rd {l a : Addr} {u : HO} (h : But l H H') (hne : a ≠ l) (r : Rd H a u) : Rd H' a u := by
  rcases r with hb | ⟨z, hb⟩
  · exact .inl (h _ _ hne hb)
  · exact .inr ⟨z, h _ _ hne hb⟩
theorem But.refl (l : Addr) (H : Hp) : But l H H := fun _ _ _ h => h
theorem But.upd {l : Addr} {o : HO} (h : But l H H') : But l H (upd H' l o) := fun b u hb e => by rw [upd_ne hb]; exact h b u hb e
theorem But.ex {l : Addr} {H2 : Hp} (h : But l H H') (e : Ex H' H2) : But l H H2 := fun b u hb q => e b u (h b u hb q)
theorem But.of_ex {l : Addr} (e : Ex H H') : But l H H' := fun b u _ q => e b u q
theorem s_forT {tl : TE} (hi : immAll ds = true) (h : EvD K tl σ H (.tuple ds)) (Pv : Hp → Nat → L2.St → Hp → Prop) (h0 : ∀ H1, Ex H H1 → Pv H1 0 σ H1) (hst : ∀ H1 i σ' H', Pv H1 i σ' H' → Kt H1 H')
    (hs : ∀ H1 i e x σ' H', Ex H H1 → ds[i]? = some e → Pv H1 i σ' H' → Dp K H' x e → g x σ' H' fun σ2 H2 => tu { D with nx := Pv H1 (i + 1), ct := Pv H1 (i + 1), bk := D.nx } σ2 H2) (hd : ∀ H1 σ' H', Ex H H1 → Pv H1 ds.length σ' H' → D.nx σ' H') : tFor (iTup K tl) g tu D σ H :=
  h H (Ex.refl H) _ fun v H1 e hv => by
    obtain ⟨a, xs, rfl, hq, hx⟩ := hv.tup_inv
    refine ⟨a, rfl, ⟨xs, hq⟩, for_it (walk_tup (xs := xs)) (Pv H1) (h0 H1 e) (fun i σ' H' _ p => kt_t (hst _ _ _ _ p) hq) (fun i x σ' H' H'' hlt p y => ?_) fun σ' H' p => hd H1 σ' H' e (by rw [← hx.len]; exact p)⟩
    obtain ⟨rfl, hxi⟩ := y
    obtain ⟨d', hd1, hd2⟩ := dpAll_of_get hx hxi
    exact hs H1 i d' x σ' _ e hd1 p (hd2.kt (hst _ _ _ _ p) (immAll_iff.mp hi d' (List.mem_of_getElem? hd1)))
theorem s_forL {tl : TE} (hi : immAll ds = true) (h : EvD K tl σ H (.list ds)) (Pv : Hp → Nat → L2.St → Hp → Prop) (h0 : ∀ H1, Ex H H1 → Pv H1 0 σ H1) (hst : ∀ H1 i σ' H', Pv H1 i σ' H' → Ex H1 H')
    (hs : ∀ H1 i e x σ' H', Ex H H1 → ds[i]? = some e → Pv H1 i σ' H' → Dp K H' x e → g x σ' H' fun σ2 H2 => tu { D with nx := Pv H1 (i + 1), ct := Pv H1 (i + 1), bk := D.nx } σ2 H2) (hd : ∀ H1 σ' H', Ex H H1 → Pv H1 ds.length σ' H' → D.nx σ' H') : tFor (iList K tl) g tu D σ H :=
  h H (Ex.refl H) _ fun v H1 e hv => by
    obtain ⟨a, xs, rfl, hq, hx⟩ := hv.lst_inv
    refine ⟨a, rfl, ⟨xs, hq⟩, for_it (walk_list (xs := xs)) (Pv H1) (h0 H1 e) (fun i σ' H' _ p => ex_l (hst _ _ _ _ p) hq) (fun i x σ' H' H'' hlt p y => ?_) fun σ' H' p => hd H1 σ' H' e (by rw [← hx.len]; exact p)⟩
    obtain ⟨rfl, hxi⟩ := y
    obtain ⟨d', hd1, hd2⟩ := dpAll_of_get hx hxi
    exact hs H1 i d' x σ' _ e hd1 p (hd2.ex (hst _ _ _ _ p))
/-- over a new list, while what stands at l changes -/
theorem s_forN {tl : TE} {l : Addr} {o : HO} (hl : H l = some o) (hm : mutO o = true) (hi : immAll ds = true) (h : EvF K tl σ H ds) (Pv : Hp → Nat → L2.St → Hp → Prop) (h0 : ∀ H1, Ex H H1 → Pv H1 0 σ H1) (hst : ∀ H1 i σ' H', Pv H1 i σ' H' → But l H1 H')
    (hs : ∀ H1 i e x σ' H', Ex H H1 → ds[i]? = some e → Pv H1 i σ' H' → Dp K H' x e → g x σ' H' fun σ2 H2 => tu { D with nx := Pv H1 (i + 1), ct := Pv H1 (i + 1), bk := D.nx } σ2 H2) (hd : ∀ H1 σ' H', Ex H H1 → Pv H1 ds.length σ' H' → D.nx σ' H') : tFor (iList K tl) g tu D σ H :=
  h H (Ex.refl H) _ fun p xs H1 hp e hv hx => by
    have hne : p ≠ l := fun z => by rw [z, hl] at hp; cases hp
    have hq : SqL K H1 p xs := SqL.of hv
    refine ⟨p, rfl, ⟨xs, hq⟩, for_it (walk_list (xs := xs)) (Pv H1) (h0 H1 e) (fun i σ' H' _ q => SqL.of ((hst _ _ _ _ q) _ _ hne hv)) (fun i x σ' H' H'' hlt q y => ?_) fun σ' H' q => hd H1 σ' H' e (by rw [← hx.len]; exact q)⟩
    obtain ⟨rfl, hxi⟩ := y
    obtain ⟨d', hd1, hd2⟩ := dpAll_of_get hx hxi
    exact hs H1 i d' x σ' _ e hd1 q (hd2.kt ((hst _ _ _ _ q).kt (e _ _ hl) hm) (immAll_iff.mp hi d' (List.mem_of_getElem? hd1)))
/-- over a list of the caller's (or any that stays), while other things change -/
theorem s_forS {tl : TE} (hi : immAll ds = true) (h : EvD K tl σ H (.list ds)) (Pv : Nat → L2.St → Hp → Prop) {H0 : Hp} {v : V} (hv0 : Dp K H0 v (.list ds)) (hv : ∀ H1, Ex H H1 → ∀ Q : VK, Q v H1 → tl σ H1 Q) (h0 : Pv 0 σ H) (hst : ∀ i σ' H', Pv i σ' H' → Ex H0 H')
    (hs : ∀ i e x σ' H', ds[i]? = some e → Pv i σ' H' → Dp K H' x e → g x σ' H' fun σ2 H2 => tu { D with nx := Pv (i + 1), ct := Pv (i + 1), bk := D.nx } σ2 H2) (hd : ∀ σ' H', Pv ds.length σ' H' → D.nx σ' H') : tFor (iList K tl) g tu D σ H :=
  hv H (Ex.refl H) _ (by
    obtain ⟨a, xs, rfl, hq, hx⟩ := hv0.lst_inv
    refine ⟨a, rfl, ⟨xs, ex_l (hst _ _ _ h0) hq⟩, for_it (walk_list (xs := xs)) Pv h0 (fun i σ' H' _ p => ex_l (hst _ _ _ p) hq) (fun i x σ' H' H'' hlt p y => ?_) fun σ' H' p => hd σ' H' (by rw [← hx.len]; exact p)⟩
    obtain ⟨rfl, hxi⟩ := y
    obtain ⟨d', hd1, hd2⟩ := dpAll_of_get hx hxi
    exact hs i d' x σ' _ hd1 p (hd2.ex (hst _ _ _ p)))
theorem s_forST {tl : TE} (Pv : Nat → L2.St → Hp → Prop) {H0 : Hp} {v : V} (hv0 : Dp K H0 v (.tuple ds)) (hv : ∀ Q : VK, Q v H → tl σ H Q) (h0 : Pv 0 σ H) (hst : ∀ i σ' H', Pv i σ' H' → Ex H0 H')
    (hs : ∀ i e x σ' H', ds[i]? = some e → Pv i σ' H' → Dp K H' x e → g x σ' H' fun σ2 H2 => tu { D with nx := Pv (i + 1), ct := Pv (i + 1), bk := D.nx } σ2 H2) (hd : ∀ σ' H', Pv ds.length σ' H' → D.nx σ' H') : tFor (iTup K tl) g tu D σ H :=
  hv _ (by
    obtain ⟨a, xs, rfl, hq, hx⟩ := hv0.tup_inv
    refine ⟨a, rfl, ⟨xs, ex_t (hst _ _ _ h0) hq⟩, for_it (walk_tup (xs := xs)) Pv h0 (fun i σ' H' _ p => ex_t (hst _ _ _ p) hq) (fun i x σ' H' H'' hlt p y => ?_) fun σ' H' p => hd σ' H' (by rw [← hx.len]; exact p)⟩
    obtain ⟨rfl, hxi⟩ := y
    obtain ⟨d', hd1, hd2⟩ := dpAll_of_get hx hxi
    exact hs i d' x σ' _ hd1 p (hd2.ex (hst _ _ _ p)))

/-- targets -/
theorem g_pair {x : V} {d1 d2 : PyData} {i j : Nat} {Q : L2.St → Hp → Prop} (h : Dp K H x (.tuple [d1, d2])) (k : ∀ a b, Dp K H a d1 → Dp K H b d2 → Q ((σ.set i (some a)).set j (some b)) H) : gTup K 2 (gCons (gName i) (gCons (gName j) gNil)) x σ H Q := by
  obtain ⟨a, xs, rfl, hq, hx⟩ := h.tup_inv
  cases hx with
  | cons h1 h2 =>
    cases h2 with
    | cons h3 h4 =>
      cases h4
      exact ⟨a, _, rfl, hq, rfl, _, _, rfl, _, _, rfl, rfl, k _ _ h1 h3⟩

/-! ### comprehensions -/
def givD (n : Nat) (f : Nat → Bool) (v : Nat → PyData) : List PyData := ((List.range n).filter f).map v
theorem givD_yes {n : Nat} {f : Nat → Bool} {v : Nat → PyData} (h : f n = true) : givD (n + 1) f v = givD n f v ++ [v n] := by
  unfold givD
  rw [List.range_succ, List.filter_append, List.map_append, List.filter_cons, if_pos h] <;> rfl
theorem givD_no {n : Nat} {f : Nat → Bool} {v : Nat → PyData} (h : f n = false) : givD (n + 1) f v = givD n f v := by
  unfold givD
  rw [List.range_succ, List.filter_append, List.map_append, List.filter_cons, if_neg (by rw [h]; decide)]
  show _ ++ [] = _
  rw [List.append_nil]
theorem givD_len (n : Nat) (f : Nat → Bool) (v : Nat → PyData) : (givD n f v).length ≤ n := by
  unfold givD
  rw [List.length_map]
  have h := List.length_filter_le f (List.range n)
  rw [List.length_range] at h
  exact h
theorem givD_imm {n : Nat} {f : Nat → Bool} {v : Nat → PyData} (h : ∀ i, i < n → f i = true → imm (v i) = true) : immAll (givD n f v) = true := by
  rw [immAll_iff]
  intro d hd
  unfold givD at hd
  obtain ⟨i, hi, rfl⟩ := List.mem_map.mp hd
  obtain ⟨h1, h2⟩ := List.mem_filter.mp hi
  exact h i (List.mem_range.mp h1) h2
/-- no test: the items, in order -/
theorem givD_all {α : Type} (l : List α) (g : α → PyData) (f : Nat → Bool) (v : Nat → PyData) (hf : ∀ i, i < l.length → f i = true) (hv : ∀ i x, l[i]? = some x → v i = g x) : givD l.length f v = l.map g := by
  unfold givD
  have h1 : (List.range l.length).filter f = List.range l.length := by
    rw [List.filter_eq_self]
    intro i hi
    exact hf i (List.mem_range.mp hi)
  rw [h1]
  apply List.ext_getElem
  · simp
  · intro i h1 h2
    simp only [List.getElem_map, List.getElem_range]
    have h3 : i < l.length := by simpa using h2
    exact hv i _ (List.getElem?_eq_getElem h3)
theorem givD_filter {α : Type} (g : α → PyData) (t : α → Bool) (l : List α) (f : Nat → Bool) (v : Nat → PyData) (hf : ∀ i x, l[i]? = some x → f i = t x) (hv : ∀ i x, l[i]? = some x → f i = true → v i = g x) : givD l.length f v = (l.filter t).map g := by
  have key : ∀ n, n ≤ l.length → givD n f v = ((l.take n).filter t).map g := by
    intro n
    induction n with
    | zero => intro _; rfl
    | succ n ih =>
      intro hn
      have hx : l[n]? = some l[n] := List.getElem?_eq_getElem hn
      have e1 := ih (by omega)
      rw [List.take_succ_eq_append_getElem hn, List.filter_append, List.map_append]
      cases ht : t l[n] with
      | true =>
        have hfn : f n = true := by rw [hf _ _ hx]; exact ht
        rw [givD_yes hfn, e1, hv _ _ hx hfn, List.filter_cons, if_pos ht] <;> rfl
      | false =>
        rw [givD_no (by rw [hf _ _ hx]; exact ht), e1, List.filter_cons, if_neg (by rw [ht]; decide)]
        simp
  have := key l.length (Nat.le_refl _)
  rw [List.take_length] at this
  exact this
/-- the core: what one turn gives -/
theorem lcd_core {J : It} {n : Nat} {G : Hp → Prop} {Y : Nat → Hp → V → Hp → Prop} (w : Walk J n G Y) {g : TG} {tt : TT} {te : TE} {vs : List Nat} {H1 : Hp} (f : Nat → Bool) (val : Nat → PyData) (hn : n ≤ 40000) (him : ∀ i, i < n → f i = true → imm (val i) = true) (hG : ∀ H', Ex H1 H' → G H')
    (hb : ∀ i x Ha Hb, i < n → Ex H1 Ha → Y i Ha x Hb → g x (wipe σ vs) Hb fun σ2 H2 => Ex Ha H2 ∧ wipe σ2 vs = wipe σ vs ∧ EvT tt σ2 H2 (f i) ∧ (f i = true → EvD K te σ2 H2 (val i)))
    (hgm : ∀ x Hb (P Q : L2.St → Hp → Prop), (∀ σ2 H2, P σ2 H2 → Q σ2 H2) → g x (wipe σ vs) Hb P → g x (wipe σ vs) Hb Q)
    {Q : VK} (hq : ∀ p xs H2, H1 p = none → Ex H1 H2 → H2 p = some (.lst xs) → DpAll K H2 xs (givD n f val) → Q (.ref p) H2) :
    ∀ Dl, H1 Dl = none → ∃ W : Nat → Nat → Hp → Prop, (∃ m, W 0 m (upd H1 Dl (.lst []))) ∧ ∀ i m H, W i m H →
      (J.stop i H ∧ Q (.ref Dl) H) ∨ (J.go i H ∧ ∃ Nx : Hp → Prop, (∀ H', Nx H' → ∃ m', m' < m ∧ W (i + 1) m' H') ∧ ∀ x H', J.yld i H x H' → g x (wipe σ vs) H' fun σ2 H2 => wipe σ2 vs = wipe σ vs ∧ tt σ2 H2 fun b H3 =>
        if b = true then te σ2 H3 fun y H4 => ∃ acc, H4 Dl = some (.lst acc) ∧ acc.length < sizeLine ∧ Nx (upd H4 Dl (.lst (acc ++ [y]))) else Nx H3) := by
  intro Dl hD
  refine lc_it w (fun i H' => Ex H1 H' ∧ ∃ xs, H' Dl = some (.lst xs) ∧ DpAll K H' xs (givD i f val)) ⟨Ex.new hD, [], upd_same, .nil⟩ (fun i H' _ p => hG _ p.1) (fun i x Ha Hb hi p y => ?_) fun H' p => ?_
  · obtain ⟨p1, xs, p2, p3⟩ := p
    refine hgm x Hb _ _ (fun σ2 H2 z => ?_) (hb i x Ha Hb hi p1 y)
    obtain ⟨z1, z2, z3, z4⟩ := z
    refine ⟨z2, z3 H2 (Ex.refl H2) _ fun H3 e3 => ?_⟩
    have e13 : Ex Ha H3 := z1.trans e3
    cases hf : f i with
    | true =>
      show te σ2 H3 fun y H4 => ∃ acc, H4 Dl = some (.lst acc) ∧ acc.length < sizeLine ∧ (Ex H1 (upd H4 Dl (.lst (acc ++ [y]))) ∧ ∃ xs, (upd H4 Dl (.lst (acc ++ [y]))) Dl = some (.lst xs) ∧ DpAll K (upd H4 Dl (.lst (acc ++ [y]))) xs (givD (i + 1) f val))
      refine z4 hf H3 e3 _ fun y H4 e4 hy => ?_
      have hl : H4 Dl = some (.lst xs) := e4 _ _ (e13 _ _ p2)
      have hlen : xs.length ≤ i := by rw [p3.len]; exact givD_len _ _ _
      have kt : Kt H4 (upd H4 Dl (.lst (xs ++ [y]))) := kt_mut hl rfl
      refine ⟨xs, hl, sz_lt (by omega), Ex.mut ((p1.trans e13).trans e4) hD, xs ++ [y], upd_same, ?_⟩
      rw [givD_yes hf]
      exact ((p3.ex (e13.trans e4)).kt kt (givD_imm fun j hj => him j (by omega))).app (.one (hy.kt kt (him i hi hf)))
    | false =>
      show Ex H1 H3 ∧ ∃ xs, H3 Dl = some (.lst xs) ∧ DpAll K H3 xs (givD (i + 1) f val)
      refine ⟨p1.trans e13, xs, e13 _ _ p2, ?_⟩
      rw [givD_no hf]
      exact p3.ex e13
  · obtain ⟨p1, xs, p2, p3⟩ := p
    exact hq Dl xs H' hD p1 p2 p3
theorem gName_mono {j : Nat} {x : V} {σ' : L2.St} {Hb : Hp} {P Q : L2.St → Hp → Prop} (h : ∀ σ2 H2, P σ2 H2 → Q σ2 H2) : gName j x σ' Hb P → gName j x σ' Hb Q := fun p => h _ _ p
theorem gPair_mono {i j : Nat} {x : V} {σ' : L2.St} {Hb : Hp} {P Q : L2.St → Hp → Prop} (h : ∀ σ2 H2, P σ2 H2 → Q σ2 H2) : gTup K 2 (gCons (gName i) (gCons (gName j) gNil)) x σ' Hb P → gTup K 2 (gCons (gName i) (gCons (gName j) gNil)) x σ' Hb Q := fun ⟨a, xs, h1, h2, h3, v, r, h4, v2, r2, h5, h6, p⟩ => ⟨a, xs, h1, h2, h3, v, r, h4, v2, r2, h5, h6, h _ _ p⟩
def TGMono (g : TG) : Prop := ∀ x σ' Hb (P Q : L2.St → Hp → Prop), (∀ σ2 H2, P σ2 H2 → Q σ2 H2) → g x σ' Hb P → g x σ' Hb Q
theorem gm_name {j : Nat} : TGMono (gName j) := fun _ _ _ _ _ h => gName_mono h
theorem gm_pair {i j : Nat} : TGMono (gTup K 2 (gCons (gName i) (gCons (gName j) gNil))) := fun _ _ _ _ _ h => gPair_mono h
/-- over a tuple -/
theorem evf_lcT {tl : TE} {vs : List Nat} (gm : TGMono g) (f : Nat → Bool) (val : Nat → PyData) (h : EvD K tl σ H (.tuple ds)) (hn : ds.length ≤ 40000) (him : ∀ i, i < ds.length → f i = true → imm (val i) = true)
    (hb : ∀ i e x H2, ds[i]? = some e → Ex H H2 → Dp K H2 x e → g x (wipe σ vs) H2 fun σ2 H3 => Ex H2 H3 ∧ wipe σ2 vs = wipe σ vs ∧ EvT t σ2 H3 (f i) ∧ (f i = true → EvD K te σ2 H3 (val i))) : EvF K (tLc (iTup K tl) g t te vs) σ H (givD ds.length f val) := fun H0 e0 Q q =>
  h H0 e0 _ fun v H1 e1 hv => by
    obtain ⟨a, xs, rfl, hq, hx⟩ := hv.tup_inv
    refine ⟨a, rfl, ⟨xs, hq⟩, ?_⟩
    have hl := hx.len
    refine lcd_core (K := K) (n := xs.length) (walk_tup (xs := xs)) f val (by omega) (fun i hi => him i (by omega)) (fun H' e => ex_t e hq) (fun i x Ha Hb hi ea y => ?_) (fun x Hb P Q => gm x _ Hb P Q) fun p ys H2 hp e2 h1 h2 => q p ys H2 (fresh_back e1 hp) (e1.trans e2) h1 (by rw [← hl]; exact h2)
    obtain ⟨rfl, hxi⟩ := y
    obtain ⟨d', hd1, hd2⟩ := dpAll_of_get hx hxi
    exact hb i d' x _ hd1 ((e0.trans e1).trans ea) (hd2.ex ea)
/-- over a list -/
theorem evf_lcL {tl : TE} {vs : List Nat} (gm : TGMono g) (f : Nat → Bool) (val : Nat → PyData) (h : EvD K tl σ H (.list ds)) (hn : ds.length ≤ 40000) (him : ∀ i, i < ds.length → f i = true → imm (val i) = true)
    (hb : ∀ i e x H2, ds[i]? = some e → Ex H H2 → Dp K H2 x e → g x (wipe σ vs) H2 fun σ2 H3 => Ex H2 H3 ∧ wipe σ2 vs = wipe σ vs ∧ EvT t σ2 H3 (f i) ∧ (f i = true → EvD K te σ2 H3 (val i))) : EvF K (tLc (iList K tl) g t te vs) σ H (givD ds.length f val) := fun H0 e0 Q q =>
  h H0 e0 _ fun v H1 e1 hv => by
    obtain ⟨a, xs, rfl, hq, hx⟩ := hv.lst_inv
    refine ⟨a, rfl, ⟨xs, hq⟩, ?_⟩
    have hl := hx.len
    refine lcd_core (K := K) (n := xs.length) (walk_list (xs := xs)) f val (by omega) (fun i hi => him i (by omega)) (fun H' e => ex_l e hq) (fun i x Ha Hb hi ea y => ?_) (fun x Hb P Q => gm x _ Hb P Q) fun p ys H2 hp e2 h1 h2 => q p ys H2 (fresh_back e1 hp) (e1.trans e2) h1 (by rw [← hl]; exact h2)
    obtain ⟨rfl, hxi⟩ := y
    obtain ⟨d', hd1, hd2⟩ := dpAll_of_get hx hxi
    exact hb i d' x _ hd1 ((e0.trans e1).trans ea) (hd2.ex ea)
/-- over range(n) -/
theorem evf_lcR {ta : TA} {vs : List Nat} {n : Int} (gm : TGMono g) (f : Nat → Bool) (val : Nat → PyData) (h : EvA ta σ H [.int n]) (h0 : 0 ≤ n) (hn : n ≤ 40000) (him : ∀ i, i < n.toNat → f i = true → imm (val i) = true)
    (hb : ∀ (i : Nat) H2, i < n.toNat → Ex H H2 → g (.int (i : Int)) (wipe σ vs) H2 fun σ2 H3 => Ex H2 H3 ∧ wipe σ2 vs = wipe σ vs ∧ EvT t σ2 H3 (f i) ∧ (f i = true → EvD K te σ2 H3 (val i))) : EvF K (tLc (iRng1 ta) g t te vs) σ H (givD n.toNat f val) := fun H0 e0 Q q =>
  h H0 e0 _ fun H1 e1 => by
    refine ⟨n, rfl, by omega, by omega, ?_⟩
    refine lcd_core (K := K) (n := n.toNat) walk_range f val (by omega) him (fun H' e => trivial) (fun i x Ha Hb hi ea y => ?_) (fun x Hb P Q => gm x _ Hb P Q) fun p ys H2 hp e2 h1 h2 => q p ys H2 (fresh_back e1 hp) (e1.trans e2) h1 h2
    obtain ⟨rfl, rfl⟩ := y
    have ez : (0 : Int) + (i : Int) = (i : Int) := Int.zero_add _
    show g (.int ((0 : Int) + (i : Int))) (wipe σ vs) Hb _
    rw [ez]
    exact hb i _ hi ((e0.trans e1).trans ea)
/-- over a text -/
theorem evf_lcS {tl : TE} {z : Str} {vs : List Nat} (gm : TGMono g) (f : Nat → Bool) (val : Nat → PyData) (h : Ev tl σ H (.str z)) (hn : z.cps.size ≤ 40000) (him : ∀ i, i < z.cps.size → f i = true → imm (val i) = true)
    (hb : ∀ (i : Nat) c H2, z.cps[i]? = some c → Ex H H2 → g (.str ⟨#[c]⟩) (wipe σ vs) H2 fun σ2 H3 => Ex H2 H3 ∧ wipe σ2 vs = wipe σ vs ∧ EvT t σ2 H3 (f i) ∧ (f i = true → EvD K te σ2 H3 (val i))) : EvF K (tLc (iStr tl) g t te vs) σ H (givD z.cps.size f val) := fun H0 e0 Q q =>
  h H0 e0 _ fun H1 e1 => by
    refine ⟨z, rfl, ?_⟩
    refine lcd_core (K := K) (n := z.cps.size) walk_str f val (by omega) him (fun H' e => trivial) (fun i x Ha Hb hi ea y => ?_) (fun x Hb P Q => gm x _ Hb P Q) fun p ys H2 hp e2 h1 h2 => q p ys H2 (fresh_back e1 hp) (e1.trans e2) h1 h2
    obtain ⟨rfl, c, hc, rfl⟩ := y
    exact hb i c _ hc ((e0.trans e1).trans ea)
theorem et_yes : EvT tYes σ H true := fun H1 _ _ q => q H1 (Ex.refl H1)
end
end Ef

/-! The defs' names and scopes; what the walk asks of the top. -/
namespace Ef
open PySem PySem.Spec PyProof.Rows L2 Evl

abbrev N_check_places : List Str := [("land" : Str), ("rows" : Str), ("row" : Str), ("place" : Str)]
abbrev P_check_places : List Str := [("land" : Str), ("rows" : Str)]
theorem sc_check_places : FnScope N_check_places P_check_places (defScope s_check_places) := ⟨rfl, rfl, rfl, by decide +kernel, rfl, by decide +kernel, by decide +kernel⟩
abbrev N_check_winds : List Str := [("land" : Str), ("weather" : Str), ("_" : Str), ("wind" : Str)]
abbrev P_check_winds : List Str := [("land" : Str), ("weather" : Str)]
theorem sc_check_winds : FnScope N_check_winds P_check_winds (defScope s_check_winds) := ⟨rfl, rfl, rfl, by decide +kernel, rfl, by decide +kernel, by decide +kernel⟩
abbrev N_check_changes : List Str := [("weather" : Str), ("minutes" : Str), ("minute" : Str), ("_" : Str), ("later" : Str)]
abbrev P_check_changes : List Str := [("weather" : Str)]
theorem sc_check_changes : FnScope N_check_changes P_check_changes (defScope s_check_changes) := ⟨rfl, rfl, rfl, by decide +kernel, rfl, by decide +kernel, by decide +kernel⟩
abbrev N_blowing : List Str := [("weather" : Str), ("minute" : Str), ("start" : Str), ("wind" : Str)]
abbrev P_blowing : List Str := [("weather" : Str), ("minute" : Str)]
theorem sc_blowing : FnScope N_blowing P_blowing (defScope s_blowing) := ⟨rfl, rfl, rfl, by decide +kernel, rfl, by decide +kernel, by decide +kernel⟩
abbrev N_chances : List Str := [("weather" : Str), ("minute" : Str), ("start" : Str), ("_" : Str)]
abbrev P_chances : List Str := [("weather" : Str), ("minute" : Str)]
theorem sc_chances : FnScope N_chances P_chances (defScope s_chances) := ⟨rfl, rfl, rfl, by decide +kernel, rfl, by decide +kernel, by decide +kernel⟩
abbrev N_least_numbers : List Str := [("land" : Str), ("link" : Str), ("pair" : Str)]
abbrev P_least_numbers : List Str := [("land" : Str)]
theorem sc_least_numbers : FnScope N_least_numbers P_least_numbers (defScope s_least_numbers) := ⟨rfl, rfl, rfl, by decide +kernel, rfl, by decide +kernel, by decide +kernel⟩
abbrev N_is_number : List Str := [("number" : Str), ("pair" : Str)]
abbrev P_is_number : List Str := [("number" : Str), ("pair" : Str)]
theorem sc_is_number : FnScope N_is_number P_is_number (defScope s_is_number) := ⟨rfl, rfl, rfl, by decide +kernel, rfl, by decide +kernel, by decide +kernel⟩
abbrev N_check_numbers : List Str := [("land" : Str), ("numbers" : Str), ("row" : Str), ("link" : Str), ("number" : Str), ("pair" : Str)]
abbrev P_check_numbers : List Str := [("land" : Str), ("numbers" : Str)]
theorem sc_check_numbers : FnScope N_check_numbers P_check_numbers (defScope s_check_numbers) := ⟨rfl, rfl, rfl, by decide +kernel, rfl, by decide +kernel, by decide +kernel⟩
abbrev N_check_rows : List Str := [("land" : Str), ("rows" : Str), ("place" : Str), ("_" : Str)]
abbrev P_check_rows : List Str := [("land" : Str), ("rows" : Str)]
theorem sc_check_rows : FnScope N_check_rows P_check_rows (defScope s_check_rows) := ⟨rfl, rfl, rfl, by decide +kernel, rfl, by decide +kernel, by decide +kernel⟩
abbrev N_least_minutes : List Str := [("rows" : Str), ("found" : Str), ("place" : Str), ("minute" : Str)]
abbrev P_least_minutes : List Str := [("rows" : Str)]
theorem sc_least_minutes : FnScope N_least_minutes P_least_minutes (defScope s_least_minutes) := ⟨rfl, rfl, rfl, by decide +kernel, rfl, by decide +kernel, by decide +kernel⟩
abbrev N_caught : List Str := [("land" : Str), ("weather" : Str), ("row" : Str), ("minute" : Str), ("ends" : Str), ("start" : Str), ("number" : Str)]
abbrev P_caught : List Str := [("land" : Str), ("weather" : Str), ("row" : Str), ("minute" : Str)]
theorem sc_caught : FnScope N_caught P_caught (defScope s_caught) := ⟨rfl, rfl, rfl, by decide +kernel, rfl, by decide +kernel, by decide +kernel⟩
abbrev N_spread : List Str := [("land" : Str), ("weather" : Str), ("starts" : Str), ("breaks" : Str), ("numbers" : Str), ("broken" : Str), ("waiting" : Str), ("place" : Str), ("minute" : Str), ("found" : Str), ("link" : Str), ("row" : Str), ("end" : Str)]
abbrev P_spread : List Str := [("land" : Str), ("weather" : Str), ("starts" : Str), ("breaks" : Str), ("numbers" : Str)]
theorem sc_spread : FnScope N_spread P_spread (defScope s_spread) := ⟨rfl, rfl, rfl, by decide +kernel, rfl, by decide +kernel, by decide +kernel⟩
abbrev N_check_fire : List Str := [("land" : Str), ("weather" : Str), ("starts" : Str), ("breaks" : Str)]
abbrev P_check_fire : List Str := [("land" : Str), ("weather" : Str), ("starts" : Str), ("breaks" : Str)]
theorem sc_check_fire : FnScope N_check_fire P_check_fire (defScope s_check_fire) := ⟨rfl, rfl, rfl, by decide +kernel, rfl, by decide +kernel, by decide +kernel⟩
abbrev N_told : List Str := [("land" : Str), ("found" : Str), ("place" : Str)]
abbrev P_told : List Str := [("land" : Str), ("found" : Str)]
theorem sc_told : FnScope N_told P_told (defScope s_told) := ⟨rfl, rfl, rfl, by decide +kernel, rfl, by decide +kernel, by decide +kernel⟩
abbrev N_burning : List Str := [("land" : Str), ("weather" : Str), ("starts" : Str), ("breaks" : Str), ("numbers" : Str)]
abbrev P_burning : List Str := [("land" : Str), ("weather" : Str), ("starts" : Str), ("breaks" : Str), ("numbers" : Str)]
theorem sc_burning : FnScope N_burning P_burning (defScope s_burning) := ⟨rfl, rfl, rfl, by decide +kernel, rfl, by decide +kernel, by decide +kernel⟩
abbrev N_fastest : List Str := [("land" : Str), ("weather" : Str), ("starts" : Str), ("breaks" : Str)]
abbrev P_fastest : List Str := [("land" : Str), ("weather" : Str), ("starts" : Str), ("breaks" : Str)]
theorem sc_fastest : FnScope N_fastest P_fastest (defScope s_fastest) := ⟨rfl, rfl, rfl, by decide +kernel, rfl, by decide +kernel, by decide +kernel⟩
abbrev N_never_burn : List Str := [("land" : Str), ("weather" : Str), ("starts" : Str), ("breaks" : Str), ("goals" : Str), ("burns" : Str), ("goal" : Str)]
abbrev P_never_burn : List Str := [("land" : Str), ("weather" : Str), ("starts" : Str), ("breaks" : Str), ("goals" : Str)]
theorem sc_never_burn : FnScope N_never_burn P_never_burn (defScope s_never_burn) := ⟨rfl, rfl, rfl, by decide +kernel, rfl, by decide +kernel, by decide +kernel⟩
abbrev N_check_question : List Str := [("land" : Str), ("weather" : Str), ("starts" : Str), ("breaks" : Str), ("goals" : Str)]
abbrev P_check_question : List Str := [("land" : Str), ("weather" : Str), ("starts" : Str), ("breaks" : Str), ("goals" : Str)]
theorem sc_check_question : FnScope N_check_question P_check_question (defScope s_check_question) := ⟨rfl, rfl, rfl, by decide +kernel, rfl, by decide +kernel, by decide +kernel⟩
abbrev N_keeps : List Str := [("land" : Str), ("weather" : Str), ("starts" : Str), ("breaks" : Str), ("goals" : Str)]
abbrev P_keeps : List Str := [("land" : Str), ("weather" : Str), ("starts" : Str), ("breaks" : Str), ("goals" : Str)]
theorem sc_keeps : FnScope N_keeps P_keeps (defScope s_keeps) := ⟨rfl, rfl, rfl, by decide +kernel, rfl, by decide +kernel, by decide +kernel⟩
abbrev N_is_name : List Str := [("text" : Str), ("char" : Str)]
abbrev P_is_name : List Str := [("text" : Str)]
theorem sc_is_name : FnScope N_is_name P_is_name (defScope s_is_name) := ⟨rfl, rfl, rfl, by decide +kernel, rfl, by decide +kernel, by decide +kernel⟩
abbrev N_are_different : List Str := [("parts" : Str), ("number" : Str), ("part" : Str)]
abbrev P_are_different : List Str := [("parts" : Str)]
theorem sc_are_different : FnScope N_are_different P_are_different (defScope s_are_different) := ⟨rfl, rfl, rfl, by decide +kernel, rfl, by decide +kernel, by decide +kernel⟩
abbrev N_require : List Str := [("holds" : Str)]
abbrev P_require : List Str := [("holds" : Str)]
theorem sc_require : FnScope N_require P_require (defScope s_require) := ⟨rfl, rfl, rfl, by decide +kernel, rfl, by decide +kernel, by decide +kernel⟩
abbrev N_checked_times : List Str := [("times" : Str), ("many" : Str), ("found" : Str), ("pair" : Str)]
abbrev P_checked_times : List Str := [("times" : Str), ("many" : Str)]
theorem sc_checked_times : FnScope N_checked_times P_checked_times (defScope s_checked_times) := ⟨rfl, rfl, rfl, by decide +kernel, rfl, by decide +kernel, by decide +kernel⟩
abbrev N_Land_init : List Str := [("self" : Str), ("winds" : Str), ("places" : Str), ("links" : Str), ("paths" : Str), ("wind" : Str), ("place" : Str), ("link" : Str), ("path" : Str)]
abbrev P_Land_init : List Str := [("self" : Str), ("winds" : Str), ("places" : Str), ("links" : Str), ("paths" : Str)]
theorem sc_Land_init : FnScope N_Land_init P_Land_init (defScope s_Land_init) := ⟨rfl, rfl, rfl, by decide +kernel, rfl, by decide +kernel, by decide +kernel⟩
abbrev N_Land_are_ends : List Str := [("self" : Str), ("one" : Str), ("other" : Str)]
abbrev P_Land_are_ends : List Str := [("self" : Str), ("one" : Str), ("other" : Str)]
theorem sc_Land_are_ends : FnScope N_Land_are_ends P_Land_are_ends (defScope s_Land_are_ends) := ⟨rfl, rfl, rfl, by decide +kernel, rfl, by decide +kernel, by decide +kernel⟩
abbrev N_Land_checked_link : List Str := [("self" : Str), ("link" : Str), ("name" : Str), ("one" : Str), ("other" : Str), ("times" : Str)]
abbrev P_Land_checked_link : List Str := [("self" : Str), ("link" : Str)]
theorem sc_Land_checked_link : FnScope N_Land_checked_link P_Land_checked_link (defScope s_Land_checked_link) := ⟨rfl, rfl, rfl, by decide +kernel, rfl, by decide +kernel, by decide +kernel⟩
abbrev N_Land_checked_path : List Str := [("self" : Str), ("path" : Str), ("one" : Str), ("other" : Str), ("minutes" : Str)]
abbrev P_Land_checked_path : List Str := [("self" : Str), ("path" : Str)]
theorem sc_Land_checked_path : FnScope N_Land_checked_path P_Land_checked_path (defScope s_Land_checked_path) := ⟨rfl, rfl, rfl, by decide +kernel, rfl, by decide +kernel, by decide +kernel⟩
abbrev N_Land_link_names : List Str := [("self" : Str), ("link" : Str)]
abbrev P_Land_link_names : List Str := [("self" : Str)]
theorem sc_Land_link_names : FnScope N_Land_link_names P_Land_link_names (defScope s_Land_link_names) := ⟨rfl, rfl, rfl, by decide +kernel, rfl, by decide +kernel, by decide +kernel⟩
abbrev N_Land_check_place : List Str := [("self" : Str), ("place" : Str)]
abbrev P_Land_check_place : List Str := [("self" : Str), ("place" : Str)]
theorem sc_Land_check_place : FnScope N_Land_check_place P_Land_check_place (defScope s_Land_check_place) := ⟨rfl, rfl, rfl, by decide +kernel, rfl, by decide +kernel, by decide +kernel⟩
abbrev N_Land_check_wind : List Str := [("self" : Str), ("wind" : Str)]
abbrev P_Land_check_wind : List Str := [("self" : Str), ("wind" : Str)]
theorem sc_Land_check_wind : FnScope N_Land_check_wind P_Land_check_wind (defScope s_Land_check_wind) := ⟨rfl, rfl, rfl, by decide +kernel, rfl, by decide +kernel, by decide +kernel⟩
abbrev N_law_row : List Str := [("_law_cell" : Str), ("_law_many" : Str), ("_law_row_here" : Str), ("_law_rest" : Str), ("_law_mixed" : Str), ("_law_k" : Str)]
abbrev P_law_row : List Str := [("_law_cell" : Str), ("_law_many" : Str)]
theorem sc_law_row : FnScope N_law_row P_law_row (defScope s_law_row) := ⟨rfl, rfl, rfl, by decide +kernel, rfl, by decide +kernel, by decide +kernel⟩
abbrev N_law_numbers : List Str := [("_law_script" : Str), ("_law_many" : Str), ("_law_cells" : Str), ("_law_each" : Str), ("_law_numbers_here" : Str), ("_law_cell" : Str), ("_law_number" : Str)]
abbrev P_law_numbers : List Str := [("_law_script" : Str), ("_law_many" : Str)]
theorem sc_law_numbers : FnScope N_law_numbers P_law_numbers (defScope s_law_numbers) := ⟨rfl, rfl, rfl, by decide +kernel, rfl, by decide +kernel, by decide +kernel⟩
abbrev N_law_parts : List Str := [("_law_numbers_here" : Str), ("_law_at" : Str), ("_law_winds" : Str), ("_law_places" : Str), ("_law_names_here" : Str), ("_law_links" : Str), ("_law_k" : Str), ("_law_spot" : Str), ("_law_one" : Str), ("_law_other" : Str), ("_law_times" : Str), ("_law_j" : Str), ("_law_least" : Str), ("_law_paths" : Str), ("_law_known" : Str), ("_law_path" : Str)]
abbrev P_law_parts : List Str := [("_law_numbers_here" : Str), ("_law_at" : Str)]
theorem sc_law_parts : FnScope N_law_parts P_law_parts (defScope s_law_parts) := ⟨rfl, rfl, rfl, by decide +kernel, rfl, by decide +kernel, by decide +kernel⟩
abbrev N_law_weather : List Str := [("_law_numbers_here" : Str), ("_law_at" : Str), ("_law_parts_here" : Str), ("_law_weather_here" : Str), ("_law_k" : Str), ("_law_wind_here" : Str)]
abbrev P_law_weather : List Str := [("_law_numbers_here" : Str), ("_law_at" : Str), ("_law_parts_here" : Str)]
theorem sc_law_weather : FnScope N_law_weather P_law_weather (defScope s_law_weather) := ⟨rfl, rfl, rfl, by decide +kernel, rfl, by decide +kernel, by decide +kernel⟩
abbrev N_law_wind : List Str := [("_law_parts_here" : Str), ("_law_weather_here" : Str), ("_law_minute" : Str), ("_law_wind_here" : Str), ("_law_row_here" : Str)]
abbrev P_law_wind : List Str := [("_law_parts_here" : Str), ("_law_weather_here" : Str), ("_law_minute" : Str)]
theorem sc_law_wind : FnScope N_law_wind P_law_wind (defScope s_law_wind) := ⟨rfl, rfl, rfl, by decide +kernel, rfl, by decide +kernel, by decide +kernel⟩
abbrev N_law_caught : List Str := [("_law_parts_here" : Str), ("_law_weather_here" : Str), ("_law_link" : Str), ("_law_minute" : Str), ("_law_side" : Str), ("_law_caught_here" : Str), ("_law_start" : Str), ("_law_row_here" : Str), ("_law_bounds" : Str)]
abbrev P_law_caught : List Str := [("_law_parts_here" : Str), ("_law_weather_here" : Str), ("_law_link" : Str), ("_law_minute" : Str), ("_law_side" : Str)]
theorem sc_law_caught : FnScope N_law_caught P_law_caught (defScope s_law_caught) := ⟨rfl, rfl, rfl, by decide +kernel, rfl, by decide +kernel, by decide +kernel⟩
abbrev N_law_fire : List Str := [("_law_parts_here" : Str), ("_law_weather_here" : Str), ("_law_starts" : Str), ("_law_breaks" : Str), ("_law_side" : Str), ("_law_ends" : Str), ("_law_place" : Str), ("_law_minute" : Str), ("_law_burns" : Str), ("_law_turn" : Str), ("_law_link" : Str), ("_law_caught_here" : Str)]
abbrev P_law_fire : List Str := [("_law_parts_here" : Str), ("_law_weather_here" : Str), ("_law_starts" : Str), ("_law_breaks" : Str), ("_law_side" : Str)]
theorem sc_law_fire : FnScope N_law_fire P_law_fire (defScope s_law_fire) := ⟨rfl, rfl, rfl, by decide +kernel, rfl, by decide +kernel, by decide +kernel⟩
abbrev N_law_rows : List Str := [("_law_numbers_here" : Str), ("_law_at" : Str), ("_law_many" : Str), ("_law_parts_here" : Str), ("_law_most" : Str), ("_law_rows_here" : Str), ("_law_k" : Str)]
abbrev P_law_rows : List Str := [("_law_numbers_here" : Str), ("_law_at" : Str), ("_law_many" : Str), ("_law_parts_here" : Str), ("_law_most" : Str)]
theorem sc_law_rows : FnScope N_law_rows P_law_rows (defScope s_law_rows) := ⟨rfl, rfl, rfl, by decide +kernel, rfl, by decide +kernel, by decide +kernel⟩
abbrev N_law_names : List Str := [("_law_number" : Str), ("_law_many" : Str), ("_law_letters" : Str), ("_law_size" : Str), ("_law_rest" : Str), ("_law_k" : Str), ("_law_place" : Str), ("_law_names_here" : Str), ("_law_own" : Str), ("_law_spot" : Str), ("_law_step" : Str), ("_law_first" : Str)]
abbrev P_law_names : List Str := [("_law_number" : Str), ("_law_many" : Str)]
theorem sc_law_names : FnScope N_law_names P_law_names (defScope s_law_names) := ⟨rfl, rfl, rfl, by decide +kernel, rfl, by decide +kernel, by decide +kernel⟩
abbrev N_law_made : List Str := [("_law_parts_here" : Str)]
abbrev P_law_made : List Str := [("_law_parts_here" : Str)]
theorem sc_law_made : FnScope N_law_made P_law_made (defScope s_law_made) := ⟨rfl, rfl, rfl, by decide +kernel, rfl, by decide +kernel, by decide +kernel⟩
abbrev N_law_some : List Str := [("_law_numbers_here" : Str), ("_law_at" : Str), ("_law_parts_here" : Str), ("_law_step" : Str), ("_law_k" : Str)]
abbrev P_law_some : List Str := [("_law_numbers_here" : Str), ("_law_at" : Str), ("_law_parts_here" : Str), ("_law_step" : Str)]
theorem sc_law_some : FnScope N_law_some P_law_some (defScope s_law_some) := ⟨rfl, rfl, rfl, by decide +kernel, rfl, by decide +kernel, by decide +kernel⟩
abbrev N_law_told : List Str := [("_law_parts_here" : Str), ("_law_burns" : Str), ("_law_place" : Str)]
abbrev P_law_told : List Str := [("_law_parts_here" : Str), ("_law_burns" : Str)]
theorem sc_law_told : FnScope N_law_told P_law_told (defScope s_law_told) := ⟨rfl, rfl, rfl, by decide +kernel, rfl, by decide +kernel, by decide +kernel⟩
abbrev N_law_kept : List Str := [("_law_parts_here" : Str), ("_law_weather_here" : Str), ("_law_starts" : Str), ("_law_breaks" : Str), ("_law_goals" : Str), ("_law_burns" : Str), ("_law_goal" : Str)]
abbrev P_law_kept : List Str := [("_law_parts_here" : Str), ("_law_weather_here" : Str), ("_law_starts" : Str), ("_law_breaks" : Str), ("_law_goals" : Str)]
theorem sc_law_kept : FnScope N_law_kept P_law_kept (defScope s_law_kept) := ⟨rfl, rfl, rfl, by decide +kernel, rfl, by decide +kernel, by decide +kernel⟩
abbrev N_law_between : List Str := [("_law_numbers_here" : Str), ("_law_at" : Str), ("_law_parts_here" : Str), ("_law_links" : Str), ("_law_k" : Str), ("_law_name" : Str), ("_law_one" : Str), ("_law_other" : Str), ("_law_times" : Str), ("_law_own" : Str), ("_law_n" : Str), ("_law_number" : Str)]
abbrev P_law_between : List Str := [("_law_numbers_here" : Str), ("_law_at" : Str), ("_law_parts_here" : Str)]
theorem sc_law_between : FnScope N_law_between P_law_between (defScope s_law_between) := ⟨rfl, rfl, rfl, by decide +kernel, rfl, by decide +kernel, by decide +kernel⟩
abbrev N_law : List Str := [("_law_script" : Str), ("_law_numbers_here" : Str), ("_law_parts_here" : Str), ("_law_weather_here" : Str), ("_law_starts" : Str), ("_law_breaks" : Str), ("_law_goals" : Str), ("_law_land" : Str), ("_law_actual" : Str), ("_law_other" : Str), ("_law_burns" : Str), ("_law_goal" : Str), ("_law_fire_here" : Str), ("_law_link" : Str), ("_law_pair" : Str)]
abbrev P_law : List Str := [("_law_script" : Str)]
theorem sc_law : FnScope N_law P_law (defScope s_law) := ⟨rfl, rfl, rfl, by decide +kernel, rfl, by decide +kernel, by decide +kernel⟩

/-- a def as it stands: its address, its object, how its arguments bind -/
structure Dfn (K : PySem.W.Frag) (x qual : Str) (st : Stmt) (ps : List Str) : Type where
  a : Addr
  fd : FuncData
  F : Fun K x qual st a fd
  b : Binds K fd ps []
/-- a def of the module -/
structure GDfn (K : PySem.W.Frag) (mg : Str → Option Value) (x : Str) (st : Stmt) (ps : List Str) : Type extends Dfn K x x st ps where
  g : mg x = some (.ref a)
/-- the same of a def with a star -/
structure SDfn (K : PySem.W.Frag) (mg : Str → Option Value) (x : Str) (st : Stmt) : Type where
  a : Addr
  fd : FuncData
  F : Fun K x x st a fd
  g : mg x = some (.ref a)
structure Tx (K : PySem.W.Frag) (mg : Str → Option Value) : Type where
  check_places : SDfn K mg "check_places" s_check_places
  check_winds : GDfn K mg "check_winds" s_check_winds P_check_winds
  check_changes : GDfn K mg "check_changes" s_check_changes P_check_changes
  blowing : GDfn K mg "blowing" s_blowing P_blowing
  chances : GDfn K mg "chances" s_chances P_chances
  least_numbers : GDfn K mg "least_numbers" s_least_numbers P_least_numbers
  is_number : GDfn K mg "is_number" s_is_number P_is_number
  check_numbers : GDfn K mg "check_numbers" s_check_numbers P_check_numbers
  check_rows : GDfn K mg "check_rows" s_check_rows P_check_rows
  least_minutes : GDfn K mg "least_minutes" s_least_minutes P_least_minutes
  caught : GDfn K mg "caught" s_caught P_caught
  spread : GDfn K mg "spread" s_spread P_spread
  check_fire : GDfn K mg "check_fire" s_check_fire P_check_fire
  told : GDfn K mg "told" s_told P_told
  burning : GDfn K mg "burning" s_burning P_burning
  fastest : GDfn K mg "fastest" s_fastest P_fastest
  never_burn : GDfn K mg "never_burn" s_never_burn P_never_burn
  check_question : GDfn K mg "check_question" s_check_question P_check_question
  keeps : GDfn K mg "keeps" s_keeps P_keeps
  is_name : GDfn K mg "is_name" s_is_name P_is_name
  are_different : GDfn K mg "are_different" s_are_different P_are_different
  require : GDfn K mg "require" s_require P_require
  checked_times : GDfn K mg "checked_times" s_checked_times P_checked_times
  Land_are_ends : Dfn K "are_ends" "Land.are_ends" s_Land_are_ends P_Land_are_ends
  Land_checked_link : Dfn K "checked_link" "Land.checked_link" s_Land_checked_link P_Land_checked_link
  Land_checked_path : Dfn K "checked_path" "Land.checked_path" s_Land_checked_path P_Land_checked_path
  Land_link_names : Dfn K "link_names" "Land.link_names" s_Land_link_names P_Land_link_names
  Land_check_place : Dfn K "check_place" "Land.check_place" s_Land_check_place P_Land_check_place
  Land_check_wind : Dfn K "check_wind" "Land.check_wind" s_Land_check_wind P_Land_check_wind
  law_row : GDfn K mg "_law_row" s_law_row P_law_row
  law_numbers : GDfn K mg "_law_numbers" s_law_numbers P_law_numbers
  law_parts : GDfn K mg "_law_parts" s_law_parts P_law_parts
  law_weather : GDfn K mg "_law_weather" s_law_weather P_law_weather
  law_wind : GDfn K mg "_law_wind" s_law_wind P_law_wind
  law_caught : GDfn K mg "_law_caught" s_law_caught P_law_caught
  law_fire : GDfn K mg "_law_fire" s_law_fire P_law_fire
  law_rows : GDfn K mg "_law_rows" s_law_rows P_law_rows
  law_names : GDfn K mg "_law_names" s_law_names P_law_names
  law_made : GDfn K mg "_law_made" s_law_made P_law_made
  law_some : GDfn K mg "_law_some" s_law_some P_law_some
  law_told : GDfn K mg "_law_told" s_law_told P_law_told
  law_kept : GDfn K mg "_law_kept" s_law_kept P_law_kept
  law_between : GDfn K mg "_law_between" s_law_between P_law_between
  law : GDfn K mg "law" s_law P_law
  ia : Addr
  ifd : FuncData
  iF : Fun K "__init__" "Land.__init__" s_Land_init ia ifd
  C : Addr
  mC : mg "Land" = some (.ref C)
  cl : Cls K C
  mkr : Mk K C ia
  kb : KBn K ifd P_Land_init 1 ["winds", "places", "links", "paths"] (fun us ws => us ++ ws) (fun vs zs => vs ++ zs)
  m_are_ends : Meth K C "are_ends" Land_are_ends.a
  m_checked_link : Meth K C "checked_link" Land_checked_link.a
  m_checked_path : Meth K C "checked_path" Land_checked_path.a
  m_check_place : Meth K C "check_place" Land_check_place.a
  m_check_wind : Meth K C "check_wind" Land_check_wind.a
  pa : Addr
  prop : PropOf K C "link_names" pa Land_link_names.a
  n_winds : NoAttr K C "winds"
  n_places : NoAttr K C "places"
  n_links : NoAttr K C "links"
  n_paths : NoAttr K C "paths"
  u_len : mg "len" = none
  u_min : mg "min" = none
  u_max : mg "max" = none
  u_abs : mg "abs" = none
  u_int : mg "int" = none
  u_any : mg "any" = none
  u_all : mg "all" = none
  u_zip : mg "zip" = none
  u_enumerate : mg "enumerate" = none
  u_range : mg "range" = none
  u_tuple : mg "tuple" = none
  u_list : mg "list" = none
  u_dict : mg "dict" = none
  u_sorted : mg "sorted" = none
  u_isinstance : mg "isinstance" = none
  u_bool : mg "bool" = none
  c_MOST_CHANGES : ∃ t, mg "MOST_CHANGES" = some (.int 40 t)
  c_MOST_MINUTE : ∃ t, mg "MOST_MINUTE" = some (.int 100000 t)
  c_MOST_NAME_CHARS : ∃ t, mg "MOST_NAME_CHARS" = some (.int 12 t)
  c_MOST_WINDS : ∃ t, mg "MOST_WINDS" = some (.int 4 t)
  c_MOST_PLACES : ∃ t, mg "MOST_PLACES" = some (.int 24 t)
  c_MOST_LINKS : ∃ t, mg "MOST_LINKS" = some (.int 60 t)
  c_MOST_PATHS : ∃ t, mg "MOST_PATHS" = some (.int 60 t)
  c_MOST_MINUTES : ∃ t, mg "MOST_MINUTES" = some (.int 1000 t)
  c_NAME_CHARS : ∃ t, mg "NAME_CHARS" = some (.str "abcdefghijklmnopqrstuvwxyz0123456789" t)

section
variable {X : Cx}
theorem pe_globI {x : Str} {i : Int} {pos : Pos} (hg : Gl X x) (hm : ∃ t, X.mg x = some (.int i t)) (hd : (x == ("__debug__" : Str)) = false := by decide) : PE X (.Name x pos) (tC (.int i)) := by
  obtain ⟨t, h⟩ := hm
  exact pe_glob hg h ⟨t, rfl⟩ hd
theorem pe_globS {x z : Str} {pos : Pos} (hg : Gl X x) (hm : ∃ t, X.mg x = some (.str z t)) (hd : (x == ("__debug__" : Str)) = false := by decide) : PE X (.Name x pos) (tC (.str z)) := by
  obtain ⟨t, h⟩ := hm
  exact pe_glob hg h ⟨t, rfl⟩ hd
theorem pe_callFR {CX : CXT} {k : Nat} {f : Addr} {sp : Sp} {E : XK} {x : Str} {p pos : Pos} {e : Expr} {es : List Expr} {t : TA} (F : FnR X.prog X.w X.K X.mg X.base CX k f sp) (hr : Room k X.A) (hg : Gl X x) (hm : X.mg x = some (.ref f)) (hk : PySem.W.keepIn X.K (.ref f) = true) (hx : Passes CX X E)
    (ha : PA X (e :: es) t) (hdb : (x == ("__debug__" : Str)) = false := by decide) (he : starEach (e :: es) X.env = (false, eval e X.env) :: starEach es X.env := by rfl) (hpl : (backTo pos (starEach es X.env)).any (·.1) = false := by rfl) :
    PE X (.Call (.Name x p) (e :: es) [] pos) (fun σ H Q => t σ H fun vs H1 => sp vs H1 Q E) := by
  refine ⟨fun pins s σ H Q I h => ?_⟩
  refine wpAny_Call_Name_kw (ld_glob I hg hm ?_ hdb)
  refine PySem.W.callWith_K (h₀ := X.base) I.ok.mod.kin hk (thn (ha.run pos pins s σ H _ I h) fun us s1 ⟨vs, H1, I1, r, q⟩ => ⟨I1.kIn, ?_⟩) he hpl
  exact wpAny_call (run_fnR F hr hx I1 r q)
end
section
variable {X : Cx}
theorem ix_listK {K : PySem.W.Frag} (h : X.K = K) : IxR X (rIxL K) := by subst h; exact ix_list
theorem ix_tupK {K : PySem.W.Frag} (h : X.K = K) : IxR X (rIxT K) := by subst h; exact ix_tup
theorem sl_listK {K : PySem.W.Frag} (h : X.K = K) : SlR X (rSlL K) := by subst h; exact sl_list
theorem sl_tupK {K : PySem.W.Frag} (h : X.K = K) : SlR X (rSlT K) := by subst h; exact sl_tup
theorem call_lenK {K : PySem.W.Frag} (h : X.K = K) : CallR X (.builtin "len") (rLen K) := by subst h; exact call_len'
theorem call_tupOfK {K : PySem.W.Frag} (h : X.K = K) : CallR X (.type "tuple") (rTupOf K) := by subst h; exact call_tupOf'
theorem call_listSK {K : PySem.W.Frag} (h : X.K = K) : CallR X (.type "list") (rListS K) := by subst h; exact call_listS'
theorem cr_allK {K : PySem.W.Frag} (hc : X.calm = true) (h : X.K = K) : CallR X (.builtin "all") (rAll K) := by subst h; exact cr_all hc
theorem cr_anyK {K : PySem.W.Frag} (hc : X.calm = true) (h : X.K = K) : CallR X (.builtin "any") (rAny K) := by subst h; exact cr_any hc
theorem cr_sortTK {K : PySem.W.Frag} (h : X.K = K) : CallR X (.builtin "sorted") (rSortT K) := by subst h; exact cr_sortT
theorem op_inK {K : PySem.W.Frag} (h : X.K = K) : OpR X (compareOp .In) (rIn K false) := by subst h; exact op_in_seq
theorem op_notInK {K : PySem.W.Frag} (h : X.K = K) : OpR X (compareOp .NotIn) (rIn K true) := by subst h; exact op_notIn_seq
theorem op_inDK {K : PySem.W.Frag} (hu : X.A.units + 65 < cLine) (h : X.K = K) : OpR X (compareOp .In) (rInD K) := by subst h; exact op_inD hu
theorem op_notInDK {K : PySem.W.Frag} (hu : X.A.units + 65 < cLine) (h : X.K = K) : OpR X (compareOp .NotIn) (rNotInD K) := by subst h; exact op_notInD hu
theorem op_neDK {K : PySem.W.Frag} (hu : X.A.units + 64 < cLine) (h : X.K = K) : OpR X (compareOp .NotEq) (rNeD K) := by subst h; exact op_neD hu
theorem pg_tupK {es : List Expr} {k : Nat} {t : TGs} {n : Nat} {pos : Pos} {K : PySem.W.Frag} (hK : X.K = K) (hc : X.calm = true) (h : PGs X es t) (hn : (assignEach es X.env).length = n := by rfl) (hst : (assignEach es X.env).findIdx? (·.1) = none := by rfl) : PG X (.Tuple es k pos) (gTup K n t) := by
  subst hK
  exact pg_tup hc h hn hst
theorem pi_listK {l tg : Expr} {tl : TE} {K : PySem.W.Frag} (hK : X.K = K) (hl : PE X l tl) : PI X tg l (iList K tl) := by subst hK; exact pi_list hl
theorem pi_tupK {l tg : Expr} {tl : TE} {K : PySem.W.Frag} (hK : X.K = K) (hl : PE X l tl) : PI X tg l (iTup K tl) := by subst hK; exact pi_tup hl
theorem pe_fldK {e : Expr} {f : Str} {pos : Pos} {ta : TE} {K : PySem.W.Frag} (hK : X.K = K) (he : PE X e ta) (hb : attributeBase e f X.env (eval e X.env) = eval e X.env) : PE X (.Attribute e f pos) (tFld K ta f) := by subst hK; exact pe_fld he hb
end
theorem hu64 {A : Around} {k : Nat} (hr : Room k A) : A.units + 64 < cLine := hr.units
theorem hu65 {A : Around} {k : Nat} (hr : Room k A) : A.units + 65 < cLine := by
  have := hr.un
  omega
end Ef

/-! The data of the walk, its plain law: weathers, what a link takes, the edges of a land. -/
namespace Ef
open PySem PySem.Spec PyProof.Rows L2 Evl

/-! ### data -/
structure Lk where
  nm : Str
  one : Str
  oth : Str
  ts : List (Option (Int × Int))
structure Pth where
  one : Str
  oth : Str
  mi : Int
structure Parts where
  ws : List Str
  ps : List Str
  ls : List Lk
  pt : List Pth
def dO : Option Int → PyData
  | none => .none
  | some i => .int i
def dP : Option (Int × Int) → PyData
  | none => .none
  | some p => .tuple [.int p.1, .int p.2]
def dL (l : Lk) : PyData := .tuple [.str l.nm, .str l.one, .str l.oth, .tuple (l.ts.map dP)]
def dT (p : Pth) : PyData := .tuple [.str p.one, .str p.oth, .int p.mi]
def dW (r : Int × Str) : PyData := .tuple [.int r.1, .str r.2]
def dR (r : Str × Int) : PyData := .tuple [.str r.1, .int r.2]
def dNs (r : List (Option Int)) : PyData := .tuple (r.map dO)
def dParts (P : Parts) : PyData := .list [.tuple (P.ws.map .str), .tuple (P.ps.map .str), .tuple (P.ls.map dL), .tuple (P.pt.map dT)]
def dTold (ps : List Str) (f : Str → Option Int) : List PyData := ps.map fun p => .tuple [.str p, dO (f p)]
theorem imm_dO (o : Option Int) : imm (dO o) = true := by cases o <;> simp [dO, imm]
theorem imm_dP (o : Option (Int × Int)) : imm (dP o) = true := by cases o <;> simp [dP, imm, immAll]
theorem imm_str (z : Str) : imm (.str z) = true := by simp [imm]
theorem imm_int (z : Int) : imm (.int z) = true := by simp [imm]
theorem imm_bool (z : Bool) : imm (.bool z) = true := by simp [imm]
theorem imm_strs (l : List Str) : immAll (l.map PyData.str) = true := immAll_map imm_str l
theorem imm_ints (l : List Int) : immAll (l.map PyData.int) = true := immAll_map imm_int l
theorem imm_dL (l : Lk) : imm (dL l) = true := by simp [dL, imm, immAll, immAll_map imm_dP]
theorem imm_dT (p : Pth) : imm (dT p) = true := by simp [dT, imm, immAll]
theorem imm_dW (r : Int × Str) : imm (dW r) = true := by simp [dW, imm, immAll]
theorem imm_dR (r : Str × Int) : imm (dR r) = true := by simp [dR, imm, immAll]
theorem imm_dNs (r : List (Option Int)) : imm (dNs r) = true := by simp [dNs, imm, immAll_map imm_dO]

/-! ### dicts -/
def encK (d : List (Str × Int)) : List (Key × V) := d.map fun r => (Sum.inr r.1, V.int r.2)
theorem valV_enc (p : Str) : ∀ d : List (Str × Int), valV (encK d) (Sum.inr p : Key) = (dget d p).map V.int
  | [] => rfl
  | (q, m) :: d => by
    rw [dget_cons]
    show valV ((Sum.inr q, V.int m) :: encK d) (Sum.inr p) = _
    by_cases h : q = p
    · rw [valV_pos (by show (Sum.inr q : Key) = Sum.inr p; rw [h]), if_pos h]; rfl
    · rw [valV_neg (by show ¬ (Sum.inr q : Key) = Sum.inr p; intro z; exact h (Sum.inr.inj z)), if_neg h, valV_enc p d]
theorem any_enc (p : Str) : ∀ d : List (Str × Int), ((encK d).any fun kv => decide (kv.1 = (Sum.inr p : Key))) = d.any fun kv => decide (kv.1 = p)
  | [] => rfl
  | (q, m) :: d => by
    show (decide ((Sum.inr q : Key) = Sum.inr p) || (encK d).any fun kv => decide (kv.1 = (Sum.inr p : Key))) = _
    rw [any_enc p d, List.any_cons, key_rr]
theorem putK_enc (d : List (Str × Int)) (p : Str) (m : Int) : putK (encK d) (Sum.inr p : Key) (V.int m) = encK (dput d p m) := by
  unfold putK dput
  rw [any_enc]
  split
  · unfold encK
    rw [List.map_map, List.map_map]
    apply List.map_congr_left
    intro r _
    show (if (Sum.inr r.1 : Key) = Sum.inr p then ((Sum.inr r.1 : Key), V.int m) else (Sum.inr r.1, V.int r.2)) = ((Sum.inr (if r.1 = p then (r.1, m) else r).1 : Key), V.int (if r.1 = p then (r.1, m) else r).2)
    by_cases h : r.1 = p
    · rw [if_pos h, if_pos (by rw [h])]
    · rw [if_neg h, if_neg (by intro z; exact h (Sum.inr.inj z))]
  · unfold encK
    rw [List.map_append]
    rfl
theorem dropK_enc (d : List (Str × Int)) (p : Str) : dropK (encK d) (Sum.inr p : Key) = encK (ddrop d p) := by
  unfold dropK ddrop encK
  rw [List.filter_map]
  congr 1
  apply List.filter_congr
  intro r _
  show decide ((Sum.inr r.1 : Key) ≠ Sum.inr p) = decide (r.1 ≠ p)
  by_cases h : r.1 = p
  · simp [h]
  · have h2 : ¬ (Sum.inr r.1 : Key) = Sum.inr p := fun z => h (Sum.inr.inj z)
    simp [h, h2]
theorem encK_len (d : List (Str × Int)) : (encK d).length = d.length := List.length_map _
theorem encK_empty (d : List (Str × Int)) : (encK d).isEmpty = d.isEmpty := by cases d <;> rfl

/-! ### weathers -/
/-- the wind at a minute: the last row that has begun (acc: the one ahead) -/
def wdA (acc : Str) (W : List (Int × Str)) (m : Int) : Str := W.foldl (fun a r => if r.1 ≤ m then r.2 else a) acc
def wd : List (Int × Str) → Int → Str
  | [], _ => ⟨#[]⟩
  | r :: W, m => wdA r.2 (r :: W) m
theorem wdA_snoc (acc : Str) (W : List (Int × Str)) (r : Int × Str) (m : Int) : wdA acc (W ++ [r]) m = if r.1 ≤ m then r.2 else wdA acc W m := by
  unfold wdA
  rw [List.foldl_append]
  rfl
/-- the last of the rows that have begun -/
theorem wdA_last (acc : Str) (W : List (Int × Str)) (m : Int) : wdA acc W m = (((W.filter fun r => decide (r.1 ≤ m)).map (·.2)).getLast?).getD acc := by
  have key : ∀ n, n ≤ W.length → wdA acc (W.take n) m = ((((W.take n).filter fun r => decide (r.1 ≤ m)).map (·.2)).getLast?).getD acc := by
    intro n
    induction n with
    | zero => intro _; rfl
    | succ n ih =>
      intro hn
      rw [List.take_succ_eq_append_getElem hn, wdA_snoc, List.filter_append, List.map_append]
      by_cases h : W[n].1 ≤ m
      · rw [if_pos h, List.filter_cons, if_pos (by simpa using h)]
        simp
      · rw [if_neg h, ih (by omega), List.filter_cons, if_neg (by simpa using h)]
        simp
  have := key W.length (Nat.le_refl _)
  rw [List.take_length] at this
  exact this
/-- each wind that blows has begun to blow at the minute itself or at a later change -/
theorem wdA_step (acc : Str) (W : List (Int × Str)) {m m' : Int} (h : m ≤ m') : wdA acc W m' = wdA acc W m ∨ ∃ r ∈ W, m < r.1 ∧ r.1 ≤ m' ∧ wdA acc W r.1 = wdA acc W m' := by
  have key : ∀ n, n ≤ W.length → wdA acc (W.take n) m' = wdA acc (W.take n) m ∨ ∃ r ∈ W.take n, m < r.1 ∧ r.1 ≤ m' ∧ wdA acc (W.take n) r.1 = wdA acc (W.take n) m' := by
    intro n
    induction n with
    | zero => intro _; exact .inl rfl
    | succ n ih =>
      intro hn
      rw [List.take_succ_eq_append_getElem hn]
      rw [wdA_snoc, wdA_snoc]
      by_cases h1 : W[n].1 ≤ m
      · left
        rw [if_pos h1, if_pos (by omega)]
      · by_cases h2 : W[n].1 ≤ m'
        · right
          refine ⟨W[n], List.mem_append_right _ List.mem_cons_self, by omega, h2, ?_⟩
          rw [wdA_snoc, if_pos (Int.le_refl _), if_pos h2]
        · rw [if_neg h1, if_neg h2]
          rcases ih (by omega) with e | ⟨r, hr, r1, r2, r3⟩
          · exact .inl e
          · right
            refine ⟨r, List.mem_append_left _ hr, r1, r2, ?_⟩
            rw [wdA_snoc, if_neg (by omega)]
            exact r3
  have := key W.length (Nat.le_refl _)
  rw [List.take_length] at this
  exact this
theorem wd_step (W : List (Int × Str)) {m m' : Int} (h : m ≤ m') : wd W m' = wd W m ∨ ∃ r ∈ W, m < r.1 ∧ r.1 ≤ m' ∧ wd W r.1 = wd W m' := by
  cases W with
  | nil => exact .inl rfl
  | cons r W => exact wdA_step _ _ h
/-- the minutes at which setting out is worth while -/
def chs (W : List (Int × Str)) (m : Int) : List Int := m :: (W.filter fun r => decide (m < r.1)).map (·.1)
def ixS (ws : List Str) (z : Str) : Nat := (ws.findIdx? fun y => decide (y = z)).getD 0
def omin (l : List Int) : Option Int := l.foldl (fun acc x => match acc with
  | none => some x
  | some a => if x < a then some x else some a) none
def num (ws : List Str) (W : List (Int × Str)) (row : List (Option Int)) (t : Int) : Option Int := (row[ixS ws (wd W t)]?).join
def ends (ws : List Str) (W : List (Int × Str)) (row : List (Option Int)) (m : Int) : List Int := (chs W m).filterMap fun t => (num ws W row t).map (t + ·)
def cgt (ws : List Str) (W : List (Int × Str)) (row : List (Option Int)) (m : Int) : Option Int := omin (ends ws W row m)

theorem omin_spec (l : List Int) : (omin l = none ↔ l = []) ∧ ∀ x, omin l = some x → x ∈ l ∧ ∀ y ∈ l, x ≤ y := by
  have key : ∀ (l : List Int) (a : Int), ∃ x, l.foldl (fun acc x => match acc with
      | none => some x
      | some a => if x < a then some x else some a) (some a) = some x ∧ (x = a ∨ x ∈ l) ∧ x ≤ a ∧ ∀ y ∈ l, x ≤ y := by
    intro l
    induction l with
    | nil => intro a; exact ⟨a, rfl, .inl rfl, Int.le_refl _, by simp⟩
    | cons z l ih =>
      intro a
      rw [List.foldl_cons]
      by_cases h : z < a
      · obtain ⟨x, e, h1, h2, h3⟩ := ih z
        refine ⟨x, by simp only [h, if_true]; exact e, ?_, by omega, ?_⟩
        · rcases h1 with h1 | h1
          · exact .inr (by rw [h1]; exact List.mem_cons_self)
          · exact .inr (List.mem_cons_of_mem _ h1)
        · intro y hy
          rcases List.mem_cons.mp hy with e | hy
          · rw [e]; exact h2
          · exact h3 y hy
      · obtain ⟨x, e, h1, h2, h3⟩ := ih a
        refine ⟨x, by simp only [h, if_false]; exact e, ?_, h2, ?_⟩
        · rcases h1 with h1 | h1
          · exact .inl h1
          · exact .inr (List.mem_cons_of_mem _ h1)
        · intro y hy
          rcases List.mem_cons.mp hy with e | hy
          · rw [e]; omega
          · exact h3 y hy
  cases l with
  | nil => exact ⟨⟨fun _ => rfl, fun _ => rfl⟩, fun x h => by cases h⟩
  | cons z l =>
    obtain ⟨x, e, h1, h2, h3⟩ := key l z
    have e' : omin (z :: l) = some x := e
    refine ⟨⟨fun h => (by rw [e'] at h; cases h), fun h => (by cases h)⟩, fun y hy => ?_⟩
    rw [e'] at hy
    cases hy
    refine ⟨?_, fun y hy => ?_⟩
    · rcases h1 with h1 | h1
      · rw [h1]; exact List.mem_cons_self
      · exact List.mem_cons_of_mem _ h1
    · rcases List.mem_cons.mp hy with e | hy
      · rw [e]; exact h2
      · exact h3 y hy
theorem omin_eq {l : List Int} {x : Int} (h1 : x ∈ l) (h2 : ∀ y ∈ l, x ≤ y) : omin l = some x := by
  obtain ⟨a, b⟩ := omin_spec l
  cases e : omin l with
  | none => rw [a.mp e] at h1; cases h1
  | some y =>
    obtain ⟨c, d⟩ := b y e
    have := d x h1
    have := h2 y c
    congr 1
    omega
theorem omin_snoc (l : List Int) (x : Int) : omin (l ++ [x]) = match omin l with
    | none => some x
    | some a => if x < a then some x else some a := by
  unfold omin
  rw [List.foldl_append]
  rfl
/-- greater numbers, a later beginning: no gain -/
theorem cgt_faster {ws : List Str} {W : List (Int × Str)} {row row' : List (Option Int)} (hr : ∀ (i : Nat) n', (row'[i]?).join = some n' → ∃ n, n ≤ n' ∧ (row[i]?).join = some n) {m m' t' : Int} (hm : m ≤ m') (h : cgt ws W row' m' = some t') : ∃ t, t ≤ t' ∧ cgt ws W row m = some t := by
  obtain ⟨h1, _⟩ := (omin_spec _).2 t' h
  unfold ends at h1
  obtain ⟨s', hs', e⟩ := List.mem_filterMap.mp h1
  obtain ⟨n', hn', e2⟩ := Option.map_eq_some_iff.mp e
  -- a minute of setting out that is no later, in the same wind
  have : ∃ s0 ∈ chs W m, s0 ≤ s' ∧ wd W s0 = wd W s' := by
    unfold chs at hs'
    rcases List.mem_cons.mp hs' with e | hs'
    · subst e
      rcases wd_step W hm with e | ⟨r, hr, r1, r2, r3⟩
      · exact ⟨m, List.mem_cons_self, hm, e.symm⟩
      · exact ⟨r.1, List.mem_cons_of_mem _ (List.mem_map.mpr ⟨r, List.mem_filter.mpr ⟨hr, by simpa using r1⟩, rfl⟩), r2, r3⟩
    · obtain ⟨r, hr, e⟩ := List.mem_map.mp hs'
      obtain ⟨hr1, hr2⟩ := List.mem_filter.mp hr
      have hr2' : m' < r.1 := by simpa using hr2
      exact ⟨s', List.mem_cons_of_mem _ (List.mem_map.mpr ⟨r, List.mem_filter.mpr ⟨hr1, by simp; omega⟩, e⟩), Int.le_refl _, rfl⟩
  obtain ⟨s0, hs0, l0, w0⟩ := this
  have hn : num ws W row' s' = some n' := hn'
  unfold num at hn
  obtain ⟨n, ln, hn2⟩ := hr _ _ hn
  have hnum : num ws W row s0 = some n := by unfold num; rw [w0]; exact hn2
  have hmem : s0 + n ∈ ends ws W row m := List.mem_filterMap.mpr ⟨s0, hs0, by rw [hnum]; rfl⟩
  cases e3 : cgt ws W row m with
  | none =>
    rw [(omin_spec _).1.mp e3] at hmem
    cases hmem
  | some t =>
    have := ((omin_spec _).2 t e3).2 _ hmem
    exact ⟨t, by omega, rfl⟩
theorem cgt_mono {ws : List Str} {W : List (Int × Str)} {row : List (Option Int)} {m m' t' : Int} (hm : m ≤ m') (h : cgt ws W row m' = some t') : ∃ t, t ≤ t' ∧ cgt ws W row m = some t :=
  cgt_faster (fun _ n' h => ⟨n', Int.le_refl _, h⟩) hm h
theorem cgt_late {ws : List Str} {W : List (Int × Str)} {row : List (Option Int)} (hr : ∀ n, some n ∈ row → 0 ≤ n) {m t : Int} (h : cgt ws W row m = some t) : m ≤ t := by
  obtain ⟨h1, _⟩ := (omin_spec _).2 t h
  obtain ⟨s, hs, e⟩ := List.mem_filterMap.mp h1
  obtain ⟨n, hn, e2⟩ := Option.map_eq_some_iff.mp e
  have hms : m ≤ s := by
    unfold chs at hs
    rcases List.mem_cons.mp hs with e | hs
    · omega
    · obtain ⟨r, hr, e⟩ := List.mem_map.mp hs
      have := (List.mem_filter.mp hr).2
      have : m < r.1 := by simpa using this
      omega
  unfold num at hn
  have hn0 : 0 ≤ n := by
    cases e3 : row[ixS ws (wd W s)]? with
    | none => rw [e3] at hn; cases hn
    | some o =>
      rw [e3] at hn
      have ho : o = some n := hn
      subst ho
      exact hr n (List.mem_of_getElem? e3)
  omega

/-! ### a land's edges -/
def edgeOf (ws : List Str) (W : List (Int × Str)) (l : Lk) (row : List (Option Int)) : Edge Str := ⟨l.one, l.oth, cgt ws W row⟩
/-- the edges of a land in a weather, with some numbers -/
def edges (ws : List Str) (W : List (Int × Str)) (ls : List Lk) (nums : List (List (Option Int))) : List (Edge Str) := (ls.zip nums).map fun x => edgeOf ws W x.1 x.2
def leastR (l : Lk) : List (Option Int) := l.ts.map (Option.map (·.1))
def leastN (ls : List Lk) : List (List (Option Int)) := ls.map leastR
theorem edges_least (ws : List Str) (W : List (Int × Str)) (ls : List Lk) : edges ws W ls (leastN ls) = ls.map fun l => edgeOf ws W l (leastR l) := by
  unfold edges leastN
  induction ls with
  | nil => rfl
  | cons l ls ih => rw [List.map_cons, List.zip_cons_cons, List.map_cons, ih, List.map_cons]
theorem edges_mono (ws : List Str) (W : List (Int × Str)) (ls : List Lk) (nums : List (List (Option Int))) : Mono (edges ws W ls nums) := by
  intro e he m m' t' hm h
  unfold edges at he
  obtain ⟨x, _, rfl⟩ := List.mem_map.mp he
  exact cgt_mono hm h
theorem edges_late {ws : List Str} {W : List (Int × Str)} {ls : List Lk} {nums : List (List (Option Int))} (hn : ∀ r ∈ nums, ∀ n, some n ∈ r → 0 ≤ n) : Late (edges ws W ls nums) := by
  intro e he m t h
  unfold edges at he
  obtain ⟨x, hx, rfl⟩ := List.mem_map.mp he
  exact cgt_late (hn _ (List.of_mem_zip hx).2) h
theorem edges_dst {ws : List Str} {W : List (Int × Str)} {ls : List Lk} {nums : List (List (Option Int))} {ps : List Str} (h : ∀ l ∈ ls, l.oth ∈ ps) : ∀ e ∈ edges ws W ls nums, e.dst ∈ ps := by
  intro e he
  unfold edges at he
  obtain ⟨x, hx, rfl⟩ := List.mem_map.mp he
  exact h _ (List.of_mem_zip hx).1

/-! ### what is right -/
def nameChars : List Nat := ("abcdefghijklmnopqrstuvwxyz0123456789" : Str).cps.toList
def digits : List Nat := ("0123456789" : Str).cps.toList
structure NameOk (z : Str) : Prop where
  lo : 1 ≤ z.length
  hi : z.length ≤ 12
  first : ∀ c, z.cps[0]? = some c → c ∉ digits
  chars : ∀ c ∈ z.cps.toList, c ∈ nameChars
def PairOk (p : Option (Int × Int)) : Prop := ∀ q, p = some q → 1 ≤ q.1 ∧ q.1 ≤ q.2 ∧ q.2 ≤ 1000
structure LkOk (n : Nat) (ps : List Str) (l : Lk) : Prop where
  nm : NameOk l.nm
  one : l.one ∈ ps
  oth : l.oth ∈ ps
  ne : l.one ≠ l.oth
  len : l.ts.length = n
  ok : ∀ p ∈ l.ts, PairOk p
structure PthOk (ps : List Str) (p : Pth) : Prop where
  one : p.one ∈ ps
  oth : p.oth ∈ ps
  ne : p.one ≠ p.oth
  lo : 1 ≤ p.mi
  hi : p.mi ≤ 1000
structure POk (P : Parts) : Prop where
  w1 : 1 ≤ P.ws.length
  w4 : P.ws.length ≤ 3
  wn : ∀ z ∈ P.ws, NameOk z
  wd : P.ws.Nodup
  p1 : 2 ≤ P.ps.length
  p2 : P.ps.length ≤ 7
  pn : ∀ z ∈ P.ps, NameOk z
  pd : P.ps.Nodup
  l2 : P.ls.length ≤ 10
  ln : ∀ l ∈ P.ls, LkOk P.ws.length P.ps l
  ld : (P.ls.map (·.nm)).Nodup
  t2 : P.pt.length ≤ 6
  tn : ∀ p ∈ P.pt, PthOk P.ps p
  td : P.pt.Pairwise fun p q => ¬ (p.one = q.one ∧ p.oth = q.oth) ∧ ¬ (p.one = q.oth ∧ p.oth = q.one)
structure WOk (ws : List Str) (W : List (Int × Str)) : Prop where
  n1 : 1 ≤ W.length
  n2 : W.length ≤ 40
  z : ∀ r, W[0]? = some r → r.1 = 0
  asc : ∀ (i : Nat) r q, W[i]? = some r → W[i + 1]? = some q → r.1 < q.1
  top : ∀ r ∈ W, r.1 ≤ 100000
  wn : ∀ r ∈ W, r.2 ∈ ws
structure ROk (ps : List Str) (rows : List (Str × Int)) : Prop where
  len : rows.length ≤ 1000
  pl : ∀ r ∈ rows, r.1 ∈ ps
  nn : ∀ r ∈ rows, 0 ≤ r.2
theorem WOk.cons {ws : List Str} {W : List (Int × Str)} (h : WOk ws W) : ∃ r W', W = r :: W' ∧ r.1 = 0 := by
  cases W with
  | nil => exact absurd h.n1 (by simp)
  | cons r W => exact ⟨r, W, rfl, h.z r rfl⟩
theorem strOk_name {z : Str} (h : NameOk z) : PyData.strOk z = true := by
  unfold PyData.strOk
  rw [← Array.all_toList, List.all_eq_true]
  intro c hc
  have h1 := h.chars c hc
  have h2 : ∀ c ∈ nameChars, c < 0x110000 := by decide +kernel
  simpa using h2 c h1
/-- the wind that blows is one of the weather's -/
theorem wdA_mem (acc : Str) (W : List (Int × Str)) (m : Int) : wdA acc W m = acc ∨ ∃ r ∈ W, wdA acc W m = r.2 := by
  rw [wdA_last]
  cases e : (((W.filter fun r => decide (r.1 ≤ m)).map (·.2)).getLast?) with
  | none => exact .inl rfl
  | some z =>
    have h1 := List.mem_of_getLast? e
    obtain ⟨r, hr, e2⟩ := List.mem_map.mp h1
    exact .inr ⟨r, (List.mem_filter.mp hr).1, e2.symm⟩
theorem WOk.wd_mem {ws : List Str} {W : List (Int × Str)} (h : WOk ws W) (m : Int) : wd W m ∈ ws := by
  obtain ⟨r, W', rfl, _⟩ := h.cons
  rcases wdA_mem r.2 (r :: W') m with e | ⟨q, hq, e⟩
  · show wdA r.2 (r :: W') m ∈ ws
    rw [e]; exact h.wn r List.mem_cons_self
  · show wdA r.2 (r :: W') m ∈ ws
    rw [e]; exact h.wn q hq
theorem ixS_spec {ws : List Str} {z : Str} (h : z ∈ ws) : ws[ixS ws z]? = some z ∧ (∀ j, j < ixS ws z → ws[j]? ≠ some z) ∧ ixS ws z < ws.length := by
  unfold ixS
  cases e : ws.findIdx? (fun y => decide (y = z)) with
  | none =>
    have := List.findIdx?_eq_none_iff.mp e z h
    simp at this
  | some i =>
    obtain ⟨h1, h2, h3⟩ := List.findIdx?_eq_some_iff_getElem.mp e
    have h2' : ws[i] = z := by simpa using h2
    refine ⟨?_, fun j hj q => ?_, h1⟩
    · show ws[i]? = some z
      rw [List.getElem?_eq_getElem h1, h2']
    · have hj' : j < i := hj
      have := h3 j hj'
      rw [List.getElem?_eq_getElem (by omega)] at q
      have q' : ws[j] = z := Option.some.inj q
      simp [q'] at this
end Ef

/-! Tuples known to have no dict of their own: t.index(z) on them. -/
namespace Ef
open PySem PySem.Spec PyProof.Rows L2 Evl
/-- a tuple, held as the object it is, which has no dict -/
def FZ (H : Hp) (b : Addr) : Prop := ∃ o ys, H b = some (.frz o (.tup ys)) ∧ o.dict = none
theorem FZ.ex {H H' : Hp} {b : Addr} (e : Ex H H') : FZ H b → FZ H' b := fun ⟨o, ys, h, d⟩ => ⟨o, ys, e _ _ h, d⟩
section
variable {X : Cx}
/-- tuple(list), a new tuple, held as the object it is; tuple(tuple), the same -/
def rTupN (K : PySem.W.Frag) : List V → Hp → VK → Prop := fun xs H Q => ∃ p ys, xs = [.ref p] ∧ ((SqL K H p ys ∧ ∀ l o, H l = none → o.dict = none → Q (.ref l) (upd H l (.frz o (.tup ys)))) ∨ (SqT K H p ys ∧ Q (.ref p) H))
theorem call_tupN : CallR X (.type "tuple") (rTupN X.K) := by
  intro pins s σ H xs us Q I r h
  obtain ⟨p, ys, rfl, h⟩ := h
  obtain ⟨u, rfl, rx⟩ := vals1 r
  cases rx
  rcases h with ⟨hq, q⟩ | ⟨hq, q⟩
  · obtain ⟨its, r', pl, hz⟩ := I.list hq
    have hlen := r'.length
    refine call_tuple_list pl.isList (fun h' kp => ?_) (by simp only [List.size_toArray] <;> omega)
    have I1 : Inv X pins σ H { s with heap := h' } := I.kept (t' := s.toks) kp
    have I2 : Inv X pins σ (upd H h'.objs.size (.frz { cls := .type "tuple", data := .seq its.toArray } (.tup ys))) { s with heap := h'.push { cls := .type "tuple", data := .seq its.toArray } } :=
      I1.laid (t' := s.toks) (fun b o e => Heap.get?_push_of_some _ e) (Nat.le_refl _) (show ObjOk X.prog X.w _ _ _ (.frz _ (.tup ys)) from ⟨Heap.get?_push_size _ rfl, hz, its, r', IsTup.new _ _⟩)
    exact ⟨.ref h'.objs.size, _, I2, rfl, q _ _ (I1.hok.fresh (Nat.le_refl _)) rfl⟩
  · obtain ⟨its, r', pl, hz⟩ := I.tuple hq
    exact call_tuple_same pl ⟨.ref p, H, I, rfl, q⟩
theorem call_tupNK {K : PySem.W.Frag} (h : X.K = K) : CallR X (.type "tuple") (rTupN K) := by subst h; exact call_tupN
/-- t.index(z), z a text of the texts of t -/
def tIndex (K : PySem.W.Frag) (to te : TE) : TE := fun σ H Q => to σ H fun x H1 => ∃ b, x = .ref b ∧ FZ H1 b ∧ te σ H1 fun y H2 => ∃ (ys : List Str) (z : Str) (j : Nat), [y] = [.str z] ∧ SqT K H2 b (ys.map V.str) ∧ ys[j]? = some z ∧ (∀ m, m < j → ys[m]? ≠ some z) ∧ Q (.int (j : Int)) H2
theorem pe_index {K : PySem.W.Frag} {o e : Expr} {to te : TE} {apos cpos : Pos} (hK : X.K = K) (ho : PE X o to) (he : PE X e te)
    (hbase : attributeBase o "index" X.env (eval o X.env) = eval o X.env := by rfl)
    (hfew : ((backTo cpos (starEach [e] X.env)).all (fun x => !x.1) && (backToKw cpos (keywordEach [] X.env)).all (fun x => x.1.isSome)
      && decide ([e].length + ([] : List Keyword).length + (if ([] : List Keyword).isEmpty then 0 else 1) < 30)) = true := by rfl)
    (hline : (apos.endLine == cpos.line) = true := by rfl) (hs : starEach [e] X.env = (false, eval e X.env) :: starEach [] X.env := by rfl) (hplain : (backTo cpos (starEach [] X.env)).any (·.1) = false := by rfl) :
    PE X (.Call (.Attribute o "index" apos) [e] [] cpos) (tIndex K to te) := by
  subst hK
  refine ⟨fun pins s σ H Q I h => ?_⟩
  refine wpAny_Call_method_late hbase hfew hline rfl (thn (ho.run pins s σ H _ I h) fun v s1 ⟨x, H1, I1, r1, b, hx, hz, q1⟩ => ?_)
  subst hx
  cases r1
  obtain ⟨ob, ys0, hb, hd⟩ := hz
  obtain ⟨hg, _, its0, _, ob', hg', hcls, _⟩ := I1.hok b _ hb
  rw [hg] at hg'
  cases hg'
  refine ⟨"tuple", "tuple.index", PySem.F.plainAttrs_tuple, PySem.F.slot_tuple_index, PySem.F.type_tuple_index, ⟨ob, hg, hcls⟩, fun a ea => ?_, ?_⟩
  · cases ea
    exact ⟨ob, hg, hd⟩
  · have hA := (pa_cons he pa_nil hs : PA X [e] _).run cpos pins s1 σ H1 (fun vs H2 => ∃ (ys : List Str) (z : Str) (j : Nat), vs = [.str z] ∧ SqT X.K H2 b (ys.map V.str) ∧ ys[j]? = some z ∧ (∀ m, m < j → ys[m]? ≠ some z) ∧ Q (.int (j : Int)) H2) I1 q1
    · rw [hs] at hA ⊢
      refine Calls.callWith_builtin (by show (false || (backTo cpos (starEach [] X.env)).any (·.1)) = false; rw [hplain] <;> rfl) (Calls.evalArgs_plain ?_)
      refine thn hA fun us s2 ⟨vs, H2, I2, r2, ys, z, j, ev, g1, g2, g3, q2⟩ => mt_tup_index pins s2 σ H2 (.ref b) vs _ us Q I2 rfl r2 ⟨b, ys, z, j, rfl, ev, g1, g2, g3, q2⟩
end
end Ef

/-! The promises: what each def takes and gives; how a call is read. -/
namespace Ef
open PySem PySem.Spec PyProof.Rows L2 Evl

/-- a promise: arguments as A says, then a value as R says, the heap but grown -/
def spG {α : Type} (pre : α → Prop) (A : α → Hp → List V → Prop) (R : α → Hp → Hp → V → Prop) : Sp := fun vs H Q _ => ∃ a, pre a ∧ A a H vs ∧ ∀ v H', Ex H H' → R a H H' v → Q v H'
section
variable {K : PySem.W.Frag}
/-- a field -/
def FL (K : PySem.W.Frag) (H : Hp) (fs : List (Str × V)) (f : Str) (d : PyData) : Prop := ∃ v, fs.lookup f = some v ∧ Dp K H v d
/-- the same, a tuple that is known to have no dict -/
def FLz (K : PySem.W.Frag) (H : Hp) (fs : List (Str × V)) (f : Str) (d : PyData) : Prop := ∃ b, fs.lookup f = some (.ref b) ∧ Dp K H (.ref b) d ∧ FZ H b
theorem FLz.fl {H : Hp} {fs : List (Str × V)} {f : Str} {d : PyData} : FLz K H fs f d → FL K H fs f d := fun ⟨b, h1, h2, _⟩ => ⟨_, h1, h2⟩
theorem FLz.ex {H H' : Hp} {fs : List (Str × V)} {f : Str} {d : PyData} (e : Ex H H') : FLz K H fs f d → FLz K H' fs f d := fun ⟨v, h1, h2, h3⟩ => ⟨v, h1, h2.ex e, h3.ex e⟩
/-- the law's parts: their data, the winds a tuple without a dict -/
def PAt (K : PySem.W.Frag) (H : Hp) (v : V) (P : Parts) : Prop := ∃ a xs b, v = .ref a ∧ SqL K H a xs ∧ DpAll K H xs [.tuple (P.ws.map .str), .tuple (P.ps.map .str), .tuple (P.ls.map dL), .tuple (P.pt.map dT)] ∧ xs[0]? = some (.ref b) ∧ FZ H b
theorem PAt.dp {H : Hp} {v : V} {P : Parts} (h : PAt K H v P) : Dp K H v (dParts P) := by
  obtain ⟨a, xs, b, rfl, h1, h2, _⟩ := h
  exact .lst h1 h2
theorem PAt.ex {H H' : Hp} {v : V} {P : Parts} (h : PAt K H v P) (e : Ex H H') : PAt K H' v P := by
  obtain ⟨a, xs, b, h2, h3, h1, h4, h5⟩ := h
  exact ⟨a, xs, b, h2, ex_l e h3, h1.ex e, h4, h5.ex e⟩
def aP (K : PySem.W.Frag) (P : Parts) (ds : List PyData) : Hp → List V → Prop := fun H vs => ∃ vp rest, vs = vp :: rest ∧ PAt K H vp P ∧ DpAll K H rest ds
def meths : List Str := [("are_ends" : Str), ("checked_link" : Str), ("checked_path" : Str), ("check_place" : Str), ("check_wind" : Str)]
/-- an instance of Land, in the making (ol none) or made -/
def LAtt (K : PySem.W.Frag) (C : Addr) (H : Hp) (v : V) (ws ps : List Str) (ol : Option (List Lk)) : Prop :=
  ∃ a dx fs, v = .ref a ∧ H a = some (.ins C dx fs) ∧ (∀ m ∈ meths, fs.lookup m = none) ∧ FLz K H fs "winds" (.tuple (ws.map .str)) ∧ FL K H fs "places" (.tuple (ps.map .str)) ∧ ∀ ls, ol = some ls → FL K H fs "links" (.tuple (ls.map dL))
theorem FL.ex {H H' : Hp} {fs : List (Str × V)} {f : Str} {d : PyData} (e : Ex H H') : FL K H fs f d → FL K H' fs f d := fun ⟨v, h1, h2⟩ => ⟨v, h1, h2.ex e⟩
theorem LAtt.ex {C : Addr} {H H' : Hp} {v : V} {ws ps : List Str} {ol : Option (List Lk)} (h : LAtt K C H v ws ps ol) (e : Ex H H') : LAtt K C H' v ws ps ol := by
  obtain ⟨a, dx, fs, h1, h2, h3, h4, h5, h6⟩ := h
  exact ⟨a, dx, fs, h1, e _ _ h2, h3, h4.ex e, h5.ex e, fun ls q => (h6 ls q).ex e⟩
theorem LAtt.weak {C : Addr} {H : Hp} {v : V} {ws ps : List Str} {ol : Option (List Lk)} (h : LAtt K C H v ws ps ol) : LAtt K C H v ws ps none := by
  obtain ⟨a, dx, fs, h1, h2, h3, h4, h5, h6⟩ := h
  exact ⟨a, dx, fs, h1, h2, h3, h4, h5, fun ls q => by cases q⟩
def LandAt (K : PySem.W.Frag) (C : Addr) (H : Hp) (v : V) (P : Parts) : Prop := LAtt K C H v P.ws P.ps (some P.ls)
theorem LandAt.ex {C : Addr} {H H' : Hp} {v : V} {P : Parts} (h : LandAt K C H v P) (e : Ex H H') : LandAt K C H' v P := LAtt.ex h e
/-- arguments: data; a land, then data -/
def aD (K : PySem.W.Frag) (ds : List PyData) : Hp → List V → Prop := fun H vs => DpAll K H vs ds
def aL (K : PySem.W.Frag) (C : Addr) (P : Parts) (ds : List PyData) : Hp → List V → Prop := fun H vs => ∃ vl rest, vs = vl :: rest ∧ LandAt K C H vl P ∧ DpAll K H rest ds
def aM (K : PySem.W.Frag) (C : Addr) (ws ps : List Str) (ol : Option (List Lk)) (ds : List PyData) : Hp → List V → Prop := fun H vs => ∃ vl rest, vs = vl :: rest ∧ LAtt K C H vl ws ps ol ∧ DpAll K H rest ds
/-- values: data; a new list; a new dict -/
def pD (K : PySem.W.Frag) (d : PyData) : Hp → Hp → V → Prop := fun _ H' v => Dp K H' v d
def pF (K : PySem.W.Frag) (ds : List PyData) : Hp → Hp → V → Prop := fun H H' v => ∃ p xs, v = .ref p ∧ H p = none ∧ H' p = some (.lst xs) ∧ DpAll K H' xs ds
def pK (f : List (Str × Int)) : Hp → Hp → V → Prop := fun H H' v => ∃ p, v = .ref p ∧ H p = none ∧ H' p = some (.dK (encK f))
theorem pF.toD {ds : List PyData} {H H' : Hp} {v : V} (h : pF K ds H H' v) : Dp K H' v (.list ds) := by
  obtain ⟨p, xs, rfl, _, h2, h3⟩ := h
  exact .lst (SqL.of h2) h3
end

/-! ### calls read -/
section
variable {K : PySem.W.Frag} {σ : L2.St} {H H' : Hp} {ta tb te : TE} {ar : TA} {α : Type} {pr : α → Prop} {A : α → Hp → List V → Prop} {R : α → Hp → Hp → V → Prop} {a : α} {E : XK} {d : PyData} {ds : List PyData} {D : Ends}
def EgA (A : Hp → List V → Prop) (ar : TA) (σ : L2.St) (H : Hp) : Prop := ∀ H1, Ex H H1 → ∀ Q : List V → Hp → Prop, (∀ vs H2, Ex H1 H2 → A H2 vs → Q vs H2) → ar σ H1 Q
/-- an expression whose value is as R says (R of the heap ahead, the heap behind, the value) -/
def EvR (R : Hp → Hp → V → Prop) (te : TE) (σ : L2.St) (H : Hp) : Prop := ∀ H1, Ex H H1 → ∀ Q : VK, (∀ v Ha H2, Ex H1 Ha → Ex Ha H2 → R Ha H2 v → Q v H2) → te σ H1 Q
theorem eg_D (h : EdA K ar σ H ds) : EgA (aD K ds) ar σ H := fun H1 e Q q => h H1 e Q fun vs H2 e2 hv => q vs H2 e2 hv
theorem eg_M {C : Addr} {ws ps : List Str} {ol : Option (List Lk)} {i : Nat} {vl : V} (hv : σ[i]? = some (some vl)) (hl : LAtt K C H vl ws ps ol) (h : EdA K ar σ H ds) : EgA (aM K C ws ps ol ds) (tCons (tVar i) ar) σ H := fun H1 e Q q =>
  ⟨vl, hv, h H1 e _ fun vs H2 e2 hs => q _ H2 e2 ⟨vl, vs, rfl, hl.ex (e.trans e2), hs⟩⟩
theorem eg_L {C : Addr} {P : Parts} {i : Nat} {vl : V} (hv : σ[i]? = some (some vl)) (hl : LandAt K C H vl P) (h : EdA K ar σ H ds) : EgA (aL K C P ds) (tCons (tVar i) ar) σ H := fun H1 e Q q =>
  ⟨vl, hv, h H1 e _ fun vs H2 e2 hs => q _ H2 e2 ⟨vl, vs, rfl, hl.ex (e.trans e2), hs⟩⟩
theorem eg_P {P : Parts} {i : Nat} {vp : V} (hv : σ[i]? = some (some vp)) (hp : PAt K H vp P) (h : EdA K ar σ H ds) : EgA (aP K P ds) (tCons (tVar i) ar) σ H := fun H1 e Q q =>
  ⟨vp, hv, h H1 e _ fun vs H2 e2 hs => q _ H2 e2 ⟨vp, vs, rfl, hp.ex (e.trans e2), hs⟩⟩
theorem er_call (hp : pr a) (h : EgA (A a) ar σ H) : EvR (R a) (tCall (spG pr A R) [] E ar) σ H := fun H1 e Q q => h H1 e _ fun vs H2 e2 hv => by
  rw [List.append_nil]
  exact ⟨a, hp, hv, fun v H3 e3 hr => q v H2 H3 e2 e3 hr⟩
theorem EvR.toD (h : EvR (pD K d) te σ H) : EvD K te σ H d := fun H1 e Q q => h H1 e Q fun v Ha H2 e1 e2 hr => q v H2 (e1.trans e2) hr
theorem EvR.toF (h : EvR (pF K ds) te σ H) : EvF K te σ H ds := fun H1 e Q q => h H1 e Q fun v Ha H2 e1 e2 hr => by
  obtain ⟨p, xs, rfl, h1, h2, h3⟩ := hr
  exact q p xs H2 (fresh_back e1 h1) (e1.trans e2) h2 h3
theorem evd_call (hp : pr a) (h : EgA (A a) ar σ H) (hR : R a = pD K d) : EvD K (tCall (spG pr A R) [] E ar) σ H d := EvR.toD (by rw [← hR]; exact er_call hp h)
theorem evf_call (hp : pr a) (h : EgA (A a) ar σ H) (hR : R a = pF K ds) : EvF K (tCall (spG pr A R) [] E ar) σ H ds := EvR.toF (by rw [← hR]; exact er_call hp h)
theorem s_asgR {i : Nat} {R : Hp → Hp → V → Prop} (h : EvR R te σ H) (k : ∀ v Ha H1, Ex H Ha → Ex Ha H1 → R Ha H1 v → D.nx (σ.set i (some v)) H1) : tAsg te (gName i) D σ H := h H (Ex.refl H) _ fun v Ha H2 e1 e2 hr => k v Ha H2 e1 e2 hr
theorem s_retR {R : Hp → Hp → V → Prop} (h : EvR R te σ H) (k : ∀ v Ha H1, Ex H Ha → Ex Ha H1 → R Ha H1 v → D.rt v H1) : tRet te D σ H := h H (Ex.refl H) _ fun v Ha H2 e1 e2 hr => k v Ha H2 e1 e2 hr
/-- self.m(..) -/
theorem er_meth {C : Addr} {m : Str} {i : Nat} {vl : V} {ws ps : List Str} {ol : Option (List Lk)} (hv : σ[i]? = some (some vl)) (hl : LAtt K C H vl ws ps ol) (hm : m ∈ meths) (hp : pr a) (h : EdA K ar σ H ds) (hA : A a = aM K C ws ps ol ds) : EvR (R a) (tMeth C m (spG pr A R) [] E (tVar i) ar) σ H := fun H1 e Q q => by
  obtain ⟨b, dx, fs, rfl, h2, h3, h4⟩ := hl
  refine ⟨_, hv, b, dx, fs, rfl, e _ _ h2, h3 m hm, h H1 e _ fun vs H2 e2 hs => ?_⟩
  rw [List.append_nil]
  exact ⟨a, hp, by rw [hA]; exact ⟨_, vs, rfl, LAtt.ex ⟨b, dx, fs, rfl, h2, h3, h4⟩ (e.trans e2), hs⟩, fun v H3 e3 hr => q v H2 H3 e2 e3 hr⟩
theorem evd_meth {C : Addr} {m : Str} {i : Nat} {vl : V} {ws ps : List Str} {ol : Option (List Lk)} (hv : σ[i]? = some (some vl)) (hl : LAtt K C H vl ws ps ol) (hm : m ∈ meths) (hp : pr a) (h : EdA K ar σ H ds) (hA : A a = aM K C ws ps ol ds) (hR : R a = pD K d) : EvD K (tMeth C m (spG pr A R) [] E (tVar i) ar) σ H d := EvR.toD (by rw [← hR]; exact er_meth hv hl hm hp h hA)
/-- land.f -/
theorem evd_fld {C : Addr} {f : Str} {i : Nat} {vl : V} {ws ps : List Str} {ol : Option (List Lk)} (hv : σ[i]? = some (some vl)) (hl : LAtt K C H vl ws ps ol) (hc : Cls K C) (hn : NoAttr K C f) (hf : (f = "winds" ∧ d = .tuple (ws.map .str)) ∨ (f = "places" ∧ d = .tuple (ps.map .str)) ∨ ∃ ls, ol = some ls ∧ f = "links" ∧ d = .tuple (ls.map dL)) : EvD K (tFld K (tVar i) f) σ H d := fun H1 e Q q => by
  obtain ⟨b, dx, fs, rfl, h2, h3, h4, h5, h6⟩ := hl
  have : FL K H fs f d := by
    rcases hf with ⟨rfl, rfl⟩ | ⟨rfl, rfl⟩ | ⟨ls, rfl, rfl, rfl⟩
    · exact h4.fl
    · exact h5
    · exact h6 ls rfl
  obtain ⟨v, l, hd⟩ := this
  exact ⟨_, hv, b, C, dx, fs, v, rfl, e _ _ h2, hc, hn, l, q v H1 (Ex.refl H1) (hd.ex e)⟩
theorem evd_winds {C : Addr} {i : Nat} {vl : V} {P : Parts} (hv : σ[i]? = some (some vl)) (hl : LandAt K C H vl P) (hc : Cls K C) (hn : NoAttr K C "winds") : EvD K (tFld K (tVar i) "winds") σ H (.tuple (P.ws.map .str)) := evd_fld hv hl hc hn (.inl ⟨rfl, rfl⟩)
theorem evd_places {C : Addr} {i : Nat} {vl : V} {P : Parts} (hv : σ[i]? = some (some vl)) (hl : LandAt K C H vl P) (hc : Cls K C) (hn : NoAttr K C "places") : EvD K (tFld K (tVar i) "places") σ H (.tuple (P.ps.map .str)) := evd_fld hv hl hc hn (.inr (.inl ⟨rfl, rfl⟩))
theorem evd_links {C : Addr} {i : Nat} {vl : V} {P : Parts} (hv : σ[i]? = some (some vl)) (hl : LandAt K C H vl P) (hc : Cls K C) (hn : NoAttr K C "links") : EvD K (tFld K (tVar i) "links") σ H (.tuple (P.ls.map dL)) := evd_fld hv hl hc hn (.inr (.inr ⟨P.ls, rfl, rfl, rfl⟩))
end

/-! ### dicts read -/
section
variable {K : PySem.W.Frag} {σ : L2.St} {H H' : Hp} {ta tb td ty tx te : TE} {D : Ends} {f : List (Str × Int)} {p : Str} {l : Addr} {m : Int}
theorem dget_of (h : H l = some (.dK (encK f))) : DGet H l (.str p) ((dget f p).map V.int) := by
  rw [← valV_enc]
  exact DGet.k (k := Sum.inr p) h
theorem isD_of {kvs : List (Key × V)} (h : H l = some (.dK kvs)) : IsD H l := .inl ⟨kvs, .inl h⟩
theorem ev_din (hy : Ev ty σ H (.str p)) (hd : Ev td σ H (.ref l)) (h : H l = some (.dK (encK f))) : Ev (tDIn ty td) σ H (.bl (dget f p).isSome) := fun H1 e Q q => hy H1 e _ fun H2 e2 => hd H2 (e.trans e2) _ fun H3 e3 => ⟨l, _, rfl, dget_of ((e.trans e2).trans e3 _ _ h), by
  rw [Option.isSome_map]; exact q H3 (e2.trans e3)⟩
theorem ev_dnin (hy : Ev ty σ H (.str p)) (hd : Ev td σ H (.ref l)) (h : H l = some (.dK (encK f))) : Ev (tDNotIn ty td) σ H (.bl (!(dget f p).isSome)) := fun H1 e Q q => hy H1 e _ fun H2 e2 => hd H2 (e.trans e2) _ fun H3 e3 => ⟨l, _, rfl, dget_of ((e.trans e2).trans e3 _ _ h), by
  rw [Option.isSome_map]; exact q H3 (e2.trans e3)⟩
theorem ev_dget (hd : Ev td σ H (.ref l)) (hy : Ev ty σ H (.str p)) (h : H l = some (.dK (encK f))) (hm : dget f p = some m) : Ev (tDGet td ty) σ H (.int m) := fun H1 e Q q => hd H1 e _ fun H2 e2 => hy H2 (e.trans e2) _ fun H3 e3 => by
  have g := dget_of (p := p) ((e.trans e2).trans e3 _ _ h)
  rw [hm] at g
  exact ⟨l, _, rfl, g, q H3 (e2.trans e3)⟩
theorem evd_dget1 (hd : Ev td σ H (.ref l)) (hy : Ev ty σ H (.str p)) (h : H l = some (.dK (encK f))) : EvD K (tDGet1 td ty) σ H (dO (dget f p)) := fun H1 e Q q => hd H1 e _ fun H2 e2 => ⟨l, rfl, isD_of ((e.trans e2) _ _ h), hy H2 (e.trans e2) _ fun H3 e3 => ⟨_, dget_of ((e.trans e2).trans e3 _ _ h), by
  refine q _ H3 (e2.trans e3) ?_
  cases dget f p with
  | none => exact .non
  | some i => exact .int i⟩⟩
theorem ev_dget2 {i : Int} (hd : Ev td σ H (.ref l)) (hy : Ev ty σ H (.str p)) (hx : Ev tx σ H (.int i)) (h : H l = some (.dK (encK f))) : Ev (tDGet2 td ty tx) σ H (.int ((dget f p).getD i)) := fun H1 e Q q => hd H1 e _ fun H2 e2 => ⟨l, rfl, isD_of ((e.trans e2) _ _ h), hy H2 (e.trans e2) _ fun H3 e3 => hx H3 ((e.trans e2).trans e3) _ fun H4 e4 => ⟨_, dget_of (((e.trans e2).trans e3).trans e4 _ _ h), by
  have := q H4 ((e2.trans e3).trans e4)
  cases e5 : dget f p with
  | none => rw [e5] at this; exact this
  | some j => rw [e5] at this; exact this⟩⟩
theorem s_dput (h : H l = some (.dK (encK f))) (hv : Ev te σ H (.int m)) (hd : Ev td σ H (.ref l)) (hy : Ev ty σ H (.str p)) (hz : f.length < 100000) (k : ∀ H1, Ex H H1 → D.nx σ (upd H1 l (.dK (encK (dput f p m))))) : sDPut td ty te D σ H := hv H (Ex.refl H) _ fun H1 e1 => hd H1 e1 _ fun H2 e2 => hy H2 (e1.trans e2) _ fun H3 e3 => ⟨l, _, rfl, DPut.k (k := Sum.inr p) ((e1.trans e2).trans e3 _ _ h) (sz_lt (by rw [encK_len]; exact hz)), by
  rw [putK_enc]
  exact k H3 ((e1.trans e2).trans e3)⟩
theorem s_dpop (h : H l = some (.dK (encK f))) (hd : Ev td σ H (.ref l)) (hy : Ev ty σ H (.str p)) (hm : dget f p = some m) (k : ∀ H1, Ex H H1 → D.nx σ (upd H1 l (.dK (encK (ddrop f p))))) : tDrop (tDPop1 td ty) D σ H := hd H (Ex.refl H) _ fun H1 e1 => ⟨l, rfl, isD_of (e1 _ _ h), hy H1 e1 _ fun H2 e2 => ⟨_, Sum.inr p, .int m, (e1.trans e2) _ _ h, rfl, by rw [valV_enc, hm]; rfl, by
  rw [dropK_enc]
  exact k H2 (e1.trans e2)⟩⟩
theorem et_truD (hd : Ev td σ H (.ref l)) (h : H l = some (.dK (encK f))) : EvT (fun σ H Q => td σ H fun x H' => ∃ k, TruV K x H' k ∧ Q k H') σ H (!f.isEmpty) := fun H1 e Q q => hd H1 e _ fun H2 e2 => ⟨_, .inr (.inr ⟨_, (e.trans e2) _ _ h, rfl⟩), by rw [encK_empty]; exact q H2 e2⟩
theorem s_dnew {i : Nat} (k : ∀ p, H p = none → D.nx (σ.set i (some (.ref p))) (upd H p (.dK (encK [])))) : tAsg tDNewK (gName i) D σ H := fun p hp => k p hp
end

/-! ### the promises -/
def numOk (o : Option Int) (p : Option (Int × Int)) : Prop := (o = none ∧ p = none) ∨ ∃ n q, o = some n ∧ p = some q ∧ q.1 ≤ n ∧ n ≤ q.2
structure NumsOk (P : Parts) (nums : List (List (Option Int))) : Prop where
  len : nums.length = P.ls.length
  row : ∀ (i : Nat) row l, nums[i]? = some row → P.ls[i]? = some l → row.length = l.ts.length ∧ ∀ (j : Nat) o p, row[j]? = some o → l.ts[j]? = some p → numOk o p
structure FA where
  P : Parts
  W : List (Int × Str)
  S : List (Str × Int)
  B : List (Str × Int)
structure FOk (x : FA) : Prop where
  p : POk x.P
  w : WOk x.P.ws x.W
  s : ROk x.P.ps x.S
  b : ROk x.P.ps x.B
def encF (x : FA) : List PyData := [.list (x.W.map dW), .list (x.S.map dR), .list (x.B.map dR)]
def fE (x : FA) (nums : List (List (Option Int))) : List (Edge Str) := edges x.P.ws x.W x.P.ls nums
def CertF (x : FA) (nums : List (List (Option Int))) (f : List (Str × Int)) : Prop := Cert x.S (lm x.B) (fE x nums) f
def dStrs (l : List Str) : PyData := .list (l.map .str)
def dNums (nums : List (List (Option Int))) : PyData := .tuple (nums.map dNs)
def dInts (l : List Int) : List PyData := l.map .int
/-- the law's numbers -/
structure NOk (ns : List Int) (n : Nat) : Prop where
  len : ns.length = n
  rng : ∀ i ∈ ns, 0 ≤ i ∧ i < 1009
structure NamesOk (l : List Str) (n : Nat) : Prop where
  len : l.length = n
  ok : ∀ z ∈ l, NameOk z
  nd : l.Nodup
def btw (p q : Option (Int × Int)) : Prop := (p = none ∧ q = none) ∨ ∃ r n, p = some r ∧ q = some (n, n) ∧ r.1 ≤ n ∧ n ≤ r.2
structure BLk (l m : Lk) : Prop where
  one : m.one = l.one
  oth : m.oth = l.oth
  len : m.ts.length = l.ts.length
  ts : ∀ (j : Nat) p q, l.ts[j]? = some p → m.ts[j]? = some q → btw p q
structure BOk (P P2 : Parts) : Prop where
  ws : P2.ws = P.ws
  ps : P2.ps = P.ps
  len : P2.ls.length = P.ls.length
  ls : ∀ (i : Nat) l m, P.ls[i]? = some l → P2.ls[i]? = some m → BLk l m
def lawB (x : FA) : List (Str × Int) := bf x.S (lm x.B) (fE x (leastN x.P.ls)) (x.P.ps.length + 1)
/-- what the law's fire asks of its parts -/
structure LFOk (x : FA) : Prop where
  w : WOk x.P.ws x.W
  l2 : x.P.ls.length ≤ 10
  p2 : x.P.ps.length ≤ 7
  w4 : x.P.ws.length ≤ 3
  ln : ∀ l ∈ x.P.ls, l.ts.length = x.P.ws.length
  s : x.S.length ≤ 1000
  b : x.B.length ≤ 1000

section
variable (K : PySem.W.Frag) (C : Addr)
abbrev spx_check_places : Sp := spG (fun a : Parts × List Str => ∀ g ∈ a.2, g ∈ a.1.ps) (fun a => aL K C a.1 [dStrs a.2]) fun _ => pD K .none
abbrev spx_check_winds : Sp := spG (fun a : Parts × List (Int × Str) => ∀ r ∈ a.2, r.2 ∈ a.1.ws) (fun a => aL K C a.1 [.list (a.2.map dW)]) fun _ => pD K .none
abbrev spx_check_changes : Sp := spG (fun a : List (Int × Str) => ∃ ws, WOk ws a) (fun a => aD K [.list (a.map dW)]) fun _ => pD K .none
abbrev spx_blowing : Sp := spG (fun a : List (Int × Str) × Int => (∃ ws, WOk ws a.1) ∧ 0 ≤ a.2) (fun a => aD K [.list (a.1.map dW), .int a.2]) fun a => pD K (.str (wd a.1 a.2))
abbrev spx_chances : Sp := spG (fun a : List (Int × Str) × Int => a.1.length ≤ 40) (fun a => aD K [.list (a.1.map dW), .int a.2]) fun a => pF K ((chs a.1 a.2).map .int)
abbrev spx_least_numbers : Sp := spG (fun P : Parts => POk P) (fun P => aL K C P []) fun P => pD K (dNums (leastN P.ls))
abbrev spx_is_number : Sp := spG (fun a : Option Int × Option (Int × Int) => numOk a.1 a.2) (fun a => aD K [dO a.1, dP a.2]) fun _ => pD K (.bool true)
abbrev spx_check_numbers : Sp := spG (fun a : Parts × List (List (Option Int)) => POk a.1 ∧ NumsOk a.1 a.2) (fun a => aL K C a.1 [dNums a.2]) fun _ => pD K .none
abbrev spx_check_rows : Sp := spG (fun a : Parts × List (Str × Int) => ROk a.1.ps a.2) (fun a => aL K C a.1 [.list (a.2.map dR)]) fun _ => pD K .none
abbrev spx_least_minutes : Sp := spG (fun a : List (Str × Int) => a.length ≤ 1000) (fun a => aD K [.list (a.map dR)]) fun a => pK (lm a)
abbrev spx_caught : Sp := spG (fun a : Parts × List (Int × Str) × List (Option Int) × Int => POk a.1 ∧ WOk a.1.ws a.2.1 ∧ a.2.2.1.length = a.1.ws.length ∧ 0 ≤ a.2.2.2) (fun a => aL K C a.1 [.list (a.2.1.map dW), dNs a.2.2.1, .int a.2.2.2]) fun a => pD K (dO (cgt a.1.ws a.2.1 a.2.2.1 a.2.2.2))
abbrev spx_spread : Sp := spG (fun a : FA × List (List (Option Int)) => FOk a.1 ∧ NumsOk a.1.P a.2) (fun a => aL K C a.1.P (encF a.1 ++ [dNums a.2])) fun a H H' v => ∃ f, CertF a.1 a.2 f ∧ pK f H H' v
abbrev spx_check_fire : Sp := spG (fun a : FA => FOk a) (fun a => aL K C a.P (encF a)) fun _ => pD K .none
abbrev spx_told : Sp := spG (fun a : Parts × List (Str × Int) => POk a.1) (fun a H vs => ∃ vl p, vs = [vl, .ref p] ∧ LandAt K C H vl a.1 ∧ H p = some (.dK (encK a.2))) fun a => pF K (dTold a.1.ps (dget a.2))
abbrev spx_burning : Sp := spG (fun a : FA × List (List (Option Int)) => FOk a.1 ∧ NumsOk a.1.P a.2) (fun a => aL K C a.1.P (encF a.1 ++ [dNums a.2])) fun a H H' v => ∃ f, CertF a.1 a.2 f ∧ pF K (dTold a.1.P.ps (dget f)) H H' v
abbrev spx_fastest : Sp := spG (fun a : FA => FOk a) (fun a => aL K C a.P (encF a)) fun a H H' v => ∃ f, CertF a (leastN a.P.ls) f ∧ pF K (dTold a.P.ps (dget f)) H H' v
abbrev spx_never_burn : Sp := spG (fun a : FA × List Str => FOk a.1 ∧ a.2.length ≤ 100 ∧ ∀ g ∈ a.2, g ∈ a.1.P.ps) (fun a => aL K C a.1.P (encF a.1 ++ [dStrs a.2])) fun a H H' v => ∃ f, CertF a.1 (leastN a.1.P.ls) f ∧ pD K (.bool (a.2.all fun g => (dget f g).isNone)) H H' v
abbrev spx_check_question : Sp := spG (fun a : FA × List Str => FOk a.1 ∧ ∀ g ∈ a.2, g ∈ a.1.P.ps) (fun a => aL K C a.1.P (encF a.1 ++ [dStrs a.2])) fun _ => pD K .none
abbrev spx_keeps : Sp := spx_never_burn K C
abbrev spx_is_name : Sp := spG (fun z : Str => NameOk z) (fun z => aD K [.str z]) fun _ => pD K (.bool true)
abbrev spx_are_different : Sp := spG (fun a : List Str ⊕ List (Str × Str) => match a with
  | .inl l => l.Nodup ∧ l.length ≤ 64
  | .inr l => l.Nodup ∧ ∀ r ∈ l, PyData.strOk r.1 = true ∧ PyData.strOk r.2 = true) (fun a => match a with
  | .inl l => aD K [.tuple (l.map .str)]
  | .inr l => aD K [.list (l.map fun r => .tuple [.str r.1, .str r.2])]) fun _ => pD K (.bool true)
abbrev spx_require : Sp := spG (fun _ : Unit => True) (fun _ => aD K [.bool true]) fun _ => pD K .none
abbrev spx_checked_times : Sp := spG (fun a : List (Option (Int × Int)) × Int => a.1.length = a.2 ∧ a.1.length ≤ 3 ∧ ∀ p ∈ a.1, PairOk p) (fun a => aD K [.tuple (a.1.map dP), .int a.2]) fun a => pD K (.tuple (a.1.map dP))
abbrev spx_Land_are_ends : Sp := spG (fun a : List Str × List Str × Str × Str => a.2.2.1 ∈ a.2.1 ∧ a.2.2.2 ∈ a.2.1 ∧ a.2.2.1 ≠ a.2.2.2) (fun a => aM K C a.1 a.2.1 none [.str a.2.2.1, .str a.2.2.2]) fun _ => pD K (.bool true)
abbrev spx_Land_checked_link : Sp := spG (fun a : List Str × List Str × Lk => a.1.length ≤ 3 ∧ LkOk a.1.length a.2.1 a.2.2) (fun a => aM K C a.1 a.2.1 none [dL a.2.2]) fun a => pD K (dL a.2.2)
abbrev spx_Land_checked_path : Sp := spG (fun a : List Str × List Str × Pth => PthOk a.2.1 a.2.2) (fun a => aM K C a.1 a.2.1 none [dT a.2.2]) fun a => pD K (dT a.2.2)
abbrev spx_Land_link_names : Sp := spG (fun a : List Str × List Str × List Lk => a.2.2.length ≤ 64) (fun a => aM K C a.1 a.2.1 (some a.2.2) []) fun a => pD K (.tuple ((a.2.2.map (·.nm)).map .str))
abbrev spx_Land_check_place : Sp := spG (fun a : Parts × Str => a.2 ∈ a.1.ps) (fun a => aM K C a.1.ws a.1.ps (some a.1.ls) [.str a.2]) fun _ => pD K .none
abbrev spx_Land_check_wind : Sp := spG (fun a : Parts × Str => a.2 ∈ a.1.ws) (fun a => aM K C a.1.ws a.1.ps (some a.1.ls) [.str a.2]) fun _ => pD K .none
abbrev spx_Land_init : Sp := fun vs H Q _ => ∃ (P : Parts) (x dx b : Addr) (rest : List V), POk P ∧ vs = .ref x :: .ref b :: rest ∧ H x = some (.ins C dx []) ∧ FZ H b ∧ DpAll K H (.ref b :: rest) [.tuple (P.ws.map .str), .tuple (P.ps.map .str), .tuple (P.ls.map dL), .tuple (P.pt.map dT)] ∧
  ∀ H', (∀ b o, b ≠ x → H b = some o → H' b = some o) → LandAt K C H' (.ref x) P → Q .non H'
abbrev spx_law_row : Sp := spG (fun a : Int × Int => 0 ≤ a.2 ∧ a.2 ≤ 1000) (fun a => aD K [.int a.1, .int a.2]) fun a H H' v => ∃ ns, NOk ns a.2.toNat ∧ pF K (dInts ns) H H' v
abbrev spx_law_numbers : Sp := spG (fun a : List Int × Int => a.2 = 190) (fun a => aD K [.list (dInts a.1), .int a.2]) fun a H H' v => ∃ ns, NOk ns 190 ∧ pF K (dInts ns) H H' v
abbrev spx_law_parts : Sp := spG (fun a : List Int => NOk a 190) (fun a => aD K [.list (dInts a), .int 0]) fun a H H' v => ∃ P, POk P ∧ PAt K H' v P
abbrev spx_law_weather : Sp := spG (fun a : List Int × Parts => NOk a.1 190 ∧ POk a.2) (fun a => aD K [.list (dInts a.1), .int 110, dParts a.2]) fun a H H' v => ∃ W, WOk a.2.ws W ∧ pD K (.list (W.map dW)) H H' v
abbrev spx_law_wind : Sp := spG (fun a : Parts × List (Int × Str) × Int => WOk a.1.ws a.2.1 ∧ a.1.ws.length ≤ 3) (fun a => aP K a.1 [.list (a.2.1.map dW), .int a.2.2]) fun a => pD K (.int ((ixS a.1.ws (wd a.2.1 a.2.2) : Nat) : Int))
abbrev spx_law_caught : Sp := spG (fun a : Parts × List (Int × Str) × Lk × Int => WOk a.1.ws a.2.1 ∧ a.1.ws.length ≤ 3 ∧ a.2.2.1.ts.length = a.1.ws.length) (fun a => aP K a.1 [.list (a.2.1.map dW), dL a.2.2.1, .int a.2.2.2, .int 0]) fun a => pD K (dO (cgt a.1.ws a.2.1 (leastR a.2.2.1) a.2.2.2))
abbrev spx_law_fire : Sp := spG (fun a : FA => LFOk a) (fun a => aP K a.P (encF a ++ [.int 0])) fun a => pK (lawB a)
abbrev spx_law_rows : Sp := spG (fun a : List Int × Int × Int × Parts × Int => NOk a.1 190 ∧ 0 ≤ a.2.1 ∧ 0 ≤ a.2.2.1 ∧ a.2.2.1 ≤ 20 ∧ a.2.1 + 2 * a.2.2.1 ≤ 190 ∧ POk a.2.2.2.1 ∧ 0 < a.2.2.2.2) (fun a => aD K [.list (dInts a.1), .int a.2.1, .int a.2.2.1, dParts a.2.2.2.1, .int a.2.2.2.2]) fun a H H' v => ∃ rows, ROk a.2.2.2.1.ps rows ∧ rows.length = a.2.2.1.toNat ∧ pF K (rows.map dR) H H' v
abbrev spx_law_names : Sp := spG (fun a : Int × Int => 0 ≤ a.1 ∧ a.1 < 1009 ∧ 0 ≤ a.2 ∧ a.2 ≤ 10) (fun a => aD K [.int a.1, .int a.2]) fun a H H' v => ∃ l, NamesOk l a.2.toNat ∧ pF K (l.map .str) H H' v
abbrev spx_law_made : Sp := spG (fun P : Parts => POk P) (fun P => aP K P []) fun P _ H' v => LandAt K C H' v P
abbrev spx_law_some : Sp := spG (fun a : List Int × Int × Parts × Int => NOk a.1 190 ∧ 0 ≤ a.2.1 ∧ a.2.1 ≤ 150 ∧ POk a.2.2.1 ∧ 0 < a.2.2.2) (fun a => aD K [.list (dInts a.1), .int a.2.1, dParts a.2.2.1, .int a.2.2.2]) fun a H H' v => ∃ goals : List Str, (∀ g ∈ goals, g ∈ a.2.2.1.ps) ∧ goals.length ≤ 7 ∧ pF K (goals.map .str) H H' v
abbrev spx_law_told : Sp := spG (fun a : Parts × List (Str × Int) => a.1.ps.length ≤ 7) (fun a H vs => ∃ vp p, vs = [vp, .ref p] ∧ Dp K H vp (dParts a.1) ∧ H p = some (.dK (encK a.2))) fun a => pF K (dTold a.1.ps (dget a.2))
abbrev spx_law_kept : Sp := spG (fun a : FA × List Str => LFOk a.1 ∧ a.2.length ≤ 100) (fun a => aP K a.1.P (encF a.1 ++ [dStrs a.2])) fun a => pD K (.bool (!(a.2.any fun g => (dget (lawB a.1) g).isSome)))
abbrev spx_law_between : Sp := spG (fun a : List Int × Parts => NOk a.1 190 ∧ POk a.2) (fun a H vs => ∃ v1 v2 vp, vs = [v1, v2, vp] ∧ DpAll K H [v1, v2] [.list (dInts a.1), .int 145] ∧ PAt K H vp a.2) fun a H H' v => ∃ P2, BOk a.2 P2 ∧ PAt K H' v P2
abbrev spx_law : Sp := spG (fun _ : List Int => True) (fun a => aD K [.list (dInts a)]) fun _ => pD K (.bool true)
end
end Ef

/-! Loops and comprehensions over encoded lists. -/
namespace Ef
open PySem PySem.Spec PyProof.Rows L2 Evl
section
variable {K : PySem.W.Frag} {σ : L2.St} {H H0 H' : Hp} {ta tb te tl : TE} {tt : TT} {tu : TS} {g : TG} {D : Ends} {α : Type}
def pk {β : Type} (l : List α) (d : β) (f : α → β) (i : Nat) : β := ((l[i]?).map f).getD d
theorem pk_of {β : Type} {l : List α} {d : β} {f : α → β} {i : Nat} {x : α} (h : l[i]? = some x) : pk l d f i = f x := by unfold pk; rw [h]; rfl
theorem get_lt {l : List α} {i : Nat} (h : i < l.length) : ∃ x, l[i]? = some x ∧ x ∈ l := ⟨l[i], List.getElem?_eq_getElem h, List.getElem_mem h⟩
theorem get_map {β : Type} {l : List α} {f : α → β} {i : Nat} {e : β} (h : (l.map f)[i]? = some e) : ∃ x, l[i]? = some x ∧ e = f x := by
  rw [List.getElem?_map] at h
  obtain ⟨x, h1, h2⟩ := Option.map_eq_some_iff.mp h
  exact ⟨x, h1, h2.symm⟩
/-- [e for x in list if t] -/
theorem evf_cL {l : List α} {enc gv : α → PyData} {vs : List Nat} (gm : TGMono g) (t : α → Bool) (h : EvD K tl σ H (.list (l.map enc))) (hn : l.length ≤ 40000) (him : ∀ x ∈ l, t x = true → imm (gv x) = true)
    (hb : ∀ (i : Nat) r x H2, l[i]? = some r → Ex H H2 → Dp K H2 x (enc r) → g x (wipe σ vs) H2 fun σ2 H3 => Ex H2 H3 ∧ wipe σ2 vs = wipe σ vs ∧ EvT tt σ2 H3 (t r) ∧ (t r = true → EvD K te σ2 H3 (gv r))) : EvF K (tLc (iList K tl) g tt te vs) σ H ((l.filter t).map gv) := by
  rw [← givD_filter gv t l (pk l false t) (pk l .none gv) (fun i x hx => pk_of hx) (fun i x hx _ => pk_of hx)]
  have e1 : l.length = (l.map enc).length := (List.length_map _).symm
  rw [e1]
  refine evf_lcL gm _ _ h (by rw [← e1]; exact hn) (fun i hi hf => ?_) fun i e x H2 he ex hx => ?_
  · obtain ⟨y, hy, hm⟩ := get_lt (l := l) (by rw [e1]; exact hi)
    rw [pk_of hy] at hf ⊢
    exact him y hm hf
  · obtain ⟨r, hr, rfl⟩ := get_map he
    rw [pk_of hr, pk_of hr]
    exact hb i r x H2 hr ex hx
theorem evf_cT {l : List α} {enc gv : α → PyData} {vs : List Nat} (gm : TGMono g) (t : α → Bool) (h : EvD K tl σ H (.tuple (l.map enc))) (hn : l.length ≤ 40000) (him : ∀ x ∈ l, t x = true → imm (gv x) = true)
    (hb : ∀ (i : Nat) r x H2, l[i]? = some r → Ex H H2 → Dp K H2 x (enc r) → g x (wipe σ vs) H2 fun σ2 H3 => Ex H2 H3 ∧ wipe σ2 vs = wipe σ vs ∧ EvT tt σ2 H3 (t r) ∧ (t r = true → EvD K te σ2 H3 (gv r))) : EvF K (tLc (iTup K tl) g tt te vs) σ H ((l.filter t).map gv) := by
  rw [← givD_filter gv t l (pk l false t) (pk l .none gv) (fun i x hx => pk_of hx) (fun i x hx _ => pk_of hx)]
  have e1 : l.length = (l.map enc).length := (List.length_map _).symm
  rw [e1]
  refine evf_lcT gm _ _ h (by rw [← e1]; exact hn) (fun i hi hf => ?_) fun i e x H2 he ex hx => ?_
  · obtain ⟨y, hy, hm⟩ := get_lt (l := l) (by rw [e1]; exact hi)
    rw [pk_of hy] at hf ⊢
    exact him y hm hf
  · obtain ⟨r, hr, rfl⟩ := get_map he
    rw [pk_of hr, pk_of hr]
    exact hb i r x H2 hr ex hx
theorem filter_true (l : List α) : l.filter (fun _ => true) = l := by induction l with
  | nil => rfl
  | cons a l ih => rw [List.filter_cons, if_pos rfl, ih]
/-- no test -/
theorem evf_aL {l : List α} {enc gv : α → PyData} {vs : List Nat} (gm : TGMono g) (h : EvD K tl σ H (.list (l.map enc))) (hn : l.length ≤ 40000) (him : ∀ x ∈ l, imm (gv x) = true)
    (hb : ∀ (i : Nat) r x H2, l[i]? = some r → Ex H H2 → Dp K H2 x (enc r) → g x (wipe σ vs) H2 fun σ2 H3 => Ex H2 H3 ∧ wipe σ2 vs = wipe σ vs ∧ EvD K te σ2 H3 (gv r)) : EvF K (tLc (iList K tl) g tYes te vs) σ H (l.map gv) := by
  have := evf_cL (K := K) (σ := σ) (H := H) (tl := tl) (te := te) (g := g) (tt := tYes) (l := l) (enc := enc) (gv := gv) (vs := vs) gm (fun _ => true) h hn (fun x hx _ => him x hx) fun i r x H2 hr ex hx => gm _ _ _ _ _ (fun σ2 H3 z => ⟨z.1, z.2.1, et_yes, fun _ => z.2.2⟩) (hb i r x H2 hr ex hx)
  rw [filter_true] at this
  exact this
theorem evf_aT {l : List α} {enc gv : α → PyData} {vs : List Nat} (gm : TGMono g) (h : EvD K tl σ H (.tuple (l.map enc))) (hn : l.length ≤ 40000) (him : ∀ x ∈ l, imm (gv x) = true)
    (hb : ∀ (i : Nat) r x H2, l[i]? = some r → Ex H H2 → Dp K H2 x (enc r) → g x (wipe σ vs) H2 fun σ2 H3 => Ex H2 H3 ∧ wipe σ2 vs = wipe σ vs ∧ EvD K te σ2 H3 (gv r)) : EvF K (tLc (iTup K tl) g tYes te vs) σ H (l.map gv) := by
  have := evf_cT (K := K) (σ := σ) (H := H) (tl := tl) (te := te) (g := g) (tt := tYes) (l := l) (enc := enc) (gv := gv) (vs := vs) gm (fun _ => true) h hn (fun x hx _ => him x hx) fun i r x H2 hr ex hx => gm _ _ _ _ _ (fun σ2 H3 z => ⟨z.1, z.2.1, et_yes, fun _ => z.2.2⟩) (hb i r x H2 hr ex hx)
  rw [filter_true] at this
  exact this
/-- for x in a list that stays, known at H0 -/
theorem s_lpL {l : List α} {enc : α → PyData} {v : V} (hi : ∀ x, imm (enc x) = true) (hv0 : Dp K H0 v (.list (l.map enc))) (hv : ∀ Q : VK, Q v H → tl σ H Q) (Pv : Nat → L2.St → Hp → Prop) (h0 : Pv 0 σ H) (hst : ∀ i σ' H', Pv i σ' H' → Ex H0 H')
    (hs : ∀ (i : Nat) r x σ' H', l[i]? = some r → Pv i σ' H' → Dp K H' x (enc r) → g x σ' H' fun σ2 H2 => tu { D with nx := Pv (i + 1), ct := Pv (i + 1), bk := D.nx } σ2 H2) (hd : ∀ σ' H', Pv l.length σ' H' → D.nx σ' H') : tFor (iList K tl) g tu D σ H :=
  hv _ (by
    obtain ⟨a, xs, rfl, hq, hx⟩ := hv0.lst_inv
    have hlen := hx.len
    rw [List.length_map] at hlen
    refine ⟨a, rfl, ⟨xs, ex_l (hst _ _ _ h0) hq⟩, for_it (walk_list (xs := xs)) Pv h0 (fun i σ' H' _ p => ex_l (hst _ _ _ p) hq) (fun i x σ' H' H'' hlt p y => ?_) fun σ' H' p => hd σ' H' (by rw [← hlen]; exact p)⟩
    obtain ⟨rfl, hxi⟩ := y
    obtain ⟨d', hd1, hd2⟩ := dpAll_of_get hx hxi
    obtain ⟨r, hr, rfl⟩ := get_map hd1
    exact hs i r x σ' _ hr p (hd2.ex (hst _ _ _ p)))
theorem s_lpT {l : List α} {enc : α → PyData} {v : V} (hv0 : Dp K H0 v (.tuple (l.map enc))) (hv : ∀ Q : VK, Q v H → tl σ H Q) (Pv : Nat → L2.St → Hp → Prop) (h0 : Pv 0 σ H) (hst : ∀ i σ' H', Pv i σ' H' → Ex H0 H')
    (hs : ∀ (i : Nat) r x σ' H', l[i]? = some r → Pv i σ' H' → Dp K H' x (enc r) → g x σ' H' fun σ2 H2 => tu { D with nx := Pv (i + 1), ct := Pv (i + 1), bk := D.nx } σ2 H2) (hd : ∀ σ' H', Pv l.length σ' H' → D.nx σ' H') : tFor (iTup K tl) g tu D σ H :=
  hv _ (by
    obtain ⟨a, xs, rfl, hq, hx⟩ := hv0.tup_inv
    have hlen := hx.len
    rw [List.length_map] at hlen
    refine ⟨a, rfl, ⟨xs, ex_t (hst _ _ _ h0) hq⟩, for_it (walk_tup (xs := xs)) Pv h0 (fun i σ' H' _ p => ex_t (hst _ _ _ p) hq) (fun i x σ' H' H'' hlt p y => ?_) fun σ' H' p => hd σ' H' (by rw [← hlen]; exact p)⟩
    obtain ⟨rfl, hxi⟩ := y
    obtain ⟨d', hd1, hd2⟩ := dpAll_of_get hx hxi
    obtain ⟨r, hr, rfl⟩ := get_map hd1
    exact hs i r x σ' _ hr p (hd2.ex (hst _ _ _ p)))
theorem q_var {i : Nat} {v : V} (h : σ[i]? = some (some v)) : ∀ Q : VK, Q v H → tVar i σ H Q := fun Q q => ⟨v, h, q⟩
/-- a field's value, as it was at H0 -/
theorem fld_val {C : Addr} {f : Str} {vl : V} {ws ps : List Str} {ol : Option (List Lk)} {d : PyData} (hl : LAtt K C H0 vl ws ps ol) (hc : Cls K C) (hn : NoAttr K C f) (hf : (f = "winds" ∧ d = .tuple (ws.map .str)) ∨ (f = "places" ∧ d = .tuple (ps.map .str)) ∨ ∃ ls, ol = some ls ∧ f = "links" ∧ d = .tuple (ls.map dL)) :
    ∃ v, Dp K H0 v d ∧ ∀ (i : Nat) (σ : L2.St) (H : Hp), σ[i]? = some (some vl) → Ex H0 H → ∀ Q : VK, Q v H → tFld K (tVar i) f σ H Q := by
  obtain ⟨b, dx, fs, rfl, h2, h3, h4, h5, h6⟩ := hl
  have : FL K H0 fs f d := by
    rcases hf with ⟨rfl, rfl⟩ | ⟨rfl, rfl⟩ | ⟨ls, rfl, rfl, rfl⟩
    · exact h4.fl
    · exact h5
    · exact h6 ls rfl
  obtain ⟨v, l, hd⟩ := this
  exact ⟨v, hd, fun i σ H hv e Q q => ⟨_, hv, b, C, dx, fs, v, rfl, e _ _ h2, hc, hn, l, q⟩⟩
/-- an item of a list that stays, as it was at H0 -/
theorem ix_val {v : V} {ds : List PyData} {j : Int} {d : PyData} (h : Dp K H0 v (.list ds)) (hj : L2.atI ds j = some d) : ∃ u, Dp K H0 u d ∧ ∀ (i : Nat) (σ : L2.St) (H : Hp), σ[i]? = some (some v) → Ex H0 H → ∀ Q : VK, Q u H → tOp (rIxL K) (tVar i) (tC (.int j)) σ H Q := by
  obtain ⟨a, xs, rfl, hq, hx⟩ := h.lst_inv
  obtain ⟨u, h1, h2⟩ := hx.atI hj
  exact ⟨u, h2, fun i σ H hv e Q q => ⟨_, hv, a, xs, j, u, rfl, rfl, ex_l e hq, h1, q⟩⟩
theorem aL_len {C : Addr} {P : Parts} {ds : List PyData} {vs : List V} (h : aL K C P ds H vs) : vs.length = ds.length + 1 := by
  obtain ⟨vl, rest, rfl, _, h⟩ := h
  rw [List.length_cons, h.len]
theorem aM_len {C : Addr} {ws ps : List Str} {ol : Option (List Lk)} {ds : List PyData} {vs : List V} (h : aM K C ws ps ol ds H vs) : vs.length = ds.length + 1 := by
  obtain ⟨vl, rest, rfl, _, h⟩ := h
  rw [List.length_cons, h.len]
theorem one_inv {vs : List V} {a : PyData} (h : DpAll K H vs [a]) : ∃ x, vs = [x] ∧ Dp K H x a := by
  cases h with
  | cons h1 h => cases h; exact ⟨_, rfl, h1⟩
theorem two_inv {vs : List V} {a b : PyData} (h : DpAll K H vs [a, b]) : ∃ x y, vs = [x, y] ∧ Dp K H x a ∧ Dp K H y b := by
  cases h with
  | cons h1 h => obtain ⟨y, rfl, hy⟩ := one_inv h; exact ⟨_, y, rfl, h1, hy⟩
theorem three_inv {vs : List V} {a b c : PyData} (h : DpAll K H vs [a, b, c]) : ∃ x y z, vs = [x, y, z] ∧ Dp K H x a ∧ Dp K H y b ∧ Dp K H z c := by
  cases h with
  | cons h1 h => obtain ⟨y, z, rfl, hy, hz⟩ := two_inv h; exact ⟨_, y, z, rfl, h1, hy, hz⟩
theorem four_inv {vs : List V} {a b c d : PyData} (h : DpAll K H vs [a, b, c, d]) : ∃ x y z u, vs = [x, y, z, u] ∧ Dp K H x a ∧ Dp K H y b ∧ Dp K H z c ∧ Dp K H u d := by
  cases h with
  | cons h1 h => obtain ⟨y, z, u, rfl, hy, hz, hu⟩ := three_inv h; exact ⟨_, y, z, u, rfl, h1, hy, hz, hu⟩
theorem five_inv {vs : List V} {a b c d e : PyData} (h : DpAll K H vs [a, b, c, d, e]) : ∃ x y z u t, vs = [x, y, z, u, t] ∧ Dp K H x a ∧ Dp K H y b ∧ Dp K H z c ∧ Dp K H u d ∧ Dp K H t e := by
  cases h with
  | cons h1 h => obtain ⟨y, z, u, t, rfl, hy, hz, hu, ht⟩ := four_inv h; exact ⟨_, y, z, u, t, rfl, h1, hy, hz, hu, ht⟩
theorem EvF.to {ds es : List PyData} (h : EvF K te σ H ds) (e : ds = es) : EvF K te σ H es := e ▸ h
theorem ev_neg1 : Ev (tUn (rU fun i => .int (-i)) (tC (.int 1))) σ H (.int (-1)) := ev_un ev_c ru_neg
theorem ed1 {d : PyData} (h : EvD K ta σ H d) : EdA K (tCons ta tNil) σ H [d] := ed_cons h ed_nil
theorem atI_neg1 {l : List α} {x : α} (h : l.getLast? = some x) : L2.atI l (-1) = some x := by
  rw [List.getLast?_eq_getElem?] at h
  have hl : 0 < l.length := by
    cases l with
    | nil => cases h
    | cons a l => exact Nat.succ_pos _
  have e1 : L2.ixN l.length (-1) = some (l.length - 1) := by
    unfold L2.ixN
    have h1 : ¬ ((0 : Int) ≤ -1) := by decide
    simp
    omega
  unfold L2.atI
  simp only [e1]
  exact h

/-! ### chains of ≤ -/
theorem ev_chLE {tc : TE} {i j k : Int} (ha : Ev ta σ H (.int i)) (hb : Ev tb σ H (.int j)) (hc : Ev tc σ H (.int k)) (h : i ≤ j ∧ j ≤ k) : Ev (tChain (rI0 fun i j => .bl (decide (i ≤ j))) (rI0 fun i j => .bl (decide (i ≤ j))) ta tb tc) σ H (.bl true) :=
  Ev.to (ev_chain (b := decide (i ≤ j)) (c := decide (j ≤ k)) ha hb hc (fun _ _ q => ⟨_, _, rfl, rfl, q⟩) (fun _ _ q => ⟨_, _, rfl, rfl, q⟩)) (by simp [h.1, h.2])
theorem ev_ch3LE {tc td : TE} {i j k l : Int} (ha : Ev ta σ H (.int i)) (hb : Ev tb σ H (.int j)) (hc : Ev tc σ H (.int k)) (hd : Ev td σ H (.int l)) (h : i ≤ j ∧ j ≤ k ∧ k ≤ l) : Ev (tChain3 (rI0 fun i j => .bl (decide (i ≤ j))) (rI0 fun i j => .bl (decide (i ≤ j))) (rI0 fun i j => .bl (decide (i ≤ j))) ta tb tc td) σ H (.bl true) :=
  Ev.to (ev_chain3 (b := decide (i ≤ j)) (c := decide (j ≤ k)) (d := decide (k ≤ l)) ha hb hc hd (fun _ _ q => ⟨_, _, rfl, rfl, q⟩) (fun _ _ q => ⟨_, _, rfl, rfl, q⟩) (fun _ _ q => ⟨_, _, rfl, rfl, q⟩)) (by simp [h.1, h.2.1, h.2.2])

/-! ### zip -/
theorem walk_zipT {a b : Addr} {xs ys : List V} {n : Nat} (hn : n = min xs.length ys.length) : Walk (RZ.ItzT K a b) n (fun H => SqT K H a xs ∧ SqT K H b ys) (YPair (fun i => xs[i]?) (fun i => ys[i]?)) := by
  refine ⟨fun i H hi h => ?_, fun H h => ?_, fun i H x H' hi h y => ?_⟩
  · have h1 : i < xs.length := by omega
    have h2 : i < ys.length := by omega
    exact ⟨xs, ys, _, _, h.1, h.2, List.getElem?_eq_getElem h1, List.getElem?_eq_getElem h2⟩
  · refine ⟨xs, ys, h.1, h.2, ?_⟩
    omega
  · obtain ⟨T, x', y', rfl, hT, rfl, f1, f2⟩ := y
    exact ⟨T, x', y', rfl, hT, rfl, f1 xs h.1, f2 ys h.2⟩
theorem zip_get {β : Type} {l : List α} {m : List β} {i : Nat} {r : α × β} (h : (l.zip m)[i]? = some r) : l[i]? = some r.1 ∧ m[i]? = some r.2 := by
  rw [List.getElem?_zip_eq_some] at h
  exact h
theorem get_zip {β : Type} {l : List α} {m : List β} {i : Nat} {x : α} {y : β} (h1 : l[i]? = some x) (h2 : m[i]? = some y) : (l.zip m)[i]? = some (x, y) := by
  rw [List.getElem?_zip_eq_some]
  exact ⟨h1, h2⟩
theorem new_pair {H2 : Hp} {T : Addr} {x y : V} {d1 d2 : PyData} (hT : H2 T = none) (hx : Dp K H2 x d1) (hy : Dp K H2 y d2) : Dp K (upd H2 T (.tup [x, y])) (.ref T) (.tuple [d1, d2]) := by
  have e := Ex.new (o := .tup [x, y]) hT
  exact .tup (st_of upd_same) (.cons (hx.ex e) (.cons (hy.ex e) .nil))
/-- [e for a, b in zip(list, list)] -/
theorem evf_zL {β : Type} {tm : TE} {l : List α} {m : List β} {e1 : α → PyData} {e2 : β → PyData} {gv : α × β → PyData} {vs : List Nat} (gm : TGMono g) (h1 : EvD K tl σ H (.list (l.map e1))) (h2 : EvD K tm σ H (.list (m.map e2))) (hn : l.length ≤ 40000) (him : ∀ x, imm (gv x) = true)
    (hb : ∀ (i : Nat) r x H2, (l.zip m)[i]? = some r → Ex H H2 → Dp K H2 x (.tuple [e1 r.1, e2 r.2]) → g x (wipe σ vs) H2 fun σ2 H3 => Ex H2 H3 ∧ wipe σ2 vs = wipe σ vs ∧ EvD K te σ2 H3 (gv r)) : EvF K (tLc (RZ.iZipA K (tCons tl (tCons tm tNil))) g tYes te vs) σ H ((l.zip m).map gv) := fun H0 e0 Q q =>
  h1 H0 e0 _ fun v1 H1 f1 hv1 => h2 H1 (e0.trans f1) _ fun v2 H2 f2 hv2 => by
    obtain ⟨a, xs, rfl, hq, hx⟩ := hv1.lst_inv
    obtain ⟨b, ys, rfl, hq2, hy⟩ := hv2.lst_inv
    have hl1 := hx.len
    have hl2 := hy.len
    rw [List.length_map] at hl1 hl2
    refine ⟨a, b, xs, ys, rfl, .inl ⟨ex_l f2 hq, hq2, ?_⟩⟩
    refine lcd_core (K := K) (n := (l.zip m).length) (walk_zip (xs := xs) (ys := ys) (by rw [List.length_zip]; omega)) (fun _ => true) (pk (l.zip m) .none gv) (by rw [List.length_zip]; omega) (fun i hi _ => ?_) (fun H' e => ⟨ex_l (f2.trans e) hq, ex_l e hq2⟩) (fun i x Ha Hb hi ea y => ?_) (fun x Hb P Q => gm x _ Hb P Q) fun p zs H3 hp e2 h1 h2 => q p zs H3 (fresh_back (f1.trans f2) hp) ((f1.trans f2).trans e2) h1 ?_
    · obtain ⟨y, hy, hm⟩ := get_lt hi
      rw [pk_of hy]
      exact him y
    · obtain ⟨T, x', y', rfl, hT, rfl, g1, g2⟩ := y
      obtain ⟨d1, k1, k2⟩ := dpAll_of_get hx g1
      obtain ⟨d2, k3, k4⟩ := dpAll_of_get hy g2
      obtain ⟨r1, k5, rfl⟩ := get_map k1
      obtain ⟨r2, k6, rfl⟩ := get_map k3
      have hz := get_zip k5 k6
      have en := Ex.new (o := .tup [x', y']) hT
      rw [pk_of hz]
      exact gm _ _ _ _ _ (fun σ2 H3 z => ⟨en.trans z.1, z.2.1, et_yes, fun _ => z.2.2⟩) (hb i (r1, r2) _ _ hz (((e0.trans (f1.trans f2)).trans ea).trans en) (new_pair hT ((k2.ex f2).ex ea) (k4.ex ea)))
    · rw [givD_all (l.zip m) gv (fun _ => true) (pk (l.zip m) .none gv) (fun _ _ => rfl) (fun i x hx => pk_of hx)] at h2
      exact h2
theorem evf_zT {β : Type} {tm : TE} {l : List α} {m : List β} {e1 : α → PyData} {e2 : β → PyData} {gv : α × β → PyData} {vs : List Nat} (gm : TGMono g) (h1 : EvD K tl σ H (.tuple (l.map e1))) (h2 : EvD K tm σ H (.tuple (m.map e2))) (hn : l.length ≤ 40000) (him : ∀ x, imm (gv x) = true)
    (hb : ∀ (i : Nat) r x H2, (l.zip m)[i]? = some r → Ex H H2 → Dp K H2 x (.tuple [e1 r.1, e2 r.2]) → g x (wipe σ vs) H2 fun σ2 H3 => Ex H2 H3 ∧ wipe σ2 vs = wipe σ vs ∧ EvD K te σ2 H3 (gv r)) : EvF K (tLc (RZ.iZipA K (tCons tl (tCons tm tNil))) g tYes te vs) σ H ((l.zip m).map gv) := fun H0 e0 Q q =>
  h1 H0 e0 _ fun v1 H1 f1 hv1 => h2 H1 (e0.trans f1) _ fun v2 H2 f2 hv2 => by
    obtain ⟨a, xs, rfl, hq, hx⟩ := hv1.tup_inv
    obtain ⟨b, ys, rfl, hq2, hy⟩ := hv2.tup_inv
    have hl1 := hx.len
    have hl2 := hy.len
    rw [List.length_map] at hl1 hl2
    refine ⟨a, b, xs, ys, rfl, .inr ⟨ex_t f2 hq, hq2, ?_⟩⟩
    refine lcd_core (K := K) (n := (l.zip m).length) (walk_zipT (xs := xs) (ys := ys) (by rw [List.length_zip]; omega)) (fun _ => true) (pk (l.zip m) .none gv) (by rw [List.length_zip]; omega) (fun i hi _ => ?_) (fun H' e => ⟨ex_t (f2.trans e) hq, ex_t e hq2⟩) (fun i x Ha Hb hi ea y => ?_) (fun x Hb P Q => gm x _ Hb P Q) fun p zs H3 hp e2 h1 h2 => q p zs H3 (fresh_back (f1.trans f2) hp) ((f1.trans f2).trans e2) h1 ?_
    · obtain ⟨y, hy, hm⟩ := get_lt hi
      rw [pk_of hy]
      exact him y
    · obtain ⟨T, x', y', rfl, hT, rfl, g1, g2⟩ := y
      obtain ⟨d1, k1, k2⟩ := dpAll_of_get hx g1
      obtain ⟨d2, k3, k4⟩ := dpAll_of_get hy g2
      obtain ⟨r1, k5, rfl⟩ := get_map k1
      obtain ⟨r2, k6, rfl⟩ := get_map k3
      have hz := get_zip k5 k6
      have en := Ex.new (o := .tup [x', y']) hT
      rw [pk_of hz]
      exact gm _ _ _ _ _ (fun σ2 H3 z => ⟨en.trans z.1, z.2.1, et_yes, fun _ => z.2.2⟩) (hb i (r1, r2) _ _ hz (((e0.trans (f1.trans f2)).trans ea).trans en) (new_pair hT ((k2.ex f2).ex ea) (k4.ex ea)))
    · rw [givD_all (l.zip m) gv (fun _ => true) (pk (l.zip m) .none gv) (fun _ _ => rfl) (fun i x hx => pk_of hx)] at h2
      exact h2
/-- for a, b in zip(tuple, tuple), the tuples known at H0 -/
theorem s_lpZ {β : Type} {tm : TE} {l : List α} {m : List β} {e1 : α → PyData} {e2 : β → PyData} {u v : V} (hl : l.length = m.length) (hu0 : Dp K H0 u (.tuple (l.map e1))) (hv0 : Dp K H0 v (.tuple (m.map e2))) (hu : ∀ Q : VK, Q u H → tl σ H Q) (hv : ∀ Q : VK, Q v H → tm σ H Q) (Pv : Nat → L2.St → Hp → Prop) (h0 : Pv 0 σ H) (hst : ∀ i σ' H', Pv i σ' H' → Ex H0 H')
    (hnew : ∀ i σ' H' T o, Pv i σ' H' → H' T = none → Pv i σ' (upd H' T o))
    (hs : ∀ (i : Nat) r x σ' H', (l.zip m)[i]? = some r → Pv i σ' H' → Dp K H' x (.tuple [e1 r.1, e2 r.2]) → g x σ' H' fun σ2 H2 => tu { D with nx := Pv (i + 1), ct := Pv (i + 1), bk := D.nx } σ2 H2) (hd : ∀ σ' H', Pv (l.zip m).length σ' H' → D.nx σ' H') : tFor (RZ.iZipA K (tCons tl (tCons tm tNil))) g tu D σ H :=
  hu _ (hv _ (by
    obtain ⟨a, xs, rfl, hq, hx⟩ := hu0.tup_inv
    obtain ⟨b, ys, rfl, hq2, hy⟩ := hv0.tup_inv
    have hl1 := hx.len
    have hl2 := hy.len
    rw [List.length_map] at hl1 hl2
    refine ⟨a, b, xs, ys, rfl, .inr ⟨ex_t (hst _ _ _ h0) hq, ex_t (hst _ _ _ h0) hq2, ?_⟩⟩
    refine for_it (walk_zipT (n := (l.zip m).length) (xs := xs) (ys := ys) (by rw [List.length_zip]; omega)) Pv h0 (fun i σ' H' _ p => ⟨ex_t (hst _ _ _ p) hq, ex_t (hst _ _ _ p) hq2⟩) (fun i x σ' H' H'' hlt p y => ?_) fun σ' H' p => hd σ' H' p
    obtain ⟨T, x', y', rfl, hT, rfl, g1, g2⟩ := y
    obtain ⟨d1, k1, k2⟩ := dpAll_of_get hx g1
    obtain ⟨d2, k3, k4⟩ := dpAll_of_get hy g2
    obtain ⟨r1, k5, rfl⟩ := get_map k1
    obtain ⟨r2, k6, rfl⟩ := get_map k3
    exact hs i (r1, r2) _ σ' _ (get_zip k5 k6) (hnew _ _ _ _ _ p hT) (new_pair hT (k2.ex (hst _ _ _ p)) (k4.ex (hst _ _ _ p)))))

theorem take_snoc {l : List α} {i : Nat} {x : α} (h : l[i]? = some x) : l.take (i + 1) = l.take i ++ [x] := by
  obtain ⟨hi, e⟩ := List.getElem?_eq_some_iff.mp h
  rw [List.take_succ_eq_append_getElem hi, e]
/-- append to a list that is new since H0 -/
theorem s_appE {l : Addr} {ds : List PyData} {d : PyData} (hn : H0 l = none) (e : Ex H0 H) (hL : LAt K H l ds) (hi : immAll ds = true) (hid : imm d = true) (ha : Ev ta σ H (.ref l)) (h : EvD K te σ H d) (hz : ds.length < 100000)
    (k : ∀ H2, Ex H0 H2 → LAt K H2 l (ds ++ [d]) → D.nx σ H2) : tDrop (tBM K "list" rAppend ta (tCons te tNil)) D σ H :=
  s_app' hL hi hid ha h hz fun H1 v H2 e1 _ e2 hl _ => k H2 (by rw [e2]; exact (e.trans e1).mut hn) hl

/-- t.index(z) -/
theorem ev_index {to : TE} {ss : List Str} {z : Str} (ha : ∀ H1, Ex H H1 → ∀ Q : VK, (∀ b H2, Ex H1 H2 → Dp K H2 (.ref b) (.tuple (ss.map .str)) → FZ H2 b → Q (.ref b) H2) → to σ H1 Q) (hb : Ev te σ H (.str z)) (hz : z ∈ ss) : Ev (tIndex K to te) σ H (.int ((ixS ss z : Nat) : Int)) := fun H1 e Q q => ha H1 e _ fun b H2 e2 hv hf => by
  obtain ⟨a, xs, eb, hq, hx⟩ := hv.tup_inv
  cases eb
  have ex := hx.strs_inv
  subst ex
  obtain ⟨k1, k2, _⟩ := ixS_spec hz
  exact ⟨b, rfl, hf, hb H2 (e.trans e2) _ fun H3 e3 => ⟨ss, z, ixS ss z, rfl, ex_t e3 hq, k1, k2, q H3 (e2.trans e3)⟩⟩
/-- land.winds, parts[0] -/
theorem fz_winds {C : Addr} {i : Nat} {vl : V} {ws ps : List Str} {ol : Option (List Lk)} (hv : σ[i]? = some (some vl)) (hl : LAtt K C H vl ws ps ol) (hc : Cls K C) (hn : NoAttr K C "winds") : ∀ H1, Ex H H1 → ∀ Q : VK, (∀ b H2, Ex H1 H2 → Dp K H2 (.ref b) (.tuple (ws.map .str)) → FZ H2 b → Q (.ref b) H2) → tFld K (tVar i) "winds" σ H1 Q := fun H1 e Q q => by
  obtain ⟨a, dx, fs, rfl, h2, h3, ⟨b, l, hd, hz⟩, _⟩ := hl
  exact ⟨_, hv, a, C, dx, fs, _, rfl, e _ _ h2, hc, hn, l, q b H1 (Ex.refl H1) (hd.ex e) (hz.ex e)⟩
theorem fz_parts {i : Nat} {vp : V} {P : Parts} (hv : σ[i]? = some (some vp)) (hp : PAt K H vp P) : ∀ H1, Ex H H1 → ∀ Q : VK, (∀ b H2, Ex H1 H2 → Dp K H2 (.ref b) (.tuple (P.ws.map .str)) → FZ H2 b → Q (.ref b) H2) → tOp (rIxL K) (tVar i) (tC (.int 0)) σ H1 Q := fun H1 e Q q => by
  obtain ⟨a, xs, b, rfl, hq, hx, h0, hz⟩ := hp
  obtain ⟨d, k1, k2⟩ := dpAll_of_get hx h0
  cases k1
  exact ⟨_, hv, a, xs, 0, .ref b, rfl, rfl, ex_l e hq, atI_of (Int.le_refl 0) h0, q b H1 (Ex.refl H1) (k2.ex e) (hz.ex e)⟩
end

/-! ### data that == can look through -/
def Sh (n : Nat) (d : PyData) : Prop := d.canLay0 = true ∧ d.depth ≤ n
def ShAll (n : Nat) (ds : List PyData) : Prop := PyData.canLayAll0 ds = true ∧ PyData.depthAll ds ≤ n
theorem sh_str {z : Str} (h : PyData.strOk z = true) : Sh 1 (.str z) := ⟨by simp [PyData.canLay0, h], by simp [PyData.depth]⟩
theorem sh_int (z : Int) : Sh 1 (.int z) := ⟨by simp [PyData.canLay0], by simp [PyData.depth]⟩
theorem sh_none : Sh 1 .none := ⟨by simp [PyData.canLay0], by simp [PyData.depth]⟩
theorem sh_dO (o : Option Int) : Sh 1 (dO o) := by cases o with
  | none => exact sh_none
  | some i => exact sh_int i
theorem shA_nil (n : Nat) : ShAll n [] := ⟨by simp [PyData.canLayAll0], by simp [PyData.depthAll]⟩
theorem shA_cons {n : Nat} {d : PyData} {ds : List PyData} (h : Sh n d) (hs : ShAll n ds) : ShAll n (d :: ds) := ⟨by simp [PyData.canLayAll0, h.1, hs.1], by
  have := h.2
  have := hs.2
  simp [PyData.depthAll]
  omega⟩
theorem sh_tup {n : Nat} {ds : List PyData} (h : ShAll n ds) : Sh (n + 1) (.tuple ds) := ⟨by simp [PyData.canLay0, h.1], by
  have := h.2
  simp [PyData.depth]
  omega⟩
theorem sh_lst {n : Nat} {ds : List PyData} (h : ShAll n ds) : Sh (n + 1) (.list ds) := ⟨by simp [PyData.canLay0, h.1], by
  have := h.2
  simp [PyData.depth]
  omega⟩
theorem shA_map {α : Type} {n : Nat} {f : α → PyData} : ∀ {l : List α}, (∀ x ∈ l, Sh n (f x)) → ShAll n (l.map f)
  | [], _ => shA_nil n
  | a :: l, h => shA_cons (h a List.mem_cons_self) (shA_map fun x hx => h x (List.mem_cons_of_mem _ hx))
theorem Sh.ok {n : Nat} {d : PyData} (h : Sh n d) (hn : n ≤ 64) : SeqAt.shaped d = true := by
  unfold SeqAt.shaped
  rw [h.1, decide_eq_true (Nat.le_trans h.2 hn)]
  rfl
def dSS (r : Str × Str) : PyData := .tuple [.str r.1, .str r.2]
theorem eqv_SS (r q : Str × Str) : PyData.eqv (dSS r) (dSS q) = decide (r = q) := by
  obtain ⟨a, b⟩ := r
  obtain ⟨c, d⟩ := q
  simp [dSS, PyData.eqv, PyData.eqvAll, Prod.ext_iff]
  by_cases h1 : a = c <;> by_cases h2 : b = d <;> simp [h1, h2]
theorem sh_SS {r : Str × Str} (h : PyData.strOk r.1 = true ∧ PyData.strOk r.2 = true) : Sh 2 (dSS r) := sh_tup (shA_cons (sh_str h.1) (shA_cons (sh_str h.2) (shA_nil _)))

/-! ### dicts in loops -/
section
variable {K : PySem.W.Frag} {σ : L2.St} {H H0 H' : Hp} {td td2 ty ty2 tm te : TE} {tu : TS} {g : TG} {D : Ends} {b w : List (Str × Int)} {p : Str} {m : Int} {pb : Addr}
/-- p not in b or m < b[p] -/
theorem et_ahead (hd : Ev td σ H (.ref pb)) (hd2 : Ev td2 σ H (.ref pb)) (hy : Ev ty σ H (.str p)) (hy2 : Ev ty2 σ H (.str p)) (hm : Ev tm σ H (.int m)) (h : H pb = some (.dK (encK b))) :
    EvT (tOr (tB (tDNotIn ty td)) (tTest (tOp (rI0 fun i j => .bl (decide (i < j))) tm (tDGet td2 ty2)))) σ H (ahead b p m) := by
  unfold ahead
  cases e : dget b p with
  | none =>
    have := et_or (u := tTest (tOp (rI0 fun i j => .bl (decide (i < j))) tm (tDGet td2 ty2))) (b := true) (et_B (ev_dnin hy hd h)) fun hb => by rw [e] at hb; cases hb
    rw [e] at this
    exact this
  | some s =>
    have := et_or (b := decide (m < s)) (et_B (ev_dnin hy hd h)) fun hb => et_test (ev_lt hm (ev_dget hd2 hy2 h e))
    rw [e] at this
    exact this
/-- for p, m in d.items(), d locked at ps -/
theorem items_get {i : Nat} {k v : V} (h1 : ((encK w)[i]?.map fun kv => kV kv.1) = some k) (h2 : ((encK w)[i]?.map Prod.snd) = some v) : ∃ r, w[i]? = some r ∧ k = .str r.1 ∧ v = .int r.2 := by
  unfold encK at h1 h2
  rw [List.getElem?_map] at h1 h2
  cases e : w[i]? with
  | none => rw [e] at h1; cases h1
  | some r =>
    rw [e] at h1 h2
    cases h1
    cases h2
    exact ⟨r, rfl, rfl, rfl⟩
theorem s_items {ps : Addr} {od : Obj} (Pv : Nat → L2.St → Hp → Prop) (h0 : Pv 0 σ H) (hG : ∀ i σ' H', Pv i σ' H' → H' ps = some (.frz od (.dK (encK w)))) (hnew : ∀ i σ' H' T o, Pv i σ' H' → H' T = none → Pv i σ' (upd H' T o))
    (hs : ∀ (i : Nat) r x σ' H', w[i]? = some r → Pv i σ' H' → Dp K H' x (.tuple [.str r.1, .int r.2]) → g x σ' H' fun σ2 H2 => tu { D with nx := Pv (i + 1), ct := Pv (i + 1), bk := D.nx } σ2 H2) (hd : ∀ σ' H', Pv w.length σ' H' → D.nx σ' H') :
    ∃ W : Nat → Nat → L2.St → Hp → Prop, (∃ m, W 0 m σ H) ∧ ∀ i m σ H, W i m σ H →
      ((Iti ps od (encK w)).stop i H ∧ D.nx σ H) ∨ ((Iti ps od (encK w)).go i H ∧ ∃ N : L2.St → Hp → Prop, (∀ σ' H', N σ' H' → ∃ m', m' < m ∧ W (i + 1) m' σ' H') ∧ ∀ v H', (Iti ps od (encK w)).yld i H v H' → g v σ H' fun σ2 H2 => tu { D with nx := N, ct := N, bk := D.nx } σ2 H2) := by
  refine for_it (walk_items (d := ps) (o := od) (kvs := encK w)) Pv h0 (fun i σ' H' _ p => hG i σ' H' p) (fun i x σ' H' H'' hlt p y => ?_) fun σ' H' p => hd σ' H' (by rw [← encK_len]; exact p)
  obtain ⟨T, x', y', rfl, hT, rfl, g1, g2⟩ := y
  obtain ⟨r, hr, rfl, rfl⟩ := items_get g1 g2
  exact hs i r _ σ' _ hr (hnew _ _ _ _ _ p hT) (new_pair hT (.str _) (.int _))
/-- min([(m, p) for p, m in d.items()]) -/
theorem er_minItems {pw : Addr} {j1 j2 : Nat} {vs : List Nat} (hd : ∀ H1, ∀ Q : VK, Q (.ref pw) H1 → td σ H1 Q) (h : H pw = some (.dK (encK w))) (hne : w ≠ []) (hok : ∀ r ∈ w, PyData.strOk r.1 = true) (hlen : w.length ≤ 40000)
    (hset : ∀ a b, wipe (((wipe σ vs).set j1 (some a)).set j2 (some b)) vs = wipe σ vs) (h1 : ∀ a b, (((wipe σ vs).set j1 (some a)).set j2 (some b))[j1]? = some (some a)) (h2 : ∀ a b, (((wipe σ vs).set j1 (some a)).set j2 (some b))[j2]? = some (some b)) :
    EvR (fun _ H' v => ∃ r ∈ w, (∀ q ∈ w, r.2 ≤ q.2) ∧ Dp K H' v (.tuple [.int r.2, .str r.1])) (tCB (rMinP K) (tCons (tLockE (tLc (iItems td) (gTup K 2 (gCons (gName j1) (gCons (gName j2) gNil))) tYes (tTup (tCons (tVar j2) (tCons (tVar j1) tNil))) vs)) tNil)) σ H := fun H1 e Q q => by
  have hpw := e _ _ h
  refine ⟨pw, _, hpw, trivial, fun od => ?_⟩
  refine hd _ _ ⟨pw, od, _, rfl, upd_same, ?_⟩
  refine lcd_core (K := K) (σ := σ) (g := gTup K 2 (gCons (gName j1) (gCons (gName j2) gNil))) (tt := tYes) (te := tTup (tCons (tVar j2) (tCons (tVar j1) tNil))) (vs := vs) (H1 := upd H1 pw (.frz od (.dK (encK w)))) (Q := fun v H' => H' pw = some (.frz od (.dK (encK w))) ∧ rMinP K [v] (upd H' pw (.dK (encK w))) Q) (n := w.length) (Walk.mono (by rw [← encK_len]; exact walk_items (d := pw) (o := od) (kvs := encK w)) (fun H' (g : H' pw = some (.frz od (.dK (encK w)))) => g) (fun _ _ _ _ _ _ y => y)) (fun _ => true) (pk w .none fun r => .tuple [.int r.2, .str r.1]) hlen (fun i hi _ => ?_) (fun H' e => e _ _ upd_same) (fun i x Ha Hb hi ea y => ?_) (fun x Hb P Q => gm_pair x _ Hb P Q) fun p zs H3 hp e2 k1 k2 => ?_
  · obtain ⟨y, hy, hm⟩ := get_lt hi
    rw [pk_of hy]
    simp [imm, immAll]
  · obtain ⟨T, x', y', rfl, hT, rfl, g1, g2⟩ := y
    obtain ⟨r, hr, rfl, rfl⟩ := items_get g1 g2
    have en := Ex.new (o := .tup [.str r.1, .int r.2]) hT
    rw [pk_of hr]
    refine g_pair (new_pair hT (.str r.1) (.int r.2)) fun a b ha hb => ⟨en, hset a b, et_yes, fun _ => evd_tup (ed_cons (evd_var (h2 a b) hb) (ed1 (evd_var (h1 a b) ha))) (by simp)⟩
  · have hf : H3 pw = some (.frz od (.dK (encK w))) := e2 _ _ upd_same
    have hne2 : p ≠ pw := fun z => by rw [z, upd_same] at hp; cases hp
    have ex3 : Ex H1 (upd H3 pw (.dK (encK w))) := fun a o ha => by
      by_cases z : a = pw
      · subst z
        rw [hpw] at ha
        rw [upd_same]
        exact ha
      · rw [upd_ne z]
        exact e2 a o (by rw [upd_ne z]; exact ha)
    have kt3 : Kt H3 (upd H3 pw (.dK (encK w))) := fun a xs ha => by
      have z : a ≠ pw := by
        intro z
        subst z
        rcases ha with ha | ⟨_, ha⟩
        · rw [hf] at ha; cases ha
        · rw [hf] at ha; cases ha
      rcases ha with ha | ⟨o, ha⟩
      · exact .inl (by rw [upd_ne z]; exact ha)
      · exact .inr ⟨o, by rw [upd_ne z]; exact ha⟩
    have eg : givD w.length (fun _ => true) (pk w PyData.none fun r => PyData.tuple [.int r.2, .str r.1]) = w.map fun r => PyData.tuple [.int r.2, .str r.1] := givD_all w (fun r => PyData.tuple [.int r.2, .str r.1]) (fun _ => true) _ (fun _ _ => rfl) (fun i x hx => pk_of (d := PyData.none) (f := fun r : Str × Int => PyData.tuple [.int r.2, .str r.1]) hx)
    rw [eg] at k2
    have hd3 : DpAll K (upd H3 pw (.dK (encK w))) zs (w.map fun r => .tuple [.int r.2, .str r.1]) := k2.kt kt3 (immAll_map (fun r => by simp [imm, immAll]) _)
    refine ⟨hf, ?_⟩
    have eW : (w.map fun r => PyData.tuple [.int r.2, .str r.1]) = (w.map fun r : Str × Int => (r.2, r.1)).map prIS := by rw [List.map_map]; rfl
    rw [eW] at hd3
    obtain ⟨r0, w', ew⟩ : ∃ r0 w', w = r0 :: w' := by
      cases hw : w with
      | nil => exact absurd hw hne
      | cons a l => exact ⟨a, l, rfl⟩
    refine ⟨p, zs, (r0.2, r0.1), w'.map (fun r => (r.2, r.1)), rfl, SqL.of (by rw [upd_ne hne2]; exact k1), by
      have eM : w.map (fun r : Str × Int => (r.2, r.1)) = (r0.2, r0.1) :: w'.map fun r => (r.2, r.1) := by rw [ew]; rfl
      rw [eM] at hd3
      exact hd3, ?_, fun v z hz hmin hv => ?_⟩
    · intro r hr
      rw [← List.map_cons (f := fun r : Str × Int => (r.2, r.1)), ← ew] at hr
      obtain ⟨y, hy, rfl⟩ := List.mem_map.mp hr
      exact hok y hy
    · rw [← List.map_cons (f := fun r : Str × Int => (r.2, r.1)), ← ew] at hz hmin
      obtain ⟨y, hy, rfl⟩ := List.mem_map.mp hz
      exact q v H1 _ (Ex.refl _) ex3 ⟨y, hy, fun x hx => hmin _ (List.mem_map.mpr ⟨x, hx, rfl⟩), hv⟩
end
theorem foldl_len {β γ : Type} {g : List β → γ → List β} (hg : ∀ u x, (g u x).length ≤ u.length + 1) : ∀ (l : List γ) (u : List β), (l.foldl g u).length ≤ u.length + l.length
  | [], u => Nat.le_refl _
  | x :: l, u => by
    have h1 := foldl_len hg l (g u x)
    have h2 := hg u x
    rw [List.foldl_cons, List.length_cons]
    omega

/-! ### the law's numbers -/
section
variable {K : PySem.W.Frag} {σ : L2.St} {H H0 H' : Hp} {te tb : TE} {tu : TS} {g : TG} {D : Ends} {α : Type}
/-- for x in a new list, while the list at m changes -/
theorem s_lpB {l : List α} {enc : α → PyData} {a m : Addr} {xs : List V} {o : HO} (hi : ∀ x, imm (enc x) = true) (hq : H a = some (.lst xs)) (hx : DpAll K H xs (l.map enc)) (hne : a ≠ m) (hm : H m = some o) (hmut : mutO o = true) (Pv : Nat → L2.St → Hp → Prop) (h0 : Pv 0 σ H) (hst : ∀ i σ' H', Pv i σ' H' → But m H H')
    (hs : ∀ (i : Nat) r x σ' H', l[i]? = some r → Pv i σ' H' → Dp K H' x (enc r) → g x σ' H' fun σ2 H2 => tu { D with nx := Pv (i + 1), ct := Pv (i + 1), bk := D.nx } σ2 H2) (hd : ∀ σ' H', Pv l.length σ' H' → D.nx σ' H') : tFor (iList K (fun _ H Q => Q (.ref a) H)) g tu D σ H := by
  have hlen := hx.len
  rw [List.length_map] at hlen
  refine ⟨a, rfl, ⟨xs, SqL.of hq⟩, for_it (walk_list (xs := xs)) Pv h0 (fun i σ' H' _ p => SqL.of (hst _ _ _ p _ _ hne hq)) (fun i x σ' H' H'' hlt p y => ?_) fun σ' H' p => hd σ' H' (by rw [← hlen]; exact p)⟩
  obtain ⟨rfl, hxi⟩ := y
  obtain ⟨d', hd1, hd2⟩ := dpAll_of_get hx hxi
  obtain ⟨r, hr, rfl⟩ := get_map hd1
  exact hs i r x σ' _ hr p (hd2.kt ((hst _ _ _ p).kt hm hmut) (hi r))
theorem mulR {i j : Int} (h : -(2 ^ 64) < j ∧ j < 2 ^ 64) : CMul i j := .inr h
theorem mulL {i j : Int} (h : -(2 ^ 64) < i ∧ i < 2 ^ 64) : CMul i j := .inl h
theorem num_at {ns : List Int} {N : Nat} (hN : NOk ns N) {i : Int} (h0 : 0 ≤ i) (h1 : i < N) : ∃ n, 0 ≤ n ∧ n < 1009 ∧ L2.atI (dInts ns) i = some (.int n) := by
  have hl := hN.len
  obtain ⟨n, hn, hm⟩ := get_lt (l := ns) (i := i.toNat) (by omega)
  obtain ⟨a, b⟩ := hN.rng n hm
  refine ⟨n, a, b, atI_of h0 ?_⟩
  unfold dInts
  rw [List.getElem?_map, hn]
  rfl
theorem ev_num {ns : List Int} {i n : Int} {j : Nat} {v : V} (hv : σ[j]? = some (some v)) (hd : Dp K H v (.list (dInts ns))) (hi : Ev te σ H (.int i)) (h : L2.atI (dInts ns) i = some (.int n)) : Ev (tOp (rIxL K) (tVar j) te) σ H (.int n) := EvD.int (evd_ixL (evd_var hv hd) hi h)
theorem str_at {ps : List Str} {i : Int} (h0 : 0 ≤ i) (h1 : i < ps.length) : ∃ z, ps[i.toNat]? = some z ∧ z ∈ ps ∧ L2.atI (ps.map PyData.str) i = some (.str z) := by
  obtain ⟨z, hz, hm⟩ := get_lt (l := ps) (i := i.toNat) (by omega)
  refine ⟨z, hz, hm, atI_of h0 ?_⟩
  rw [List.getElem?_map, hz]
  rfl
theorem mod_in {a b : Int} (hb : 0 < b) : 0 ≤ a % b ∧ a % b < b := ⟨Int.emod_nonneg _ (by omega), Int.emod_lt_of_pos _ hb⟩
theorem evd_p0 {P : Parts} {j : Nat} {v : V} (hv : σ[j]? = some (some v)) (hd : Dp K H v (dParts P)) : EvD K (tOp (rIxL K) (tVar j) (tC (.int 0))) σ H (.tuple (P.ws.map .str)) := evd_ixL (evd_var hv hd) ev_c (atI_of (by decide) rfl)
theorem evd_p1 {P : Parts} {j : Nat} {v : V} (hv : σ[j]? = some (some v)) (hd : Dp K H v (dParts P)) : EvD K (tOp (rIxL K) (tVar j) (tC (.int 1))) σ H (.tuple (P.ps.map .str)) := evd_ixL (evd_var hv hd) ev_c (atI_of (by decide) rfl)
theorem evd_p2 {P : Parts} {j : Nat} {v : V} (hv : σ[j]? = some (some v)) (hd : Dp K H v (dParts P)) : EvD K (tOp (rIxL K) (tVar j) (tC (.int 2))) σ H (.tuple (P.ls.map dL)) := evd_ixL (evd_var hv hd) ev_c (atI_of (by decide) rfl)
theorem evd_p3 {P : Parts} {j : Nat} {v : V} (hv : σ[j]? = some (some v)) (hd : Dp K H v (dParts P)) : EvD K (tOp (rIxL K) (tVar j) (tC (.int 3))) σ H (.tuple (P.pt.map dT)) := evd_ixL (evd_var hv hd) ev_c (atI_of (by decide) rfl)
theorem ev_lenP {f : List Str} (h : EvD K te σ H (.tuple (f.map .str))) : Ev (tCB (rLen K) (tCons te tNil)) σ H (.int (f.length : Int)) := ev_is (ev_lenT h) (by rw [List.length_map])
theorem cut_take {ds : List PyData} {k : Nat} : cutD ds none (some (k : Int)) = ds.take k := by
  unfold cutD
  rw [HT.sIx_nat, HT.sIx_none, Nat.sub_zero, List.drop_zero]
  by_cases h : k ≤ ds.length
  · rw [Nat.min_eq_left h]
  · rw [Nat.min_eq_right (by omega), List.take_of_length_le (Nat.le_refl _), List.take_of_length_le (by omega)]
end
theorem g_four {K : PySem.W.Frag} {σ : L2.St} {H : Hp} {x : V} {d1 d2 d3 d4 : PyData} {i j k l : Nat} {Q : L2.St → Hp → Prop} (h : Dp K H x (.tuple [d1, d2, d3, d4])) (q : ∀ a b c d, Dp K H a d1 → Dp K H b d2 → Dp K H c d3 → Dp K H d d4 → Q ((((σ.set i (some a)).set j (some b)).set k (some c)).set l (some d)) H) : gTup K 4 (gCons (gName i) (gCons (gName j) (gCons (gName k) (gCons (gName l) gNil)))) x σ H Q := by
  obtain ⟨a, xs, rfl, hq, hx⟩ := h.tup_inv
  obtain ⟨x, y, z, u, rfl, h1, h2, h3, h4⟩ := four_inv hx
  exact ⟨a, _, rfl, hq, rfl, _, _, rfl, _, _, rfl, _, _, rfl, _, _, rfl, rfl, q _ _ _ _ h1 h2 h3 h4⟩
theorem g_three {K : PySem.W.Frag} {σ : L2.St} {H : Hp} {x : V} {d1 d2 d3 : PyData} {i j k : Nat} {Q : L2.St → Hp → Prop} (h : Dp K H x (.tuple [d1, d2, d3])) (q : ∀ a b c, Dp K H a d1 → Dp K H b d2 → Dp K H c d3 → Q (((σ.set i (some a)).set j (some b)).set k (some c)) H) : gTup K 3 (gCons (gName i) (gCons (gName j) (gCons (gName k) gNil))) x σ H Q := by
  obtain ⟨a, xs, rfl, hq, hx⟩ := h.tup_inv
  obtain ⟨x, y, z, rfl, h1, h2, h3⟩ := three_inv hx
  exact ⟨a, _, rfl, hq, rfl, _, _, rfl, _, _, rfl, _, _, rfl, rfl, q _ _ _ h1 h2 h3⟩

/-- if c: x = e, what stood there otherwise -/
theorem s_ifSet {σ : L2.St} {H : Hp} {c : TT} {te : TE} {i : Nat} {tw : TS} {D : Ends} {b : Bool} {v1 : V} (h : EvT c σ H b) (ht : Ev te σ H v1) (v0 : V) (hs : σ.set i (some v0) = σ) (k : ∀ v H1, Ex H H1 → (v = v1 ∨ v = v0) → tw D (σ.set i (some v)) H1) : tSeq (tIfS c (tAsg te (gName i)) tNext) tw D σ H :=
  s_if h (fun _ H1 e => s_asg (ht.mono e) fun H2 e2 => k v1 H2 (e.trans e2) (.inl rfl)) (fun _ H1 e => by
    have := k v0 H1 e (.inr rfl)
    rw [hs] at this
    exact this)
end Ef

namespace Ef
open PySem PySem.Spec PyProof.Rows L2 Evl

theorem cut_tail {ds : List PyData} : cutD ds (some 1) none = ds.drop 1 := by
  unfold cutD
  cases ds with
  | nil => rfl
  | cons d ds =>
    have h1 : HT.sIx (d :: ds).length 0 (some 1) = 1 := by
      unfold HT.sIx
      simp
      try omega
    have h2 : HT.sIx (d :: ds).length (d :: ds).length none = (d :: ds).length := rfl
    rw [h1, h2, List.length_cons, List.drop_succ_cons, List.drop_zero, Nat.add_sub_cancel, List.take_length]
theorem asc_any {ws : List Str} {W : List (Int × Str)} (hW : WOk ws W) : ((W.zip (W.drop 1)).map fun r => decide (r.2.1 ≤ r.1.1)).any id = false := by
  rw [List.any_map, List.any_eq_false]
  intro r hr
  obtain ⟨i, hi⟩ := List.mem_iff_getElem?.mp hr
  obtain ⟨h1, h2⟩ := zip_get hi
  rw [List.getElem?_drop] at h2
  have := hW.asc i r.1 r.2 h1 (by rw [Nat.add_comm]; exact h2)
  simp
  omega
section
variable {P : Program} {w : World} {K : PySem.W.Frag} {mg : Str → Option Value} {base : Heap}
theorem ok_check_changes (T : Tx K mg) : FnOk P w K mg base CX0 1 T.check_changes.a T.check_changes.fd P_check_changes (spx_check_changes K) := by
  refine (T.check_changes.F).ok sc_check_changes (fun vs H Q E h => ?_) (fun cdv A outer s H vs Q E hr h => ?_)
  · obtain ⟨a, _, hA, _⟩ := h
    exact hA.len
  · have hu := hu_of hr
    refine ⟨_, (pss_cons (ps_setLc (i := 1) (own := [("minute", 2), ("_", 3)]) rfl sc_check_changes.nd rfl rfl (sw_true rfl rfl rfl (by decide +kernel)) (pi_listK (K := K) rfl (pv 0)) (blkOk_by (own := [("minute", 2), ("_", 3)]) (N := N_check_changes) (sc := (defScope s_check_changes)) (by decide +kernel)) (fun _ _ _ _ _ => (pg_tupK (K := K) (n := 2) rfl rfl (pgs_cons (pg_name (i := 2) sc_check_changes.nd rfl (by first | exact Or.inl rfl | exact Or.inr rfl)) (pgs_cons (pg_name (i := 3) sc_check_changes.nd rfl (by first | exact Or.inl rfl | exact Or.inr rfl)) pgs_nil)))) (fun _ _ _ _ _ => pts_nil) (fun _ _ _ _ _ => (pv 2)))
      (pss_cons (ps_if (PW.pt (pw_or (pt_not (pt_chain op_le op_le pe_int (pe_callB (call_lenK (K := K) rfl) (by rfl) T.u_len PySem.boot_len (pa_cons (pv 1) pa_nil)) (pe_globI (by rfl) T.c_MOST_CHANGES))) (pw_or (pt_cmpR (op_ne) (pe_ix (ix_listK (K := K) rfl) (pv 1) pe_int (fun _ _ => rfl)) pe_int (nomark _)) (pw_or1 (pt_cmpR (op_gt) (pe_ix (ix_listK (K := K) rfl) (pv 1) (pe_un un_neg pe_int) (fun _ _ => rfl)) (pe_globI (by rfl) T.c_MOST_MINUTE) (nomark _)))))) (pss_one ps_never)
      pss_nil)
      (pss_one (ps_if (pt_val (pe_callB (cr_anyK (K := K) rfl rfl) (by rfl) T.u_any (by decide +kernel) (pa_cons (pe_lc (own := [("minute", 2), ("later", 4)]) rfl sc_check_changes.nd (RZ.pi_zipA (by rfl) T.u_zip (pa_cons (pv 1) (pa_cons (pe_slice (sl_listK (K := K) rfl) (pv 1) (po_some pe_int) po_none) pa_nil))) (blkOk_by (own := [("minute", 2), ("later", 4)]) (N := N_check_changes) (sc := (defScope s_check_changes)) (by decide +kernel)) (fun _ _ _ _ _ => (pg_tupK (K := K) (n := 2) rfl rfl (pgs_cons (pg_name (i := 2) sc_check_changes.nd rfl (by first | exact Or.inl rfl | exact Or.inr rfl)) (pgs_cons (pg_name (i := 4) sc_check_changes.nd rfl (by first | exact Or.inl rfl | exact Or.inr rfl)) pgs_nil)))) (fun _ _ _ _ _ => pts_nil) (fun _ _ _ _ _ => (pe_cmpR (op_le) (pv 4) (pv 2) (nomark _)))) pa_nil))) (pss_one ps_never)
      pss_nil)))), ?_⟩
    obtain ⟨W, ⟨ws, hW⟩, hA, q⟩ := h
    obtain ⟨v1, rfl, h1⟩ := one_inv hA
    have hW : WOk ws W := hW
    have hn : W.length ≤ 40000 := Nat.le_trans hW.n2 (by decide)
    have n1 := hW.n1
    have n2 := hW.n2
    refine s_asgF (evf_aL (l := W) (enc := dW) (gv := fun r => .int r.1) gm_pair (evd_var rfl h1) hn (fun x _ => imm_int _) fun i r x H2 hr ex hx => g_pair hx fun a b ha hb => ⟨Ex.refl _, rfl, evd_var rfl ha⟩) fun p xs H1 hp e hx ha => ?_
    have hm : Dp K H1 (.ref p) (.list (W.map fun r => .int r.1)) := .lst (SqL.of hx) ha
    obtain ⟨r0, W', eW, hr0⟩ := hW.cons
    have hl : L2.atI (W.map fun r => PyData.int r.1) 0 = some (.int 0) := by
      rw [eW, List.map_cons, hr0]
      exact atI_of (Int.le_refl 0) rfl
    obtain ⟨rl, hrl⟩ : ∃ rl, W.getLast? = some rl := by
      rw [eW]
      exact ⟨_, List.getLast?_eq_getLast (List.cons_ne_nil _ _)⟩
    have hl2 : L2.atI (W.map fun r => PyData.int r.1) (-1) = some (.int rl.1) := atI_neg1 (by rw [List.getLast?_map, hrl]; rfl)
    have htop := hW.top rl (List.mem_of_getLast? hrl)
    refine s_if (et_or (et_not (et_test (ev_chLE ev_c (ev_lenL (evd_var rfl hm)) ev_c ⟨by rw [List.length_map]; omega, by rw [List.length_map]; omega⟩))) fun _ => et_or (et_test (ev_nev (EvD.int (evd_ixL (evd_var rfl hm) ev_c hl)) ev_c rfl)) fun _ => et_test (ev_gt (EvD.int (evd_ixL (evd_var rfl hm) ev_neg1 hl2)) ev_c)) (fun hb => ?_) (fun _ H2 e2 => ?_)
    · simp at hb
      omega
    · refine s_if (et_B (ev_any (bs := (W.zip (W.drop 1)).map fun r => decide (r.2.1 ≤ r.1.1)) (EvF.toD (EvF.to (evf_zL (l := W) (m := W.drop 1) (e1 := fun r => .int r.1) (e2 := fun r => .int r.1) (gv := fun r => .bool (decide (r.2.1 ≤ r.1.1))) gm_pair (evd_var rfl (hm.ex e2)) (EvD.to (EvF.toD (evf_slL (evd_var rfl (hm.ex e2)) (eo_some ev_c) eo_none)) ?_) hn (fun _ => imm_bool _)
        fun i r x H3 hr ex hx => g_pair hx fun a b ha hb => ⟨Ex.refl _, rfl, Ev.dB (ev_le (EvD.int (evd_var rfl hb)) (EvD.int (evd_var rfl ha)))⟩) ?_)))) (fun hb => ?_) (fun _ H3 e3 => q .non H3 ((e.trans e2).trans e3) .non)
      · rw [cut_tail, List.map_drop]
      · rw [List.map_map]
        rfl
      · rw [asc_any hW] at hb
        cases hb
end

theorem wd_lastO {ws : List Str} {W : List (Int × Str)} {m : Int} (hW : WOk ws W) (hm : 0 ≤ m) : ((W.filter fun r => decide (r.1 ≤ m)).map (·.2)).getLast? = some (wd W m) := by
  obtain ⟨r, W', rfl, hr⟩ := hW.cons
  show _ = some (wdA r.2 (r :: W') m)
  rw [wdA_last]
  have : ((r :: W').filter fun r => decide (r.1 ≤ m)) = r :: (W'.filter fun r => decide (r.1 ≤ m)) := by
    rw [List.filter_cons, if_pos (by simp; omega)]
  rw [this, List.map_cons]
  cases e : (r.2 :: (W'.filter fun r => decide (r.1 ≤ m)).map (·.2)).getLast? with
  | none => simp at e
  | some z => rfl
section
variable {P : Program} {w : World} {K : PySem.W.Frag} {mg : Str → Option Value} {base : Heap}
theorem ok_blowing (T : Tx K mg) : FnOk P w K mg base CX0 1 T.blowing.a T.blowing.fd P_blowing (spx_blowing K) := by
  refine (T.blowing.F).ok sc_blowing (fun vs H Q E h => ?_) (fun cdv A outer s H vs Q E hr h => ?_)
  · obtain ⟨a, _, hA, _⟩ := h
    exact hA.len
  · have hu := hu_of hr
    refine ⟨_, (pss_one (ps_ret (pe_ix (ix_listK (K := K) rfl) (pe_lc (own := [("start", 2), ("wind", 3)]) rfl sc_blowing.nd (pi_listK (K := K) rfl (pv 0)) (blkOk_by (own := [("start", 2), ("wind", 3)]) (N := N_blowing) (sc := (defScope s_blowing)) (by decide +kernel)) (fun _ _ _ _ _ => (pg_tupK (K := K) (n := 2) rfl rfl (pgs_cons (pg_name (i := 2) sc_blowing.nd rfl (by first | exact Or.inl rfl | exact Or.inr rfl)) (pgs_cons (pg_name (i := 3) sc_blowing.nd rfl (by first | exact Or.inl rfl | exact Or.inr rfl)) pgs_nil)))) (fun _ _ _ _ _ => (pts_one (pt_cmpR (op_le) (pv 2) (pv 1) (nomark _)))) (fun _ _ _ _ _ => (pv 3))) (pe_un un_neg pe_int) (fun _ _ => rfl)))), ?_⟩
    obtain ⟨⟨W, m⟩, ⟨⟨ws, hW⟩, hm⟩, hA, q⟩ := h
    obtain ⟨v1, v2, rfl, h1, h2⟩ := two_inv hA
    have hn : W.length ≤ 40000 := Nat.le_trans hW.n2 (by decide)
    refine s_retD (d := .str (wd W m)) (evd_ixL (EvF.toD (evf_cL (l := W) (enc := dW) (gv := fun r => .str r.2) gm_pair (fun r => decide (r.1 ≤ m)) (evd_var rfl h1) hn (fun x _ _ => imm_str _)
      fun i r x H2 hr ex hx => g_pair hx fun a b ha hb => ⟨Ex.refl _, rfl, et_test (ev_le (EvD.int (evd_var rfl ha)) (EvD.int (evd_var rfl (h2.ex ex)))), fun _ => evd_var rfl hb⟩)) ev_neg1 ?_) fun v H1 e hv => q v H1 e hv
    refine atI_neg1 ?_
    have := wd_lastO hW hm
    rw [List.getLast?_map] at this ⊢
    rw [Option.map_eq_some_iff] at this
    obtain ⟨z, e1, e2⟩ := this
    rw [e1, ← e2]
    rfl
end

section
variable {P : Program} {w : World} {K : PySem.W.Frag} {mg : Str → Option Value} {base : Heap}
theorem ok_chances (T : Tx K mg) : FnOk P w K mg base CX0 1 T.chances.a T.chances.fd P_chances (spx_chances K) := by
  refine (T.chances.F).ok sc_chances (fun vs H Q E h => ?_) (fun cdv A outer s H vs Q E hr h => ?_)
  · obtain ⟨a, _, hA, _⟩ := h
    exact hA.len
  · have hu := hu_of hr
    refine ⟨_, (pss_one (ps_ret (pe_op op_cat (pe_lst (pa_cons (pv 1) pa_nil)) (pe_lc (own := [("start", 2), ("_", 3)]) rfl sc_chances.nd (pi_listK (K := K) rfl (pv 0)) (blkOk_by (own := [("start", 2), ("_", 3)]) (N := N_chances) (sc := (defScope s_chances)) (by decide +kernel)) (fun _ _ _ _ _ => (pg_tupK (K := K) (n := 2) rfl rfl (pgs_cons (pg_name (i := 2) sc_chances.nd rfl (by first | exact Or.inl rfl | exact Or.inr rfl)) (pgs_cons (pg_name (i := 3) sc_chances.nd rfl (by first | exact Or.inl rfl | exact Or.inr rfl)) pgs_nil)))) (fun _ _ _ _ _ => (pts_one (pt_cmpR (op_gt) (pv 2) (pv 1) (nomark _)))) (fun _ _ _ _ _ => (pv 2)))))), ?_⟩
    obtain ⟨⟨W, m⟩, hn, hA, q⟩ := h
    obtain ⟨v1, v2, rfl, h1, h2⟩ := two_inv hA
    have hn : W.length ≤ 40 := hn
    have hf := List.length_filter_le (fun r : Int × Str => decide (m < r.1)) W
    refine s_retF (evf_cat (evf_lst (ed1 (evd_var rfl h2)) (by simp)) (evf_cL (l := W) (enc := dW) (gv := fun r => .int r.1) gm_pair (fun r => decide (m < r.1)) (evd_var rfl h1) (by omega) (fun x _ _ => imm_int _)
      fun i r x H2 hr ex hx => g_pair hx fun a b ha hb => ⟨Ex.refl _, rfl, et_test (ev_gt (EvD.int (evd_var rfl ha)) (EvD.int (evd_var rfl (h2.ex ex)))), fun _ => evd_var rfl ha⟩) (by simp; omega)) fun p xs H1 hp e h3 h4 => q _ H1 e ⟨p, xs, rfl, hp, h3, ?_⟩
    have : (chs W m).map PyData.int = [PyData.int m] ++ (W.filter fun r => decide (m < r.1)).map fun r => .int r.1 := by unfold chs; simp
    rw [this]
    exact h4
end

section
variable {P : Program} {w : World} {K : PySem.W.Frag} {mg : Str → Option Value} {base : Heap}
theorem ok_least_numbers (T : Tx K mg) : FnOk P w K mg base CX0 1 T.least_numbers.a T.least_numbers.fd P_least_numbers (spx_least_numbers K T.C) := by
  refine (T.least_numbers.F).ok sc_least_numbers (fun vs H Q E h => ?_) (fun cdv A outer s H vs Q E hr h => ?_)
  · obtain ⟨a, _, hA, _⟩ := h
    exact aL_len hA
  · have hu := hu_of hr
    refine ⟨_, (pss_one (ps_ret (pe_callTy (call_tupOfK (K := K) rfl) (by rfl) T.u_tuple (by decide +kernel) (pa_cons (pe_lc (own := [("link", 1)]) rfl sc_least_numbers.nd (pi_tupK (K := K) rfl (pe_fldK (K := K) rfl (pv 0) rfl)) (blkOk_by (own := [("link", 1)]) (N := N_least_numbers) (sc := (defScope s_least_numbers)) (by decide +kernel)) (fun _ _ _ _ _ => (pg_name (i := 1) sc_least_numbers.nd rfl (by first | exact Or.inl rfl | exact Or.inr rfl))) (fun _ _ _ _ _ => pts_nil) (fun _ _ _ _ _ => (pe_callTy (call_tupOfK (K := K) rfl) (by rfl) T.u_tuple (by decide +kernel) (pa_cons (pe_lc (own := [("pair", 2)]) rfl sc_least_numbers.nd (pi_tupK (K := K) rfl (pe_ix (ix_tupK (K := K) rfl) (pv 1) pe_int (fun _ _ => rfl))) (blkOk_by (by kernel_rfl)) (fun _ _ _ _ _ => (pg_name (i := 2) sc_least_numbers.nd rfl (by first | exact Or.inl rfl | exact Or.inr rfl))) (fun _ _ _ _ _ => pts_nil) (fun _ _ _ _ _ => (pe_ifExp (pt_cmpR (op_isN') (pv 2) pe_non (nomark _)) pe_non (pe_ix (ix_tupK (K := K) rfl) (pv 2) pe_int (fun _ _ => rfl))))) pa_nil)))) pa_nil)))), ?_⟩
    obtain ⟨P, hP, ⟨vl, rest, rfl, hl, hA⟩, q⟩ := h
    cases hA
    refine s_retD (evd_tupL (EvF.toD (evf_aT (l := P.ls) (enc := dL) (gv := fun l => dNs (leastR l)) gm_name (evd_links rfl hl T.cl T.n_links) (by have := hP.l2; omega) (fun l _ => imm_dNs _)
      fun i l x H2 hi ex hx => ⟨Ex.refl _, rfl, evd_tupL (EvF.toD (EvF.to (evf_aT (l := l.ts) (enc := dP) (gv := fun p => dO (p.map (·.1))) gm_name (evd_ixT (d := .tuple (l.ts.map dP)) (evd_var rfl hx) ev_c rfl) ?_ (fun p _ => imm_dO _)
        fun j p y H3 hj ey hy => ⟨Ex.refl _, rfl, ?_⟩) ?_))⟩))) fun v H1 e hv => q v H1 e (by
          have e1 : dNums (leastN P.ls) = .tuple (P.ls.map fun l => dNs (leastR l)) := by unfold dNums leastN; rw [List.map_map]; rfl
          show Dp K H1 v (dNums (leastN P.ls))
          rw [e1]
          exact hv)
    · have h1 := (hP.ln l (List.mem_of_getElem? hi)).len
      have := hP.w4
      omega
    · cases p with
      | none => exact evd_if (et_test (evd_isN (evd_var rfl hy))) (fun _ => Ev.dN ev_c) (fun hb => by cases hb)
      | some r => exact evd_if (et_test (evd_isN (evd_var rfl hy))) (fun hb => by cases hb) (fun _ => evd_ixT (evd_var rfl hy) ev_c rfl)
    · unfold leastR
      rw [List.map_map]
      rfl
end

section
variable {P : Program} {w : World} {K : PySem.W.Frag} {mg : Str → Option Value} {base : Heap}
theorem ok_is_number (T : Tx K mg) : FnOk P w K mg base CX0 1 T.is_number.a T.is_number.fd P_is_number (spx_is_number K) := by
  refine (T.is_number.F).ok sc_is_number (fun vs H Q E h => ?_) (fun cdv A outer s H vs Q E hr h => ?_)
  · obtain ⟨a, _, hA, _⟩ := h
    exact hA.len
  · have hu := hu_of hr
    refine ⟨_, (pss_cons (ps_if (PW.pt (pw_or (pt_cmpR (op_isN') (pv 0) pe_non (nomark _)) (pw_or1 (pt_cmpR (op_isN') (pv 1) pe_non (nomark _))))) (pss_one (ps_ret (pe_and (pe_cmpR (op_isN') (pv 0) pe_non (nomark _)) (pe_one (pe_cmpR (op_isN') (pv 1) pe_non (nomark _))))))
      pss_nil)
      (pss_one (ps_ret (pe_chain op_le op_le (pe_ix (ix_tupK (K := K) rfl) (pv 1) pe_int (fun _ _ => rfl)) (pv 0) (pe_ix (ix_tupK (K := K) rfl) (pv 1) pe_int (fun _ _ => rfl)))))), ?_⟩
    obtain ⟨⟨o, p⟩, hp, hA, q⟩ := h
    obtain ⟨v1, v2, rfl, h1, h2⟩ := two_inv hA
    rcases hp with ⟨e1, e2⟩ | ⟨n, r, e1, e2, l1, l2⟩
    · have e1 : o = none := e1
      have e2 : p = none := e2
      subst e1 e2
      refine s_if (et_or (et_test (evd_isN (evd_var rfl h1))) fun _ => et_test (evd_isN (evd_var rfl h2))) (fun _ H1 e => ?_) (fun hb => by cases hb)
      exact s_retD (Ev.dB (ev_andV (evd_isN (evd_var rfl (h1.ex e))) fun _ => evd_isN (evd_var rfl (h2.ex e)))) fun v H2 e2 hv => q v H2 (e.trans e2) hv
    · have e1 : o = some n := e1
      have e2 : p = some r := e2
      subst e1 e2
      refine s_if (et_or (et_test (evd_isN (evd_var rfl h1))) fun _ => et_test (evd_isN (evd_var rfl h2))) (fun hb => by cases hb) (fun _ H1 e => ?_)
      exact s_retD (Ev.dB (ev_chLE (EvD.int (evd_ixT (d := .int r.1) (evd_var rfl (h2.ex e)) ev_c rfl)) (EvD.int (evd_var rfl (h1.ex e))) (EvD.int (evd_ixT (d := .int r.2) (evd_var rfl (h2.ex e)) ev_c rfl)) ⟨l1, l2⟩)) fun v H2 e2 hv => q v H2 (e.trans e2) hv
end

section
variable {P : Program} {w : World} {K : PySem.W.Frag} {mg : Str → Option Value} {base : Heap}
theorem ok_least_minutes (T : Tx K mg) : FnOk P w K mg base CX0 1 T.least_minutes.a T.least_minutes.fd P_least_minutes (spx_least_minutes K) := by
  refine (T.least_minutes.F).ok sc_least_minutes (fun vs H Q E h => ?_) (fun cdv A outer s H vs Q E hr h => ?_)
  · obtain ⟨a, _, hA, _⟩ := h
    exact hA.len
  · have hu := hu_of hr
    refine ⟨_, (pss_cons (ps_set (i := 1) sc_least_minutes.nd rfl (by first | exact Or.inl rfl | exact Or.inr rfl) pe_dnewK)
      (pss_cons (ps_for PassesOwn.never rfl (pi_listK (K := K) rfl (pv 0)) (pg_tupK (K := K) (n := 2) rfl rfl (pgs_cons (pg_name (i := 2) sc_least_minutes.nd rfl (by first | exact Or.inl rfl | exact Or.inr rfl)) (pgs_cons (pg_name (i := 3) sc_least_minutes.nd rfl (by first | exact Or.inl rfl | exact Or.inr rfl)) pgs_nil)))
      (pss_one (ps_dput hu (pv 1) (pv 2) (pe_callB (call_min2' rfl) (by rfl) T.u_min (by decide +kernel) (pa_cons (pv 3) (pa_cons (pe_dget2 hu (pv 1) (pv 2) (pv 3) ⟨rfl, rfl, rfl, rfl⟩) pa_nil))) rfl)))
      (pss_one (ps_ret (pv 1))))), ?_⟩
    obtain ⟨rows, hn, hA, q⟩ := h
    obtain ⟨v1, rfl, h1⟩ := one_inv hA
    have hn : rows.length ≤ 1000 := hn
    refine s_dnew fun p hp => ?_
    refine s_lpL (l := rows) (enc := dR) imm_dR h1 (q_var rfl) (fun i σ' H' => Ex H H' ∧ σ'[0]? = some (some v1) ∧ σ'[1]? = some (some (.ref p)) ∧ σ'.length = 4 ∧ H' p = some (.dK (encK (lm (rows.take i))))) ⟨Ex.new hp, rfl, rfl, rfl, upd_same⟩ (fun _ _ _ p => p.1) (fun i r x σ' H' hi p hx => g_pair hx fun a b ha hb => ?_) fun σ' H' p => ?_
    · obtain ⟨e, s0, s1, sl, hd⟩ := p
      match σ', sl with
      | [a0, a1, a2, a3], _ =>
        cases s0
        cases s1
        refine s_dput hd (ev_min2 (EvD.int (evd_var rfl hb)) (ev_dget2 (ev_var rfl) (EvD.str (evd_var rfl ha)) (EvD.int (evd_var rfl hb)) hd)) (ev_var rfl) (EvD.str (evd_var rfl ha)) ?_ fun H1 e1 => ⟨(e.trans e1).mut hp, rfl, rfl, rfl, ?_⟩
        · have := lm_len (rows.take i)
          rw [List.length_take] at this
          omega
        · rw [take_snoc hi, lm_snoc]
          exact upd_same
    · obtain ⟨e, s0, s1, sl, hd⟩ := p
      rw [List.take_length] at hd
      exact s_ret (ev_var s1) fun H1 e1 => q _ H1 (e.trans e1) ⟨p, rfl, hp, e1 _ _ hd⟩
end

section
variable {P : Program} {w : World} {K : PySem.W.Frag} {mg : Str → Option Value} {base : Heap}
theorem ok_told (T : Tx K mg) : FnOk P w K mg base CX0 1 T.told.a T.told.fd P_told (spx_told K T.C) := by
  refine (T.told.F).ok sc_told (fun vs H Q E h => ?_) (fun cdv A outer s H vs Q E hr h => ?_)
  · obtain ⟨a, _, ⟨vl, p, rfl, _⟩, _⟩ := h
    rfl
  · have hu := hu_of hr
    refine ⟨_, (pss_one (ps_ret (pe_lc (own := [("place", 2)]) rfl sc_told.nd (pi_tupK (K := K) rfl (pe_fldK (K := K) rfl (pv 0) rfl)) (blkOk_by (own := [("place", 2)]) (N := N_told) (sc := (defScope s_told)) (by decide +kernel)) (fun _ _ _ _ _ => (pg_name (i := 2) sc_told.nd rfl (by first | exact Or.inl rfl | exact Or.inr rfl))) (fun _ _ _ _ _ => pts_nil) (fun _ _ _ _ _ => (pe_tup (pa_cons (pv 2) (pa_cons (pe_dget1 hu (pv 1) (pv 2) ⟨rfl, rfl, rfl, rfl⟩) pa_nil))))))), ?_⟩
    obtain ⟨⟨P, f⟩, hP, ⟨vl, p, rfl, hl, hf⟩, q⟩ := h
    have hP : POk P := hP
    refine s_retF (evf_aT (l := P.ps) (enc := .str) (gv := fun p => .tuple [.str p, dO (dget f p)]) gm_name (evd_places rfl hl T.cl T.n_places) (by have := hP.p2; omega) (fun l _ => by simp [imm, immAll, imm_dO])
      fun i z x H2 hi ex hx => ⟨Ex.refl _, rfl, evd_tup (ed_cons (evd_var rfl hx) (ed1 (evd_dget1 (ev_var rfl) (EvD.str (evd_var rfl hx)) (ex _ _ hf)))) (by simp)⟩) fun p xs H1 hp e h3 h4 => q _ H1 e ⟨p, xs, rfl, hp, h3, h4⟩
end

section
variable {P : Program} {w : World} {K : PySem.W.Frag} {mg : Str → Option Value} {base : Heap}
theorem ok_is_name (T : Tx K mg) : FnOk P w K mg base CX0 1 T.is_name.a T.is_name.fd P_is_name (spx_is_name K) := by
  refine (T.is_name.F).ok sc_is_name (fun vs H Q E h => ?_) (fun cdv A outer s H vs Q E hr h => ?_)
  · obtain ⟨a, _, hA, _⟩ := h
    exact hA.len
  · have hu := hu_of hr
    refine ⟨_, (pss_cons (ps_if (PW.pt (pw_or (pt_not (pt_chain op_le op_le pe_int (pe_callB (call_lenK (K := K) rfl) (by rfl) T.u_len PySem.boot_len (pa_cons (pv 0) pa_nil)) (pe_globI (by rfl) T.c_MOST_NAME_CHARS))) (pw_or1 (pt_cmpR (op_inS') (pe_ix ix_str (pv 0) pe_int (fun _ _ => rfl)) pe_str (by rfl))))) (pss_one (ps_ret pe_bl))
      pss_nil)
      (pss_one (ps_ret (pe_callB (cr_allK (K := K) rfl rfl) (by rfl) T.u_all (by decide +kernel) (pa_cons (pe_lc (own := [("char", 1)]) rfl sc_is_name.nd (pi_str (pv 0)) (blkOk_by (own := [("char", 1)]) (N := N_is_name) (sc := (defScope s_is_name)) (by decide +kernel)) (fun _ _ _ _ _ => (pg_name (i := 1) sc_is_name.nd rfl (by first | exact Or.inl rfl | exact Or.inr rfl))) (fun _ _ _ _ _ => pts_nil) (fun _ _ _ _ _ => (pe_cmpR (op_inS') (pv 1) (pe_globS (by rfl) T.c_NAME_CHARS) (by rfl)))) pa_nil))))), ?_⟩
    obtain ⟨z, hz, hA, q⟩ := h
    obtain ⟨v1, rfl, h1⟩ := one_inv hA
    have hz : NameOk z := hz
    have hlo := hz.lo
    have hhi := hz.hi
    have hsz : z.length ≤ 100000 := Nat.le_trans hhi (by decide)
    have h0 : 0 < z.cps.size := hlo
    have hc : z.cps[0]? = some z.cps[0] := Array.getElem?_eq_getElem h0
    have hc2 : z.cps.toList[(0 : Int).toNat]? = some z.cps[0] := by rw [← hc]; exact Array.getElem?_toList
    refine s_if (et_or (et_not (et_test (ev_chLE ev_c (ev_lenS (EvD.str (evd_var rfl h1)) (sz_of hsz)) ev_c ⟨by omega, by omega⟩))) fun _ => et_test (ev_inS (ev_ixS (EvD.str (evd_var rfl h1)) ev_c hsz (atI_of (Int.le_refl 0) hc2)) ev_c)) (fun hb => ?_) (fun _ H1 e => ?_)
    · exact absurd (of_decide_eq_true hb) (hz.first _ hc)
    · have hall : (z.cps.toList.map fun c => decide (c ∈ nameChars)).all id = true := by
        rw [List.all_map, List.all_eq_true]
        intro c hc
        exact decide_eq_true (hz.chars c hc)
      have e1 : (z.cps.toList.map fun c => decide (c ∈ nameChars)).map PyData.bool = z.cps.toList.map fun c => .bool (decide (c ∈ nameChars)) := by rw [List.map_map]; rfl
      refine s_retD (Ev.dB (Ev.to (ev_all (bs := z.cps.toList.map fun c => decide (c ∈ nameChars)) (EvF.toD (EvF.to (evf_lcS gm_name (fun _ => true) (pk z.cps.toList .none fun c => .bool (decide (c ∈ nameChars))) (EvD.str (evd_var rfl (h1.ex e))) (Nat.le_trans hhi (by decide)) (fun i hi _ => ?_) fun i c H2 hi ex => ⟨Ex.refl _, rfl, et_yes, fun _ => EvD.to (Ev.dB (ev_inS (ev_var rfl) ev_c)) ?_⟩) ?_))) (by rw [hall]))) fun v H2 e2 hv => q v H2 (e.trans e2) hv
      · obtain ⟨y, hy, hm⟩ := get_lt (l := z.cps.toList) (i := i) (by rw [Array.length_toList]; exact hi)
        rw [pk_of hy]
        exact imm_bool _
      · rw [pk_of (x := c) (by rw [Array.getElem?_toList]; exact hi)]
        rfl
      · rw [e1, ← Array.length_toList]
        exact givD_all z.cps.toList _ _ _ (fun _ _ => rfl) fun i x hx => pk_of hx
end

theorem cut_head {ds : List PyData} {i : Nat} (h : i ≤ ds.length) : cutD ds none (some (i : Int)) = ds.take i := by
  unfold cutD
  rw [HT.sIx_nat, HT.sIx_none, Nat.min_eq_left h, Nat.sub_zero, List.drop_zero]
theorem any_SS {l : List (Str × Str)} {i : Nat} {r : Str × Str} (hn : l.Nodup) (h : l[i]? = some r) : ((l.take i).map dSS).any (fun z => PyData.eqv z (dSS r)) = false := by
  rw [List.any_map, List.any_eq_false]
  intro q hq
  show ¬ PyData.eqv (dSS q) (dSS r) = true
  rw [eqv_SS]
  intro e
  have e := of_decide_eq_true e
  subst e
  obtain ⟨j, hj⟩ := List.mem_iff_getElem?.mp hq
  rw [List.getElem?_take] at hj
  by_cases hji : j < i
  · rw [if_pos hji] at hj
    have := (List.getElem?_inj (List.getElem?_eq_some_iff.mp hj).1 hn).mp (hj.trans h.symm)
    omega
  · rw [if_neg hji] at hj
    cases hj
theorem not_ahead {l : List Str} {i : Nat} {r : Str} (hn : l.Nodup) (h : l[i]? = some r) : r ∉ l.take i := by
  intro hq
  obtain ⟨j, hj⟩ := List.mem_iff_getElem?.mp hq
  rw [List.getElem?_take] at hj
  by_cases hji : j < i
  · rw [if_pos hji] at hj
    have := (List.getElem?_inj (List.getElem?_eq_some_iff.mp hj).1 hn).mp (hj.trans h.symm)
    omega
  · rw [if_neg hji] at hj
    cases hj
section
variable {P : Program} {w : World} {K : PySem.W.Frag} {mg : Str → Option Value} {base : Heap}
theorem ok_are_different (T : Tx K mg) : FnOk P w K mg base CX0 1 T.are_different.a T.are_different.fd P_are_different (spx_are_different K) := by
  refine (T.are_different.F).ok sc_are_different (fun vs H Q E h => ?_) (fun cdv A outer s H vs Q E hr h => ?_)
  · obtain ⟨a, _, hA, _⟩ := h
    cases a with
    | inl l => exact hA.len
    | inr l => exact hA.len
  · have hu := hu_of hr
    obtain ⟨a, hn, hA, q⟩ := h
    cases a with
    | inl l =>
      obtain ⟨hn, h64⟩ := hn
      obtain ⟨v1, rfl, h1⟩ := one_inv hA
      refine ⟨_, (pss_cons (ps_for PassesOwn.never rfl (pi_enumT (by rfl) T.u_enumerate (pa_cons (pv 0) pa_nil)) (pg_tupK (K := K) (n := 2) rfl rfl (pgs_cons (pg_name (i := 1) sc_are_different.nd rfl (by first | exact Or.inl rfl | exact Or.inr rfl)) (pgs_cons (pg_name (i := 2) sc_are_different.nd rfl (by first | exact Or.inl rfl | exact Or.inr rfl)) pgs_nil)))
      (pss_one (ps_if (pt_cmpR (op_inK (K := K) rfl) (pv 2) (pe_slice (sl_tupK (K := K) rfl) (pv 0) po_none (po_some (pv 1))) (by rfl)) (pss_one (ps_ret pe_bl))
      pss_nil)))
      (pss_one (ps_ret pe_bl))), ?_⟩
      obtain ⟨a, xs, rfl, hq, hx⟩ := h1.tup_inv
      have hxs := hx.strs_inv
      subst hxs
      refine ⟨.ref a, rfl, a, _, rfl, hq, for_it (walk_enumT (xs := l.map V.str)) (fun i σ' H' => Ex H H' ∧ σ'[0]? = some (some (.ref a)) ∧ σ'.length = 3) ⟨Ex.refl _, rfl, rfl⟩ (fun i σ' H' _ p => ex_t p.1 hq) (fun i x σ' H' H'' hlt p y => ?_) fun σ' H' p => ?_⟩
      · obtain ⟨T', x', y', rfl, hT, rfl, g1, g2⟩ := y
        obtain ⟨e, s0, sl⟩ := p
        cases g1
        have en := Ex.new (o := .tup [.int (i : Nat), y']) hT
        obtain ⟨z, hz, rfl⟩ := get_map g2
        rw [List.length_map] at hlt
        refine g_pair (new_pair hT (.int _) (.str z)) fun a' b' ha hb => ?_
        match σ', sl with
        | [a0, a1, a2], _ =>
          cases s0
          have hd : Dp K (upd H' T' (.tup [.int (i : Nat), .str z])) (.ref a) (.tuple (l.map .str)) := .tup (ex_t (e.trans en) hq) (hx.ex (e.trans en))
          have hcut : cutD (l.map PyData.str) none (some ((i : Nat) : Int)) = (l.take i).map .str := by rw [cut_head (by rw [List.length_map]; omega), List.map_take]
          refine s_if (et_test (ev_inT (ss := l.take i) (EvD.str (evd_var rfl hb)) (EvD.to (evd_slT (evd_var rfl hd) eo_none (eo_some (EvD.int (evd_var rfl ha))) ?_) (by rw [hcut])))) (fun hb => ?_) (fun _ H3 e3 => ⟨(e.trans en).trans e3, rfl, rfl⟩)
          · rw [HT.sIx_nat, HT.sIx_none, List.length_map]
            omega
          · exact absurd (of_decide_eq_true hb) (not_ahead hn hz)
      · dsimp only
        exact s_retD (Ev.dB ev_c) fun v H3 e3 hv => q v H3 (p.1.trans e3) hv
    | inr l =>
      obtain ⟨hn, h64⟩ := hn
      obtain ⟨v1, rfl, h1⟩ := one_inv hA
      refine ⟨_, (pss_cons (ps_for PassesOwn.never rfl (pi_enum (by rfl) T.u_enumerate (pa_cons (pv 0) pa_nil)) (pg_tupK (K := K) (n := 2) rfl rfl (pgs_cons (pg_name (i := 1) sc_are_different.nd rfl (by first | exact Or.inl rfl | exact Or.inr rfl)) (pgs_cons (pg_name (i := 2) sc_are_different.nd rfl (by first | exact Or.inl rfl | exact Or.inr rfl)) pgs_nil)))
      (pss_one (ps_if (pt_cmpR (op_inDK (K := K) (hu65 hr) rfl) (pv 2) (pe_slice (sl_listK (K := K) rfl) (pv 0) po_none (po_some (pv 1))) (by rfl)) (pss_one (ps_ret pe_bl))
      pss_nil)))
      (pss_one (ps_ret pe_bl))), ?_⟩
      obtain ⟨a, xs, rfl, hq, hx⟩ := h1.lst_inv
      have hx : DpAll K H xs (l.map dSS) := hx
      have hlen := hx.len
      rw [List.length_map] at hlen
      refine ⟨.ref a, rfl, a, _, rfl, hq, for_it (walk_enum (xs := xs)) (fun i σ' H' => Ex H H' ∧ σ'[0]? = some (some (.ref a)) ∧ σ'.length = 3) ⟨Ex.refl _, rfl, rfl⟩ (fun i σ' H' _ p => ex_l p.1 hq) (fun i x σ' H' H'' hlt p y => ?_) fun σ' H' p => ?_⟩
      · obtain ⟨T', x', y', rfl, hT, rfl, g1, g2⟩ := y
        obtain ⟨e, s0, sl⟩ := p
        cases g1
        have en := Ex.new (o := .tup [.int (i : Nat), y']) hT
        obtain ⟨d, hd1, hd2⟩ := dpAll_of_get hx g2
        obtain ⟨z, hz, rfl⟩ := get_map hd1
        refine g_pair (new_pair hT (.int _) (hd2.ex e)) fun a' b' ha hb => ?_
        match σ', sl with
        | [a0, a1, a2], _ =>
          cases s0
          have hd : Dp K (upd H' T' (.tup [.int (i : Nat), y'])) (.ref a) (.list (l.map dSS)) := .lst (ex_l (e.trans en) hq) (hx.ex (e.trans en))
          have hcut : cutD (l.map dSS) none (some ((i : Nat) : Int)) = (l.take i).map dSS := by rw [cut_head (by rw [List.length_map]; omega), List.map_take]
          refine s_if (et_test (ev_inD (ds := (l.take i).map dSS) (evd_var rfl hb) (EvD.to (EvF.toD (evf_slL (evd_var rfl hd) eo_none (eo_some (EvD.int (evd_var rfl ha))))) (by rw [hcut])) ((sh_SS (h64 z (List.mem_of_getElem? hz))).ok (by decide)) ((sh_lst (shA_map fun r hr => sh_SS (h64 r (List.mem_of_mem_take hr)))).ok (by decide)))) (fun hb => ?_) (fun _ H3 e3 => ⟨(e.trans en).trans e3, rfl, rfl⟩)
          rw [any_SS hn hz] at hb
          cases hb
      · dsimp only
        exact s_retD (Ev.dB ev_c) fun v H3 e3 hv => q v H3 (p.1.trans e3) hv
end

section
variable {P : Program} {w : World} {K : PySem.W.Frag} {mg : Str → Option Value} {base : Heap}
theorem ok_require (T : Tx K mg) : FnOk P w K mg base CX0 1 T.require.a T.require.fd P_require (spx_require K) := by
  refine (T.require.F).ok sc_require (fun vs H Q E h => ?_) (fun cdv A outer s H vs Q E hr h => ?_)
  · obtain ⟨a, _, hA, _⟩ := h
    exact hA.len
  · have hu := hu_of hr
    refine ⟨_, (pss_one (ps_if (pt_not (pt_val (pv 0))) (pss_one ps_never)
      pss_nil)), ?_⟩
    obtain ⟨_, _, hA, q⟩ := h
    obtain ⟨v1, rfl, h1⟩ := one_inv hA
    exact s_if (et_not (et_B (EvD.bl (evd_var rfl h1)))) (fun hb => absurd hb (by decide)) (fun _ H1 e => q .non H1 e .non)
end

section
variable {P : Program} {w : World} {K : PySem.W.Frag} {mg : Str → Option Value} {base : Heap}
theorem ok_Land_are_ends (T : Tx K mg) : FnOk P w K mg base CX0 1 T.Land_are_ends.a T.Land_are_ends.fd P_Land_are_ends (spx_Land_are_ends K T.C) := by
  refine (T.Land_are_ends.F).ok sc_Land_are_ends (fun vs H Q E h => ?_) (fun cdv A outer s H vs Q E hr h => ?_)
  · obtain ⟨a, _, hA, _⟩ := h
    exact aM_len hA
  · have hu := hu_of hr
    refine ⟨_, (pss_one (ps_ret (pe_and (pe_cmpR (op_inK (K := K) rfl) (pv 1) (pe_fldK (K := K) rfl (pv 0) rfl) (by rfl)) (pe_and (pe_cmpR (op_inK (K := K) rfl) (pv 2) (pe_fldK (K := K) rfl (pv 0) rfl) (by rfl)) (pe_one (pe_cmpR (op_ne) (pv 1) (pv 2) (nomark _))))))), ?_⟩
    obtain ⟨⟨ws, ps, one, oth⟩, ⟨ho, ht, hne⟩, ⟨vl, rest, rfl, hl, hA⟩, q⟩ := h
    obtain ⟨v1, v2, rfl, h1, h2⟩ := two_inv hA
    have ho : one ∈ ps := ho
    have ht : oth ∈ ps := ht
    have hne : one ≠ oth := hne
    have hp : ∀ i σ, σ[i]? = some (some vl) → EvD K (tFld K (tVar i) "places") σ H (.tuple (ps.map .str)) := fun i σ hi => evd_fld hi hl T.cl T.n_places (.inr (.inl ⟨rfl, rfl⟩))
    refine s_retD (Ev.dB (Ev.to (ev_andV (ev_inT (EvD.str (evd_var rfl h1)) (hp 0 _ rfl)) fun _ => ev_andV (ev_inT (EvD.str (evd_var rfl h2)) (hp 0 _ rfl)) fun _ => ev_nev (EvD.str (evd_var rfl h1)) (EvD.str (evd_var rfl h2)) rfl) (w := .bl true) ?_)) fun v H1 e hv => q v H1 e hv
    simp [ho, ht, hne]
end

section
variable {P : Program} {w : World} {K : PySem.W.Frag} {mg : Str → Option Value} {base : Heap}
theorem ok_Land_link_names (T : Tx K mg) : FnOk P w K mg base CX0 1 T.Land_link_names.a T.Land_link_names.fd P_Land_link_names (spx_Land_link_names K T.C) := by
  refine (T.Land_link_names.F).ok sc_Land_link_names (fun vs H Q E h => ?_) (fun cdv A outer s H vs Q E hr h => ?_)
  · obtain ⟨a, _, hA, _⟩ := h
    exact aM_len hA
  · have hu := hu_of hr
    refine ⟨_, (pss_one (ps_ret (pe_callTy (call_tupOfK (K := K) rfl) (by rfl) T.u_tuple (by decide +kernel) (pa_cons (pe_lc (own := [("link", 1)]) rfl sc_Land_link_names.nd (pi_tupK (K := K) rfl (pe_fldK (K := K) rfl (pv 0) rfl)) (blkOk_by (own := [("link", 1)]) (N := N_Land_link_names) (sc := (defScope s_Land_link_names)) (by decide +kernel)) (fun _ _ _ _ _ => (pg_name (i := 1) sc_Land_link_names.nd rfl (by first | exact Or.inl rfl | exact Or.inr rfl))) (fun _ _ _ _ _ => pts_nil) (fun _ _ _ _ _ => (pe_ix (ix_tupK (K := K) rfl) (pv 1) pe_int (fun _ _ => rfl)))) pa_nil)))), ?_⟩
    obtain ⟨⟨ws, ps, ls⟩, hn, ⟨vl, rest, rfl, hl, hA⟩, q⟩ := h
    cases hA
    have hn : ls.length ≤ 64 := hn
    refine s_retD (evd_tupL (EvF.toD (EvF.to (evf_aT (l := ls) (enc := dL) (gv := fun l => .str l.nm) gm_name (evd_fld rfl hl T.cl T.n_links (.inr (.inr ⟨ls, rfl, rfl, rfl⟩))) (by omega) (fun l _ => imm_str _)
      fun i l x H2 hi ex hx => ⟨Ex.refl _, rfl, evd_ixT (evd_var rfl hx) ev_c rfl⟩) (es := (ls.map Lk.nm).map .str) (by rw [List.map_map]; rfl)))) fun v H1 e hv => q v H1 e hv
end

section
variable {P : Program} {w : World} {K : PySem.W.Frag} {mg : Str → Option Value} {base : Heap}
theorem ok_Land_check_place (T : Tx K mg) : FnOk P w K mg base CX0 1 T.Land_check_place.a T.Land_check_place.fd P_Land_check_place (spx_Land_check_place K T.C) := by
  refine (T.Land_check_place.F).ok sc_Land_check_place (fun vs H Q E h => ?_) (fun cdv A outer s H vs Q E hr h => ?_)
  · obtain ⟨a, _, hA, _⟩ := h
    exact aM_len hA
  · have hu := hu_of hr
    refine ⟨_, (pss_one (ps_if (pt_cmpR (op_notInK (K := K) rfl) (pv 1) (pe_fldK (K := K) rfl (pv 0) rfl) (by rfl)) (pss_one ps_never)
      pss_nil)), ?_⟩
    obtain ⟨⟨P, z⟩, hz, ⟨vl, rest, rfl, hl, hA⟩, q⟩ := h
    obtain ⟨v1, rfl, h1⟩ := one_inv hA
    have hz : z ∈ P.ps := hz
    refine s_if (et_test (ev_niT (EvD.str (evd_var rfl h1)) (evd_fld rfl hl T.cl T.n_places (.inr (.inl ⟨rfl, rfl⟩))))) (fun hb => ?_) (fun _ H1 e => q .non H1 e .non)
    simp [hz] at hb
end

section
variable {P : Program} {w : World} {K : PySem.W.Frag} {mg : Str → Option Value} {base : Heap}
theorem ok_Land_check_wind (T : Tx K mg) : FnOk P w K mg base CX0 1 T.Land_check_wind.a T.Land_check_wind.fd P_Land_check_wind (spx_Land_check_wind K T.C) := by
  refine (T.Land_check_wind.F).ok sc_Land_check_wind (fun vs H Q E h => ?_) (fun cdv A outer s H vs Q E hr h => ?_)
  · obtain ⟨a, _, hA, _⟩ := h
    exact aM_len hA
  · have hu := hu_of hr
    refine ⟨_, (pss_one (ps_if (pt_cmpR (op_notInK (K := K) rfl) (pv 1) (pe_fldK (K := K) rfl (pv 0) rfl) (by rfl)) (pss_one ps_never)
      pss_nil)), ?_⟩
    obtain ⟨⟨P, z⟩, hz, ⟨vl, rest, rfl, hl, hA⟩, q⟩ := h
    obtain ⟨v1, rfl, h1⟩ := one_inv hA
    have hz : z ∈ P.ws := hz
    refine s_if (et_test (ev_niT (EvD.str (evd_var rfl h1)) (evd_fld rfl hl T.cl T.n_winds (.inl ⟨rfl, rfl⟩)))) (fun hb => ?_) (fun _ H1 e => q .non H1 e .non)
    simp [hz] at hb
end

section
variable {P : Program} {w : World} {K : PySem.W.Frag} {mg : Str → Option Value} {base : Heap}
theorem ok_law_row (T : Tx K mg) : FnOk P w K mg base CX0 1 T.law_row.a T.law_row.fd P_law_row (spx_law_row K) := by
  refine (T.law_row.F).ok sc_law_row (fun vs H Q E h => ?_) (fun cdv A outer s H vs Q E hr h => ?_)
  · obtain ⟨a, _, hA, _⟩ := h
    exact hA.len
  · have hu := hu_of hr
    refine ⟨_, (pss_cons (ps_set (i := 2) sc_law_row.nd rfl (by first | exact Or.inl rfl | exact Or.inr rfl) (pe_lst pa_nil))
      (pss_cons (ps_set (i := 3) sc_law_row.nd rfl (by first | exact Or.inl rfl | exact Or.inr rfl) (pe_callB call_abs' (by rfl) T.u_abs (by decide +kernel) (pa_cons (pv 0) pa_nil)))
      (pss_cons (ps_set (i := 4) sc_law_row.nd rfl (by first | exact Or.inl rfl | exact Or.inr rfl) (pe_op op_mod (pe_callTy call_int1' (by rfl) T.u_int (by decide +kernel) (pa_cons (pe_op op_add (pe_op op_mul (pv 3) pe_int) pe_int) pa_nil)) pe_int))
      (pss_cons (ps_for PassesOwn.never rfl (pi_range1 (by rfl) T.u_range (pa_cons (pv 1) pa_nil)) (pg_name (i := 5) sc_law_row.nd rfl (by first | exact Or.inl rfl | exact Or.inr rfl))
      (pss_cons (ps_set (i := 4) sc_law_row.nd rfl (by first | exact Or.inl rfl | exact Or.inr rfl) (pe_op op_mod (pe_callTy call_int1' (by rfl) T.u_int (by decide +kernel) (pa_cons (pe_op op_add (pe_op op_mul (pv 4) pe_int) (pe_op op_mul pe_int (pe_op op_add (pv 5) pe_int))) pa_nil)) pe_int))
      (pss_one (ps_if (pt_cmpR (op_ge) (pe_callB call_abs' (by rfl) T.u_abs (by decide +kernel) (pa_cons (pv 0) pa_nil)) (pe_op op_pow pe_int pe_int) (nomark _)) (pss_cons (ps_expr (pe_bm PySem.F.plainAttrs_list PySem.F.slot_list_append PySem.F.type_list_append mt_append (pv 2) (pa_cons (pe_op op_mod (pe_callTy call_int1' (by rfl) T.u_int (by decide +kernel) (pa_cons (pv 3) pa_nil)) pe_int) pa_nil)))
      (pss_one (ps_set (i := 3) sc_law_row.nd rfl (by first | exact Or.inl rfl | exact Or.inr rfl) (pe_op op_fdiv (pv 3) pe_int))))
      (pss_one (ps_expr (pe_bm PySem.F.plainAttrs_list PySem.F.slot_list_append PySem.F.type_list_append mt_append (pv 2) (pa_cons (pe_op op_mod (pe_callTy call_int1' (by rfl) T.u_int (by decide +kernel) (pa_cons (pe_op op_fdiv (pv 4) pe_int) pa_nil)) pe_int) pa_nil))))))))
      (pss_one (ps_ret (pv 2))))))), ?_⟩
    obtain ⟨⟨c, n⟩, ⟨hn0, hn1⟩, hA, q⟩ := h
    obtain ⟨v1, v2, rfl, h1, h2⟩ := two_inv hA
    cases h1.int_inv
    cases h2.int_inv
    have hn0 : 0 ≤ n := hn0
    have hn1 : n ≤ 1000 := hn1
    refine s_asgF (K := K) (evf_lst (ds := []) ed_nil (by simp)) fun p xs H2 hpn e2 hx ha => ?_
    cases ha
    dsimp only
    refine s_asg (ev_abs (ev_var rfl)) fun H3 e3 => ?_
    generalize (if c < 0 then -c else c) = rest
    dsimp only
    refine s_asg (ev_mod (ev_int1 (ev_add (ev_mul (ev_var rfl) ev_c (mulR (by decide))) ev_c)) ev_c (by decide)) fun H4 e4 => ?_
    generalize (rest * 48271 + 69621) % 2147483647 = mixed
    dsimp only
    refine s_forR1 (n := n) (ea_cons (ev_var rfl) ea_nil) ⟨hn0, by omega⟩ (fun i σ' H' => Ex H H' ∧ ∃ (rest mixed : Int) (a5 : Option V) (ns : List Int), σ' = [some (.int c), some (.int n), some (.ref p), some (.int rest), some (.int mixed), a5] ∧ NOk ns i ∧ LAt K H' p (dInts ns)) (fun H5 e5 => ⟨((e2.trans e3).trans e4).trans e5, _, _, _, [], rfl, ⟨rfl, fun _ h => by cases h⟩, ⟨[], e5 _ _ (e4 _ _ (e3 _ _ hx)), .nil⟩⟩) (fun i σ' H' hlt k => ?_) fun σ' H' k => ?_
    · obtain ⟨e, rest, mixed, a5, ns, rfl, hN, hL⟩ := k
      have hNl := hN.len
      have hlen : (dInts ns).length < 100000 := by unfold dInts; rw [List.length_map]; omega
      have hadd : ∀ m : Int, 0 ≤ m ∧ m < 1009 → NOk (ns ++ [m]) (i + 1) := fun m hm => ⟨by rw [List.length_append, hNl]; rfl, fun z hz => by
        rcases List.mem_append.mp hz with hz | hz
        · exact hN.rng z hz
        · rw [List.mem_singleton.mp hz]; exact hm⟩
      have hcat : ∀ m : Int, dInts (ns ++ [m]) = dInts ns ++ [.int m] := fun m => by unfold dInts; rw [List.map_append]; rfl
      show tSeq _ _ _ _ _
      refine s_asg (ev_mod (ev_int1 (ev_add (ev_mul (ev_var rfl) ev_c (mulR (by decide))) (ev_mul ev_c (ev_add (ev_var rfl) ev_c) (mulL (by decide))))) ev_c (by decide)) fun H5 e5 => ?_
      generalize (mixed * 16807 + 271 * ((i : Int) + 3)) % 2147483629 = mixed2
      dsimp only
      refine s_if (et_test (ev_ge (ev_abs (ev_var rfl)) (ev_op ev_c ev_c (rv_I ⟨by decide, by decide, by decide⟩)))) (fun hb H6 e6 => ?_) (fun hb H6 e6 => ?_)
      · show tSeq _ _ _ _ _
        refine s_appE (d := .int (rest % 1009)) hpn (e.trans (e5.trans e6)) (hL.ex (e5.trans e6)) (imm_ints _) (imm_int _) (ev_var rfl) (Ev.dI (ev_mod (ev_int1 (ev_var rfl)) ev_c (by decide))) hlen fun H7 e7 hL7 => ?_
        dsimp only
        refine s_asg (ev_div (ev_var rfl) ev_c ⟨by decide, by decide⟩) fun H8 e8 => ⟨e7.trans e8, _, _, _, ns ++ [rest % 1009], rfl, hadd _ (mod_in (by decide)), ?_⟩
        rw [hcat]
        exact hL7.ex e8
      · refine s_appE (d := .int ((mixed2 / 7) % 1009)) hpn (e.trans (e5.trans e6)) (hL.ex (e5.trans e6)) (imm_ints _) (imm_int _) (ev_var rfl) (Ev.dI (ev_mod (ev_int1 (ev_div (ev_var rfl) ev_c ⟨by decide, by decide⟩)) ev_c (by decide))) hlen fun H7 e7 hL7 => ⟨e7, _, _, _, ns ++ [(mixed2 / 7) % 1009], rfl, hadd _ (mod_in (by decide)), ?_⟩
        rw [hcat]
        exact hL7
    · obtain ⟨e, rest, mixed, a5, ns, rfl, hN, xs, hx1, hx2⟩ := k
      dsimp only
      exact s_ret (ev_var rfl) fun H5 e5 => q _ H5 (e.trans e5) ⟨ns, hN, p, xs, rfl, hpn, e5 _ _ hx1, hx2.ex e5⟩
end

section
variable {P : Program} {w : World} {K : PySem.W.Frag} {mg : Str → Option Value} {base : Heap}
theorem ok_law_weather (T : Tx K mg) : FnOk P w K mg base CX0 1 T.law_weather.a T.law_weather.fd P_law_weather (spx_law_weather K) := by
  refine (T.law_weather.F).ok sc_law_weather (fun vs H Q E h => ?_) (fun cdv A outer s H vs Q E hr h => ?_)
  · obtain ⟨a, _, hA, _⟩ := h
    exact hA.len
  · have hu := hu_of hr
    refine ⟨_, (pss_cons (ps_set (i := 3) sc_law_weather.nd rfl (by first | exact Or.inl rfl | exact Or.inr rfl) (pe_lst (pa_cons (pe_tup (pa_cons pe_int (pa_cons (pe_ix (ix_tupK (K := K) rfl) (pe_ix (ix_listK (K := K) rfl) (pv 2) pe_int (fun _ _ => rfl)) (pe_op op_mod (pe_callTy call_int1' (by rfl) T.u_int (by decide +kernel) (pa_cons (pe_ix (ix_listK (K := K) rfl) (pv 0) (pv 1) (fun _ _ => rfl)) pa_nil)) (pe_callB (call_lenK (K := K) rfl) (by rfl) T.u_len PySem.boot_len (pa_cons (pe_ix (ix_listK (K := K) rfl) (pv 2) pe_int (fun _ _ => rfl)) pa_nil))) (fun _ _ => rfl)) pa_nil))) pa_nil)))
      (pss_cons (ps_for PassesOwn.never rfl (pi_range1 (by rfl) T.u_range (pa_cons (pe_op op_mod (pe_callTy call_int1' (by rfl) T.u_int (by decide +kernel) (pa_cons (pe_ix (ix_listK (K := K) rfl) (pv 0) (pe_op op_add (pv 1) pe_int) (fun _ _ => rfl)) pa_nil)) pe_int) pa_nil)) (pg_name (i := 4) sc_law_weather.nd rfl (by first | exact Or.inl rfl | exact Or.inr rfl))
      (pss_cons (ps_set (i := 5) sc_law_weather.nd rfl (by first | exact Or.inl rfl | exact Or.inr rfl) (pe_ix (ix_tupK (K := K) rfl) (pe_ix (ix_listK (K := K) rfl) (pv 2) pe_int (fun _ _ => rfl)) (pe_op op_mod (pe_callTy call_int1' (by rfl) T.u_int (by decide +kernel) (pa_cons (pe_ix (ix_listK (K := K) rfl) (pv 0) (pe_op op_add (pe_op op_add (pv 1) pe_int) (pv 4)) (fun _ _ => rfl)) pa_nil)) (pe_callB (call_lenK (K := K) rfl) (by rfl) T.u_len PySem.boot_len (pa_cons (pe_ix (ix_listK (K := K) rfl) (pv 2) pe_int (fun _ _ => rfl)) pa_nil))) (fun _ _ => rfl)))
      (pss_one (ps_expr (pe_bm PySem.F.plainAttrs_list PySem.F.slot_list_append PySem.F.type_list_append mt_append (pv 3) (pa_cons (pe_tup (pa_cons (pe_op op_add (pe_op op_add (pe_ix (ix_tupK (K := K) rfl) (pe_ix (ix_listK (K := K) rfl) (pv 3) (pv 4) (fun _ _ => rfl)) pe_int (fun _ _ => rfl)) pe_int) (pe_op op_mod (pe_callTy call_int1' (by rfl) T.u_int (by decide +kernel) (pa_cons (pe_ix (ix_listK (K := K) rfl) (pv 0) (pe_op op_add (pe_op op_add (pv 1) pe_int) (pv 4)) (fun _ _ => rfl)) pa_nil)) pe_int)) (pa_cons (pv 5) pa_nil))) pa_nil))))))
      (pss_one (ps_ret (pv 3))))), ?_⟩
    obtain ⟨⟨ns, P⟩, ⟨hN, hP⟩, hA, q⟩ := h
    obtain ⟨v1, v2, v3, rfl, h1, h2, h3⟩ := three_inv hA
    dsimp only at hN hP
    cases h2.int_inv
    have h1 : Dp K H v1 (.list (dInts ns)) := h1
    have h3 : Dp K H v3 (dParts P) := h3
    have w1 := hP.w1
    have w4 := hP.w4
    have hwl : (0 : Int) < P.ws.length := by omega
    -- a wind by a number
    have wind : ∀ (Hn : Hp) (σn : L2.St) (te : TE) (i : Int), Ex H Hn → σn[0]? = some (some v1) → σn[2]? = some (some v3) → Ev te σn Hn (.int i) → 0 ≤ i → i < 190 → ∃ z ∈ P.ws, EvD K (tOp (rIxT K) (tOp (rIxL K) (tVar 2) (tC (.int 0))) (tOp (rI (fun x j => 0 < j) fun i j => .int (i % j)) (tCB rInt1 (tCons (tOp (rIxL K) (tVar 0) te) tNil)) (tCB (rLen K) (tCons (tOp (rIxL K) (tVar 2) (tC (.int 0))) tNil)))) σn Hn (.str z) := fun Hn σn te i e s0 s2 hi i0 i1 => by
      obtain ⟨n, _, _, hn⟩ := num_at hN i0 i1
      obtain ⟨m0, m1⟩ := mod_in (a := n) hwl
      obtain ⟨z, _, hz, hzt⟩ := str_at m0 m1
      exact ⟨z, hz, evd_ixT (evd_p0 s2 (h3.ex e)) (ev_mod (ev_int1 (ev_num s0 (h1.ex e) hi hn)) (ev_lenP (evd_p0 s2 (h3.ex e))) hwl) hzt⟩
    obtain ⟨z0, hz0, hw0⟩ := wind H (L2.start N_law_weather [v1, .int 110, v3]) (tVar 1) 110 (Ex.refl _) rfl rfl (ev_var rfl) (by decide) (by decide)
    refine s_asgF (evf_lst (ds := [dW (0, z0)]) (ed1 (evd_tup (ed_cons (Ev.dI ev_c) (ed1 hw0)) (by simp))) (by simp)) fun p xs H2 hpn e2 hx ha => ?_
    obtain ⟨nk, k0, k1, hk⟩ := num_at hN (i := 110 + 1) (by decide) (by decide)
    obtain ⟨m0, m1⟩ := mod_in (a := nk) (b := 4) (by decide)
    dsimp only
    refine s_forR1 (n := nk % 4) (ea_cons (ev_mod (ev_int1 (ev_num rfl (h1.ex e2) (ev_add (ev_var (v := .int 110) rfl) ev_c) hk)) ev_c (by decide)) ea_nil) ⟨m0, by omega⟩ (fun i σ' H' => Ex H H' ∧ ∃ (a4 a5 : Option V) (W : List (Int × Str)), σ' = [some v1, some (.int 110), some v3, some (.ref p), a4, a5] ∧ W.length = i + 1 ∧ WOk P.ws W ∧ (∀ r ∈ W, r.1 ≤ 12 * (i : Int)) ∧ LAt K H' p (W.map dW)) (fun H5 e5 => ⟨e2.trans e5, _, _, [(0, z0)], rfl, rfl, ⟨by simp, by simp, fun r h => by cases h; rfl, fun i r q h1 h2 => by simp at h2, fun r h => (by rw [List.mem_singleton.mp h]; show (0 : Int) ≤ 100000; decide), fun r h => (by rw [List.mem_singleton.mp h]; exact hz0)⟩, fun r h => (by rw [List.mem_singleton.mp h]; show (0 : Int) ≤ 12 * ((0 : Nat) : Int); decide), ⟨xs, e5 _ _ hx, ha.ex e5⟩⟩) (fun i σ' H' hlt k => ?_) fun σ' H' k => ?_
    · obtain ⟨e, a4, a5, W, rfl, hlen, hW, htop, hL⟩ := k
      dsimp only
      obtain ⟨z, hz, hwz⟩ := wind H' [some v1, some (.int 110), some v3, some (.ref p), some (.int (i : Int)), a5] (tOp (rI0 fun i j => .int (i + j)) (tOp (rI0 fun i j => .int (i + j)) (tVar 1) (tC (.int 5))) (tVar 4)) (110 + 5 + (i : Int)) e rfl rfl (ev_add (ev_add (ev_var rfl) ev_c) (ev_var rfl)) (by omega) (by omega)
      refine s_asgD hwz fun vz H3 e3 hvz => ?_
      obtain ⟨nd, d0, d1, hd⟩ := num_at hN (i := 110 + 2 + (i : Int)) (by omega) (by omega)
      obtain ⟨r, hr⟩ : ∃ r, W[i]? = some r := ⟨_, List.getElem?_eq_getElem (by omega)⟩
      have hrm := htop r (List.mem_of_getElem? hr)
      obtain ⟨c0, c1⟩ := mod_in (a := nd) (b := 12) (by decide)
      have hL3 := hL.ex e3
      have hat : L2.atI (W.map dW) (i : Int) = some (dW r) := atI_of (Int.natCast_nonneg _) (by rw [Int.toNat_natCast, List.getElem?_map, hr]; rfl)
      dsimp only
      refine s_appE (d := dW (r.1 + 1 + nd % 12, z)) hpn (e.trans e3) hL3 (immAll_map imm_dW _) (imm_dW _) (ev_var rfl) (evd_tup (ed_cons (d := .int (r.1 + 1 + nd % 12)) (Ev.dI (ev_add (ev_add (EvD.int (evd_ixT (ds := [.int r.1, .str r.2]) (d := .int r.1) (evd_ixL (d := dW r) (evd_var rfl hL3.toD) (ev_var rfl) hat) ev_c (atI_of (by decide) rfl))) ev_c) (ev_mod (ev_int1 (ev_num rfl (h1.ex (e.trans e3)) (ev_add (ev_add (ev_var rfl) ev_c) (ev_var rfl)) hd)) ev_c (by decide)))) (ed1 (d := .str z) (evd_var rfl hvz))) (by simp)) (by rw [List.length_map]; omega) fun H6 e6 hL6 => ⟨e6, _, _, W ++ [(r.1 + 1 + nd % 12, z)], rfl, by rw [List.length_append, hlen]; rfl, ?_, fun q hq => ?_, ?_⟩
      · refine ⟨by rw [List.length_append]; simp, by rw [List.length_append, hlen]; simp; omega, fun q hq => hW.z q ?_, fun j q t h1 h2 => ?_, fun q hq => ?_, fun q hq => ?_⟩
        · rw [List.getElem?_append_left (by omega)] at hq
          exact hq
        · by_cases hj : j + 1 < W.length
          · rw [List.getElem?_append_left (by omega)] at h1
            rw [List.getElem?_append_left hj] at h2
            exact hW.asc j q t h1 h2
          · have hj2 : j + 1 = W.length := by
              have := (List.getElem?_eq_some_iff.mp h2).1
              rw [List.length_append] at this
              simp at this
              omega
            have hji : j = i := by omega
            subst hji
            rw [List.getElem?_append_left (by omega), hr] at h1
            cases h1
            rw [List.getElem?_append_right (by omega), hj2, Nat.sub_self] at h2
            cases h2
            show r.1 < r.1 + 1 + nd % 12
            omega
        · rcases List.mem_append.mp hq with hq | hq
          · exact hW.top q hq
          · rw [List.mem_singleton.mp hq]
            show r.1 + 1 + nd % 12 ≤ 100000
            omega
        · rcases List.mem_append.mp hq with hq | hq
          · exact hW.wn q hq
          · rw [List.mem_singleton.mp hq]
            exact hz
      · rcases List.mem_append.mp hq with hq | hq
        · have := htop q hq
          omega
        · rw [List.mem_singleton.mp hq]
          show r.1 + 1 + nd % 12 ≤ 12 * ((i + 1 : Nat) : Int)
          omega
      · rw [List.map_append]
        exact hL6
    · obtain ⟨e, a4, a5, W, rfl, hlen, hW, htop, hL⟩ := k
      dsimp only
      exact s_ret (ev_var rfl) fun H5 e5 => q _ H5 (e.trans e5) ⟨W, hW, (hL.ex e5).toD⟩
end

section
variable {P : Program} {w : World} {K : PySem.W.Frag} {mg : Str → Option Value} {base : Heap}
theorem ok_law_wind (T : Tx K mg) : FnOk P w K mg base CX0 1 T.law_wind.a T.law_wind.fd P_law_wind (spx_law_wind K) := by
  refine (T.law_wind.F).ok sc_law_wind (fun vs H Q E h => ?_) (fun cdv A outer s H vs Q E hr h => ?_)
  · obtain ⟨a, _, ⟨vp, rest, rfl, _, hA⟩, _⟩ := h
    rw [List.length_cons, hA.len]
    rfl
  · have hu := hu_of hr
    refine ⟨_, (pss_cons (ps_set (i := 3) sc_law_wind.nd rfl (by first | exact Or.inl rfl | exact Or.inr rfl) (pe_ix (ix_tupK (K := K) rfl) (pe_ix (ix_listK (K := K) rfl) (pv 1) pe_int (fun _ _ => rfl)) pe_int (fun _ _ => rfl)))
      (pss_cons (ps_for PassesOwn.never rfl (pi_listK (K := K) rfl (pv 1)) (pg_name (i := 4) sc_law_wind.nd rfl (by first | exact Or.inl rfl | exact Or.inr rfl))
      (pss_one (ps_if (pt_cmpR (op_le) (pe_ix (ix_tupK (K := K) rfl) (pv 4) pe_int (fun _ _ => rfl)) (pv 2) (nomark _)) (pss_one (ps_set (i := 3) sc_law_wind.nd rfl (by first | exact Or.inl rfl | exact Or.inr rfl) (pe_ix (ix_tupK (K := K) rfl) (pv 4) pe_int (fun _ _ => rfl))))
      pss_nil)))
      (pss_one (ps_ret (pe_index (K := K) rfl (pe_ix (ix_listK (K := K) rfl) (pv 0) pe_int (fun _ _ => rfl)) (pv 3)))))), ?_⟩
    obtain ⟨⟨P, W, m⟩, ⟨hW, h3⟩, ⟨vp, rest, rfl, hp, hA⟩, q⟩ := h
    obtain ⟨v1, v2, rfl, h1, h2⟩ := two_inv hA
    have hW : WOk P.ws W := hW
    have h1 : Dp K H v1 (.list (W.map dW)) := h1
    obtain ⟨r0, W', eW, hr0⟩ := hW.cons
    have hwd : wd W m = wdA r0.2 W m := by rw [eW]; rfl
    refine s_asgD (d := .str r0.2) (evd_ixT (ds := [.int r0.1, .str r0.2]) (evd_ixL (d := dW r0) (evd_var rfl h1) ev_c (by rw [eW]; exact atI_of (Int.le_refl 0) rfl)) ev_c (atI_of (by decide) rfl)) fun u H1 e1 hu1 => ?_
    dsimp only
    refine s_lpL (l := W) (enc := dW) imm_dW h1 (q_var rfl) (fun i σ' H' => Ex H H' ∧ σ'[0]? = some (some vp) ∧ σ'[2]? = some (some v2) ∧ σ'[3]? = some (some (.str (wdA r0.2 (W.take i) m))) ∧ σ'.length = 5) ⟨e1, rfl, rfl, by rw [hu1.str_inv]; rfl, rfl⟩ (fun _ _ _ p => p.1) (fun i r x σ' H' hi k hx => ?_) fun σ' H' k => ?_
    · obtain ⟨e, s0, s2, s3, sl⟩ := k
      match σ', sl with
      | [a0, a1, a2, a3, a4], _ =>
        cases s0
        cases s2
        cases s3
        have hx : Dp K H' x (.tuple [.int r.1, .str r.2]) := hx
        have hst : wdA r0.2 (W.take (i + 1)) m = if r.1 ≤ m then r.2 else wdA r0.2 (W.take i) m := by rw [take_snoc hi, wdA_snoc]
        refine s_if (et_test (ev_le (EvD.int (evd_ixT (d := .int r.1) (evd_var rfl hx) ev_c (atI_of (by decide) rfl))) (EvD.int (evd_var rfl (h2.ex e))))) (fun hb H3 e3 => ?_) (fun hb H3 e3 => ?_)
        · refine s_asgD (d := .str r.2) (evd_ixT (evd_var rfl (hx.ex e3)) ev_c (atI_of (by decide) rfl)) fun v H4 e4 hv => ⟨(e.trans e3).trans e4, rfl, rfl, ?_, rfl⟩
          rw [hst, if_pos (of_decide_eq_true hb), hv.str_inv]
          rfl
        · refine ⟨e.trans e3, rfl, rfl, ?_, rfl⟩
          rw [hst, if_neg (of_decide_eq_false hb)]
          rfl
    · obtain ⟨e, s0, s2, s3, sl⟩ := k
      rw [List.take_length, ← hwd] at s3
      exact s_retD (Ev.dI (ev_index (fz_parts s0 (hp.ex e)) (ev_var s3) (hW.wd_mem m))) fun v H4 e4 hv => q v H4 (e.trans e4) hv
end

section
variable {P : Program} {w : World} {K : PySem.W.Frag} {mg : Str → Option Value} {base : Heap}
theorem ok_law_rows (T : Tx K mg) : FnOk P w K mg base CX0 1 T.law_rows.a T.law_rows.fd P_law_rows (spx_law_rows K) := by
  refine (T.law_rows.F).ok sc_law_rows (fun vs H Q E h => ?_) (fun cdv A outer s H vs Q E hr h => ?_)
  · obtain ⟨a, _, hA, _⟩ := h
    exact hA.len
  · have hu := hu_of hr
    refine ⟨_, (pss_cons (ps_set (i := 5) sc_law_rows.nd rfl (by first | exact Or.inl rfl | exact Or.inr rfl) (pe_lst pa_nil))
      (pss_cons (ps_for PassesOwn.never rfl (pi_range1 (by rfl) T.u_range (pa_cons (pv 2) pa_nil)) (pg_name (i := 6) sc_law_rows.nd rfl (by first | exact Or.inl rfl | exact Or.inr rfl))
      (pss_one (ps_expr (pe_bm PySem.F.plainAttrs_list PySem.F.slot_list_append PySem.F.type_list_append mt_append (pv 5) (pa_cons (pe_tup (pa_cons (pe_ix (ix_tupK (K := K) rfl) (pe_ix (ix_listK (K := K) rfl) (pv 3) pe_int (fun _ _ => rfl)) (pe_op op_mod (pe_callTy call_int1' (by rfl) T.u_int (by decide +kernel) (pa_cons (pe_ix (ix_listK (K := K) rfl) (pv 0) (pe_op op_add (pv 1) (pe_op op_mul pe_int (pv 6))) (fun _ _ => rfl)) pa_nil)) (pe_callB (call_lenK (K := K) rfl) (by rfl) T.u_len PySem.boot_len (pa_cons (pe_ix (ix_listK (K := K) rfl) (pv 3) pe_int (fun _ _ => rfl)) pa_nil))) (fun _ _ => rfl)) (pa_cons (pe_op op_mod (pe_callTy call_int1' (by rfl) T.u_int (by decide +kernel) (pa_cons (pe_ix (ix_listK (K := K) rfl) (pv 0) (pe_op op_add (pe_op op_add (pv 1) (pe_op op_mul pe_int (pv 6))) pe_int) (fun _ _ => rfl)) pa_nil)) (pv 4)) pa_nil))) pa_nil)))))
      (pss_one (ps_ret (pv 5))))), ?_⟩
    obtain ⟨⟨ns, pos, many, P, most⟩, ⟨hN, g0, g1, g2, g3, hP, g4⟩, hA, q⟩ := h
    obtain ⟨v1, v2, v3, v4, v5, rfl, h1, h2, h3, h4, h5⟩ := five_inv hA
    dsimp only at hN g0 g1 g2 g3 hP g4
    cases h2.int_inv
    cases h3.int_inv
    cases h5.int_inv
    have h1 : Dp K H v1 (.list (dInts ns)) := h1
    have h4 : Dp K H v4 (dParts P) := h4
    have p1 := hP.p1
    refine s_asgF (K := K) (evf_lst (ds := []) ed_nil (by simp)) fun p xs H2 hpn e2 hx ha => ?_
    cases ha
    dsimp only
    refine s_forR1 (n := many) (ea_cons (ev_var rfl) ea_nil) ⟨g1, by omega⟩ (fun i σ' H' => Ex H H' ∧ ∃ (a6 : Option V) (rows : List (Str × Int)), σ' = [some v1, some (.int pos), some (.int many), some v4, some (.int most), some (.ref p), a6] ∧ rows.length = i ∧ (∀ r ∈ rows, r.1 ∈ P.ps ∧ 0 ≤ r.2) ∧ LAt K H' p (rows.map dR)) (fun H5 e5 => ⟨e2.trans e5, _, [], rfl, rfl, (fun _ h => by cases h), ⟨[], e5 _ _ hx, .nil⟩⟩) (fun i σ' H' hlt k => ?_) fun σ' H' k => ?_
    · obtain ⟨e, a6, rows, rfl, hlen, hok, hL⟩ := k
      obtain ⟨n1, n10, n11, hn1⟩ := num_at hN (i := pos + 2 * (i : Int)) (by omega) (by omega)
      obtain ⟨n2, n20, n21, hn2⟩ := num_at hN (i := pos + 2 * (i : Int) + 1) (by omega) (by omega)
      have hpl : (0 : Int) < P.ps.length := by omega
      obtain ⟨m0, m1⟩ := mod_in (a := n1) hpl
      obtain ⟨z, _, hz, hzt⟩ := str_at m0 m1
      obtain ⟨t0, _⟩ := mod_in (a := n2) g4
      have hspot : ∀ (Hn : Hp) (σn : L2.St), σn[1]? = some (some (.int pos)) → σn[6]? = some (some (.int (i : Int))) → Ev (tOp (rI0 fun i j => .int (i + j)) (tVar 1) (tOp (rI CMul fun i j => .int (i * j)) (tC (.int 2)) (tVar 6))) σn Hn (.int (pos + 2 * (i : Int))) := fun Hn σn z1 z2 => ev_add (ev_var z1) (ev_mul ev_c (ev_var z2) (mulL (by decide)))
      refine s_appE (d := dR (z, n2 % most)) hpn e hL (immAll_map imm_dR _) (imm_dR _) (ev_var rfl) (evd_tup (ed_cons (d := .str z) (evd_ixT (evd_p1 rfl (h4.ex e)) (ev_mod (ev_int1 (ev_num rfl (h1.ex e) (hspot _ _ rfl rfl) hn1)) (ev_lenP (evd_p1 rfl (h4.ex e))) hpl) hzt) (ed1 (d := .int (n2 % most)) (Ev.dI (ev_mod (ev_int1 (ev_num rfl (h1.ex e) (ev_add (hspot _ _ rfl rfl) ev_c) hn2)) (ev_var rfl) g4)))) (by simp)) (by rw [List.length_map]; omega) fun H6 e6 hL6 => ⟨e6, _, rows ++ [(z, n2 % most)], rfl, by rw [List.length_append, hlen]; rfl, fun r hr => ?_, ?_⟩
      · rcases List.mem_append.mp hr with hr | hr
        · exact hok r hr
        · rw [List.mem_singleton.mp hr]
          exact ⟨hz, t0⟩
      · rw [List.map_append]
        exact hL6
    · obtain ⟨e, a6, rows, rfl, hlen, hok, xs, hx1, hx2⟩ := k
      dsimp only
      exact s_ret (ev_var rfl) fun H5 e5 => q _ H5 (e.trans e5) ⟨rows, ⟨by omega, fun r hr => (hok r hr).1, fun r hr => (hok r hr).2⟩, hlen, p, xs, rfl, hpn, e5 _ _ hx1, hx2.ex e5⟩
end

/-! the law's names -/
def cl (z : Str) : List Nat := z.cps.toList
theorem cl_len (z : Str) : z.length = (cl z).length := by
  unfold cl
  rw [Array.length_toList]
  rfl
theorem cl_app (a b : Str) : cl (a ++ b) = cl a ++ cl b := by
  show (a.cps ++ b.cps).toList = _
  rw [Array.toList_append]
  rfl
theorem cl_one (c : Nat) : cl ⟨#[c]⟩ = [c] := rfl
theorem cl_cut (z : Str) (lo hi : Option Int) : cl (cutS z lo hi) = ((cl z).drop (HT.sIx z.length 0 lo)).take (HT.sIx z.length z.length hi - HT.sIx z.length 0 lo) := rfl
theorem cl_head (z : Str) {s : Nat} (h : s ≤ z.length) : cl (cutS z none (some (s : Int))) = (cl z).take s := by
  rw [cl_cut, HT.sIx_nat, HT.sIx_none, Nat.min_eq_left h, Nat.sub_zero, List.drop_zero]
theorem cl_tail (z : Str) {s : Nat} (h : s ≤ z.length) : cl (cutS z (some (s : Int)) none) = (cl z).drop s := by
  rw [cl_cut, HT.sIx_nat, HT.sIx_none, Nat.min_eq_left h]
  rw [List.take_of_length_le (by rw [List.length_drop, ← cl_len]; exact Nat.le_refl _)]
theorem cl_sub (z : Str) (lo hi : Option Int) : ∀ c ∈ cl (cutS z lo hi), c ∈ cl z := fun c h => by
  rw [cl_cut] at h
  exact List.mem_of_mem_drop (List.mem_of_mem_take h)
theorem cl_join : ∀ l : List Str, (∀ c ∈ cl (Str.join ("" : Str) l), ∃ x ∈ l, c ∈ cl x) ∧ (cl (Str.join ("" : Str) l)).length = (l.map (·.length)).sum
  | [] => ⟨fun c h => (by cases h), rfl⟩
  | [x] => ⟨fun c h => ⟨x, List.mem_cons_self, h⟩, by
    show (cl x).length = _
    rw [← cl_len]
    simp⟩
  | x :: y :: l => by
    obtain ⟨h1, h2⟩ := cl_join (y :: l)
    have e : cl (Str.join ("" : Str) (x :: y :: l)) = cl x ++ cl (Str.join ("" : Str) (y :: l)) := by
      show cl (x ++ ("" : Str) ++ Str.join ("" : Str) (y :: l)) = _
      rw [cl_app, cl_app]
      show cl x ++ [] ++ _ = _
      rw [List.append_nil]
    rw [e]
    refine ⟨fun c h => ?_, ?_⟩
    · rcases List.mem_append.mp h with h | h
      · exact ⟨x, List.mem_cons_self, h⟩
      · obtain ⟨z, hz, hc⟩ := h1 c h
        exact ⟨z, List.mem_cons_of_mem _ hz, hc⟩
    · rw [List.length_append, h2, ← cl_len]
      simp
theorem sum_one (f : Nat → Str) (hf : ∀ i, (f i).length = 1) : ∀ l : List Nat, ((l.map f).map (·.length)).sum = l.length
  | [] => rfl
  | i :: l => by
    have := sum_one f hf l
    simp only [List.map_cons, List.sum_cons, List.length_cons, hf, this]
    omega
theorem nc_len : nameChars.length = 36 := by decide +kernel
theorem nc_first : ∀ c ∈ nameChars.take 26, c ∉ digits := by decide +kernel
theorem nc_nodup : (nameChars.take 26).Nodup := by decide +kernel
theorem nc_at {i : Int} (h0 : 0 ≤ i) (h1 : i < 36) : ∃ c, c ∈ nameChars ∧ nameChars[i.toNat]? = some c ∧ L2.atI nameChars i = some c := by
  obtain ⟨c, hc, hm⟩ := get_lt (l := nameChars) (i := i.toNat) (by rw [nc_len]; omega)
  exact ⟨c, hm, hc, atI_of h0 hc⟩
/-- what all names of one number share -/
structure Own (z : Str) : Prop where
  len : z.length ≤ 10
  ok : ∀ c ∈ cl z, c ∈ nameChars
theorem own_name {own : Str} (h : Own own) {s : Nat} (hs : s ≤ own.length) {c d : Nat} (hc : c ∈ nameChars) (hc2 : c ∉ digits) (hd : d ∈ nameChars) :
    NameOk ((⟨#[c]⟩ : Str) ++ cutS own none (some (s : Int)) ++ ⟨#[d]⟩ ++ cutS own (some (s : Int)) none) ∧ cl ((⟨#[c]⟩ : Str) ++ cutS own none (some (s : Int)) ++ ⟨#[d]⟩ ++ cutS own (some (s : Int)) none) = c :: ((cl own).take s ++ [d] ++ (cl own).drop s) := by
  have e : cl ((⟨#[c]⟩ : Str) ++ cutS own none (some (s : Int)) ++ ⟨#[d]⟩ ++ cutS own (some (s : Int)) none) = c :: ((cl own).take s ++ [d] ++ (cl own).drop s) := by
    rw [cl_app, cl_app, cl_app, cl_one, cl_one, cl_head own hs, cl_tail own hs]
    rfl
  have hl : (cl own).length ≤ 10 := by rw [← cl_len]; exact h.len
  have hs2 : s ≤ (cl own).length := by rw [← cl_len]; exact hs
  refine ⟨⟨?_, ?_, fun z hz => ?_, fun z hz => ?_⟩, e⟩
  · rw [cl_len, e]
    simp
  · rw [cl_len, e]
    simp
    omega
  · have : (cl ((⟨#[c]⟩ : Str) ++ cutS own none (some (s : Int)) ++ ⟨#[d]⟩ ++ cutS own (some (s : Int)) none))[0]? = some z := by
      unfold cl
      rw [Array.getElem?_toList]
      exact hz
    rw [e] at this
    cases this
    exact hc2
  · have hz : z ∈ cl ((⟨#[c]⟩ : Str) ++ cutS own none (some (s : Int)) ++ ⟨#[d]⟩ ++ cutS own (some (s : Int)) none) := hz
    rw [e] at hz
    rcases List.mem_cons.mp hz with hz | hz
    · rw [hz]; exact hc
    · rcases List.mem_append.mp hz with hz | hz
      · rcases List.mem_append.mp hz with hz | hz
        · exact h.ok z (List.mem_of_mem_take hz)
        · rw [List.mem_singleton.mp hz]; exact hd
      · exact h.ok z (List.mem_of_mem_drop hz)
theorem names_nd {n : Int} {l : List Str} (hl : l.length ≤ 10) (h : ∀ (j : Nat) z, l[j]? = some z → (cl z)[0]? = nameChars[((n + 3 * (j : Int)) % 26).toNat]?) : l.Nodup := by
  unfold List.Nodup
  rw [List.pairwise_iff_getElem]
  intro i j hi hj hij e
  have a := h i _ (List.getElem?_eq_getElem hi)
  have b := h j _ (List.getElem?_eq_getElem hj)
  rw [e, b] at a
  obtain ⟨a0, a1⟩ := mod_in (a := n + 3 * (i : Int)) (b := 26) (by decide)
  obtain ⟨b0, b1⟩ := mod_in (a := n + 3 * (j : Int)) (b := 26) (by decide)
  have hh := (List.getElem?_inj (l := nameChars.take 26) (i := ((n + 3 * (j : Int)) % 26).toNat) (j := ((n + 3 * (i : Int)) % 26).toNat) (by rw [List.length_take, nc_len]; omega) nc_nodup).mp (by
    rw [List.getElem?_take_of_lt (by omega), List.getElem?_take_of_lt (by omega)]
    exact a)
  omega
section
variable {P : Program} {w : World} {K : PySem.W.Frag} {mg : Str → Option Value} {base : Heap}
theorem ok_law_names (T : Tx K mg) : FnOk P w K mg base CX0 1 T.law_names.a T.law_names.fd P_law_names (spx_law_names K) := by
  refine (T.law_names.F).ok sc_law_names (fun vs H Q E h => ?_) (fun cdv A outer s H vs Q E hr h => ?_)
  · obtain ⟨a, _, hA, _⟩ := h
    exact hA.len
  · have hu := hu_of hr
    refine ⟨_, (pss_cons (ps_set (i := 2) sc_law_names.nd rfl (by first | exact Or.inl rfl | exact Or.inr rfl) pe_str)
      (pss_cons (ps_set (i := 3) sc_law_names.nd rfl (by first | exact Or.inl rfl | exact Or.inr rfl) (pe_op op_mod (pe_callTy call_int1' (by rfl) T.u_int (by decide +kernel) (pa_cons (pv 0) pa_nil)) pe_int))
      (pss_cons (ps_set (i := 4) sc_law_names.nd rfl (by first | exact Or.inl rfl | exact Or.inr rfl) (pe_join pe_str (pe_lc (own := [("_law_k", 5)]) rfl sc_law_names.nd (pi_range1 (by rfl) T.u_range (pa_cons (pv 3) pa_nil)) (blkOk_by (own := [("_law_k", 5)]) (N := N_law_names) (sc := (defScope s_law_names)) (by decide +kernel)) (fun _ _ _ _ _ => (pg_name (i := 5) sc_law_names.nd rfl (by first | exact Or.inl rfl | exact Or.inr rfl))) (fun _ _ _ _ _ => pts_nil) (fun _ _ _ _ _ => (pe_ix ix_str (pv 2) (pe_op op_mod (pe_callTy call_int1' (by rfl) T.u_int (by decide +kernel) (pa_cons (pe_op op_add (pv 0) (pe_op op_mul (pe_op op_mul pe_int (pv 5)) (pv 5))) pa_nil)) pe_int) (fun _ _ => rfl))))))
      (pss_cons (ps_set (i := 6) sc_law_names.nd rfl (by first | exact Or.inl rfl | exact Or.inr rfl) (pe_op op_mod (pe_callTy call_int1' (by rfl) T.u_int (by decide +kernel) (pa_cons (pe_op op_fdiv (pv 0) pe_int) pa_nil)) (pe_op op_add (pv 3) pe_int)))
      (pss_cons (ps_set (i := 7) sc_law_names.nd rfl (by first | exact Or.inl rfl | exact Or.inr rfl) (pe_lst pa_nil))
      (pss_cons (ps_for PassesOwn.never rfl (pi_range1 (by rfl) T.u_range (pa_cons (pv 1) pa_nil)) (pg_name (i := 5) sc_law_names.nd rfl (by first | exact Or.inl rfl | exact Or.inr rfl))
      (pss_cons (ps_set (i := 8) sc_law_names.nd rfl (by first | exact Or.inl rfl | exact Or.inr rfl) (pv 4))
      (pss_cons (ps_if (pt_cmpR (op_eq) (pe_op op_mod (pe_callTy call_int1' (by rfl) T.u_int (by decide +kernel) (pa_cons (pe_op op_add (pe_op op_fdiv (pv 0) pe_int) (pv 5)) pa_nil)) pe_int) pe_int (nomark _)) (pss_one (ps_set (i := 8) sc_law_names.nd rfl (by first | exact Or.inl rfl | exact Or.inr rfl) (pe_slice sl_str (pv 4) (po_some pe_int) po_none)))
      pss_nil)
      (pss_cons (ps_set (i := 9) sc_law_names.nd rfl (by first | exact Or.inl rfl | exact Or.inr rfl) (pe_callB (call_min2' rfl) (by rfl) T.u_min (by decide +kernel) (pa_cons (pv 6) (pa_cons (pe_callB (call_lenK (K := K) rfl) (by rfl) T.u_len PySem.boot_len (pa_cons (pv 8) pa_nil)) pa_nil))))
      (pss_cons (ps_set (i := 10) sc_law_names.nd rfl (by first | exact Or.inl rfl | exact Or.inr rfl) pe_int)
      (pss_cons (ps_if (pt_cmpR (op_eq) (pe_op op_mod (pe_callTy call_int1' (by rfl) T.u_int (by decide +kernel) (pa_cons (pe_op op_fdiv (pv 0) pe_int) pa_nil)) pe_int) pe_int (nomark _)) (pss_one (ps_set (i := 10) sc_law_names.nd rfl (by first | exact Or.inl rfl | exact Or.inr rfl) pe_int))
      pss_nil)
      (pss_cons (ps_set (i := 11) sc_law_names.nd rfl (by first | exact Or.inl rfl | exact Or.inr rfl) (pe_op op_addS' (pe_ix ix_str (pv 2) (pe_op op_mod (pe_callTy call_int1' (by rfl) T.u_int (by decide +kernel) (pa_cons (pe_op op_add (pv 0) (pe_op op_mul pe_int (pv 5))) pa_nil)) pe_int) (fun _ _ => rfl)) (pe_slice sl_str (pv 8) po_none (po_some (pv 9)))))
      (pss_one (ps_expr (pe_bm PySem.F.plainAttrs_list PySem.F.slot_list_append PySem.F.type_list_append mt_append (pv 7) (pa_cons (pe_op op_addS' (pe_op op_addS' (pv 11) (pe_ix ix_str (pv 2) (pe_op op_mod (pe_callTy call_int1' (by rfl) T.u_int (by decide +kernel) (pa_cons (pe_op op_add (pv 0) (pe_op op_mul (pv 10) (pv 5))) pa_nil)) pe_int) (fun _ _ => rfl))) (pe_slice sl_str (pv 8) (po_some (pv 9)) po_none)) pa_nil)))))))))))
      (pss_one (ps_ret (pv 7))))))))), ?_⟩
    obtain ⟨⟨n, many⟩, ⟨n0, n1, m0, m1⟩, hA, q⟩ := h
    obtain ⟨v1, v2, rfl, h1, h2⟩ := two_inv hA
    dsimp only at n0 n1 m0 m1
    cases h1.int_inv
    cases h2.int_inv
    have hL36 : ("abcdefghijklmnopqrstuvwxyz0123456789" : Str).length ≤ 100000 := by decide +kernel
    refine s_asg ev_c fun H1 e1 => ?_
    dsimp only
    refine s_asg (ev_mod (ev_int1 (ev_var rfl)) ev_c (by decide)) fun H2 e2 => ?_
    obtain ⟨z0, z1⟩ := mod_in (a := n) (b := 11) (by decide)
    generalize n % 11 = size at z0 z1
    have e2 := e1.trans e2
    dsimp only
    let c : Nat → Nat := fun i => (nameChars[((n + 7 * (i : Int) * (i : Int)) % 36).toNat]?).getD 0
    have hc : ∀ i : Nat, c i ∈ nameChars ∧ L2.atI nameChars ((n + 7 * (i : Int) * (i : Int)) % 36) = some (c i) := fun i => by
      obtain ⟨a0, a1⟩ := mod_in (a := n + 7 * (i : Int) * (i : Int)) (b := 36) (by decide)
      obtain ⟨x, hx, hx2, hx3⟩ := nc_at a0 a1
      have : c i = x := by simp only [c, hx2]; rfl
      rw [this]
      exact ⟨hx, hx3⟩
    refine ⟨⟨_, rfl⟩, ?_⟩
    refine (EvF.to (K := K) (evf_lcR (n := size) gm_name (fun _ => true) (fun i => .str ⟨#[c i]⟩) (ea_cons (ev_var rfl) ea_nil) z0 (by omega) (fun i _ _ => imm_str _) fun i Hn hi ex => ⟨Ex.refl _, rfl, et_yes, fun _ => Ev.dS (ev_ixS (w := ("abcdefghijklmnopqrstuvwxyz0123456789" : Str)) (ev_var rfl) (ev_mod (ev_int1 (ev_add (ev_var (v := .int n) rfl) (ev_mul (ev_mul ev_c (ev_var (v := .int (i : Int)) rfl) (mulL (by decide))) (ev_var rfl) (mulR ⟨by omega, by omega⟩)))) ev_c (by decide)) hL36 (hc i).2)⟩) (es := ((List.range size.toNat).map fun i => (⟨#[c i]⟩ : Str)).map .str) (by unfold givD; rw [filter_true, List.map_map]; rfl)) H2 (Ex.refl _) _ fun pr xr H3 hpr e3 hxr har => ?_
    have ex := har.strs_inv
    subst ex
    have hsum : (((List.range size.toNat).map fun i => (⟨#[c i]⟩ : Str)).map (·.length)).sum = size.toNat := by
      rw [sum_one (fun i => (⟨#[c i]⟩ : Str)) (fun _ => rfl), List.length_range]
    refine ⟨("" : Str), pr, _, rfl, rfl, .inl (SqL.of hxr), ?_, ?_⟩
    · rw [hsum]
      have : ("" : Str).length = 0 := rfl
      rw [this, Nat.mul_zero]
      omega
    have hrest : Own (Txt.join ("" : Str) ((List.range size.toNat).map fun i => (⟨#[c i]⟩ : Str))) := by
      rw [TL.join_eq]
      obtain ⟨j1, j2⟩ := cl_join ((List.range size.toNat).map fun i => (⟨#[c i]⟩ : Str))
      refine ⟨by rw [cl_len, j2, hsum]; omega, fun z hz => ?_⟩
      obtain ⟨y, hy, hzy⟩ := j1 z hz
      obtain ⟨i, _, rfl⟩ := List.mem_map.mp hy
      rw [cl_one, List.mem_singleton] at hzy
      rw [hzy]
      exact (hc i).1
    generalize Txt.join ("" : Str) ((List.range size.toNat).map fun i => (⟨#[c i]⟩ : Str)) = rest at hrest
    have e3 := e2.trans e3
    dsimp only
    refine s_asg (ev_mod (ev_int1 (ev_div (ev_var rfl) ev_c ⟨by decide, by decide⟩)) (ev_add (ev_var (v := .int size) rfl) ev_c) (by omega)) fun H4 e4 => ?_
    obtain ⟨y0, y1⟩ := mod_in (a := n / 11) (b := size + 1) (by omega)
    generalize (n / 11) % (size + 1) = place at y0 y1
    have e4 := e3.trans e4
    dsimp only
    refine s_asgF (K := K) (evf_lst (ds := []) ed_nil (by simp)) fun p xs H5 hpn e5 hx ha => ?_
    cases ha
    have hp0 : H p = none := fresh_back e4 hpn
    have e5' := e4.trans e5
    dsimp only
    refine s_forR1 (n := many) (ea_cons (ev_var rfl) ea_nil) ⟨m0, by omega⟩ (fun i σ' H' => Ex H H' ∧ ∃ (a5 a8 a9 a10 a11 : Option V) (l : List Str), σ' = [some (.int n), some (.int many), some (.str "abcdefghijklmnopqrstuvwxyz0123456789"), some (.int size), some (.str rest), a5, some (.int place), some (.ref p), a8, a9, a10, a11] ∧ l.length = i ∧ (∀ z ∈ l, NameOk z) ∧ (∀ (j : Nat) z, l[j]? = some z → (cl z)[0]? = nameChars[((n + 3 * (j : Int)) % 26).toNat]?) ∧ LAt K H' p (l.map .str)) (fun H6 e6 => ⟨e5'.trans e6, _, _, _, _, _, [], rfl, rfl, (fun _ h => by cases h), (fun _ _ h => by cases h), ⟨[], e6 _ _ hx, .nil⟩⟩) (fun i σ' H' hlt k => ?_) fun σ' H' k => ?_
    · obtain ⟨e, a5, a8, a9, a10, a11, l, rfl, hlen, hok, hfst, hL⟩ := k
      show tSeq _ _ _ _ _
      refine s_asg (v := .str rest) (ev_var rfl) fun H6 e6 => ?_
      have e6 := e.trans e6
      have hL6 := hL.ex ‹Ex H' H6›
      dsimp only
      refine s_ifSet (b := decide ((n / 121 + (i : Int)) % 3 = 0)) (et_test (Ev.to (ev_eqv (ev_mod (ev_int1 (ev_add (ev_div (ev_var (v := .int n) rfl) ev_c ⟨by decide, by decide⟩) (ev_var (v := .int (i : Int)) rfl))) ev_c (by decide)) ev_c rfl) (by simp))) (ev_slS (w := rest) (ev_var rfl) (eo_some ev_c) eo_none (Nat.le_trans hrest.len (by decide))) (.str rest) rfl fun v H7 e7 hv => ?_
      obtain ⟨own, rfl, hown⟩ : ∃ own, v = .str own ∧ Own own := by
        rcases hv with rfl | rfl
        · exact ⟨_, rfl, Nat.le_trans (cutS_length _ _ _) hrest.len, fun z hz => hrest.ok z (cl_sub _ _ _ z hz)⟩
        · exact ⟨_, rfl, hrest⟩
      have hol := hown.len
      show tSeq _ _ _ _ _
      refine s_asg (ev_min2 (ev_var (v := .int place) rfl) (ev_lenS (w := own) (ev_var rfl) (Nat.le_trans hol (by decide)))) fun H8 e8 => ?_
      obtain ⟨sp, hsp, hsp2⟩ : ∃ sp : Nat, (if (own.length : Int) < place then (own.length : Int) else place) = (sp : Int) ∧ sp ≤ own.length := by
        by_cases z : (own.length : Int) < place
        · exact ⟨own.length, by rw [if_pos z], Nat.le_refl _⟩
        · exact ⟨place.toNat, by rw [if_neg z]; omega, by omega⟩
      rw [hsp]
      dsimp only
      refine s_asg (v := .int 5) ev_c fun H9 e9 => ?_
      dsimp only
      refine s_ifSet (b := decide ((n / 363) % 2 = 1)) (et_test (Ev.to (ev_eqv (ev_mod (ev_int1 (ev_div (ev_var (v := .int n) rfl) ev_c ⟨by decide, by decide⟩)) ev_c (by decide)) ev_c rfl) (by simp))) (v1 := .int 31) ev_c (.int 5) rfl fun v H10 e10 hv => ?_
      obtain ⟨st, rfl, st0, st1⟩ : ∃ st : Int, v = .int st ∧ -(2 ^ 64) < st ∧ st < 2 ^ 64 := by
        rcases hv with rfl | rfl
        · exact ⟨31, rfl, by decide, by decide⟩
        · exact ⟨5, rfl, by decide, by decide⟩
      obtain ⟨f0, f1⟩ := mod_in (a := n + 3 * (i : Int)) (b := 26) (by decide)
      obtain ⟨cf, cf1, cf2, cf3⟩ := nc_at f0 (by omega)
      have cf4 : cf ∉ digits := nc_first cf (List.mem_of_getElem? (i := ((n + 3 * (i : Int)) % 26).toNat) (by rw [List.getElem?_take_of_lt (by omega)]; exact cf2))
      obtain ⟨g0, g1⟩ := mod_in (a := n + st * (i : Int)) (b := 36) (by decide)
      obtain ⟨cg, cg1, cg2, cg3⟩ := nc_at g0 g1
      obtain ⟨nm1, nm2⟩ := own_name hown hsp2 cf1 cf4 cg1
      have hcut1 : (cutS own none (some (sp : Int))).length ≤ 10 := Nat.le_trans (cutS_length _ _ _) hol
      have hcut2 : (cutS own (some (sp : Int)) none).length ≤ 10 := Nat.le_trans (cutS_length _ _ _) hol
      have hone : ∀ x : Nat, (⟨#[x]⟩ : Str).length = 1 := fun _ => rfl
      have happ : ∀ a b : Str, (a ++ b).length = a.length + b.length := fun a b => by rw [cl_len, cl_app, List.length_append, ← cl_len, ← cl_len]
      have hsz : 100 ≤ sizeLine := by decide
      refine s_asg (ev_addS (ev_ixS (w := ("abcdefghijklmnopqrstuvwxyz0123456789" : Str)) (ev_var rfl) (ev_mod (ev_int1 (ev_add (ev_var (v := .int n) rfl) (ev_mul ev_c (ev_var (v := .int (i : Int)) rfl) (mulL (by decide))))) ev_c (by decide)) hL36 cf3) (ev_slS (w := own) (ev_var rfl) eo_none (eo_some (ev_var (v := .int (sp : Int)) rfl)) (Nat.le_trans hol (by decide))) (by rw [hone]; omega)) fun H11 e11 => ?_
      have eall : Ex H6 H11 := e7.trans (e8.trans (e9.trans (e10.trans e11)))
      dsimp only
      refine s_appE (d := .str ((⟨#[cf]⟩ : Str) ++ cutS own none (some (sp : Int)) ++ ⟨#[cg]⟩ ++ cutS own (some (sp : Int)) none)) hp0 (e6.trans eall) (hL6.ex eall) (imm_strs _) (imm_str _) (ev_var rfl) (Ev.dS (ev_addS (ev_addS (ev_var rfl) (ev_ixS (w := ("abcdefghijklmnopqrstuvwxyz0123456789" : Str)) (ev_var rfl) (ev_mod (ev_int1 (ev_add (ev_var (v := .int n) rfl) (ev_mul (ev_var (v := .int st) rfl) (ev_var (v := .int (i : Int)) rfl) (mulL ⟨st0, st1⟩)))) ev_c (by decide)) hL36 cg3) (by rw [happ, hone, hone]; omega)) (ev_slS (w := own) (ev_var rfl) (eo_some (ev_var (v := .int (sp : Int)) rfl)) eo_none (Nat.le_trans hol (by decide))) (by rw [happ, happ, hone, hone]; omega))) (by rw [List.length_map]; omega) fun H12 e12 hL12 => ⟨e12, _, _, _, _, _, l ++ [_], rfl, by rw [List.length_append, hlen]; rfl, fun z hz => ?_, fun j z hz => ?_, by rw [List.map_append]; exact hL12⟩
      · rcases List.mem_append.mp hz with hz | hz
        · exact hok z hz
        · rw [List.mem_singleton.mp hz]
          exact nm1
      · by_cases hj : j < l.length
        · rw [List.getElem?_append_left hj] at hz
          exact hfst j z hz
        · have hj2 : j = l.length := by
            have := (List.getElem?_eq_some_iff.mp hz).1
            rw [List.length_append] at this
            simp at this
            omega
          rw [hj2, List.getElem?_append_right (Nat.le_refl _), Nat.sub_self] at hz
          cases hz
          rw [nm2, hj2, hlen, cf2]
          rfl
    · obtain ⟨e, a5, a8, a9, a10, a11, l, rfl, hlen, hok, hfst, xs, hx1, hx2⟩ := k
      dsimp only
      exact s_ret (ev_var rfl) fun H6 e6 => q _ H6 (e.trans e6) ⟨l, ⟨hlen, hok, names_nd (by omega) hfst⟩, p, xs, rfl, hp0, e6 _ _ hx1, hx2.ex e6⟩
end

section
variable {P : Program} {w : World} {K : PySem.W.Frag} {mg : Str → Option Value} {base : Heap}
theorem ok_law_some (T : Tx K mg) : FnOk P w K mg base CX0 1 T.law_some.a T.law_some.fd P_law_some (spx_law_some K) := by
  refine (T.law_some.F).ok sc_law_some (fun vs H Q E h => ?_) (fun cdv A outer s H vs Q E hr h => ?_)
  · obtain ⟨a, _, hA, _⟩ := h
    exact hA.len
  · have hu := hu_of hr
    refine ⟨_, (pss_one (ps_ret (pe_lc (own := [("_law_k", 4)]) rfl sc_law_some.nd (pi_range1 (by rfl) T.u_range (pa_cons (pe_callB (call_lenK (K := K) rfl) (by rfl) T.u_len PySem.boot_len (pa_cons (pe_ix (ix_listK (K := K) rfl) (pv 2) pe_int (fun _ _ => rfl)) pa_nil)) pa_nil)) (blkOk_by (own := [("_law_k", 4)]) (N := N_law_some) (sc := (defScope s_law_some)) (by decide +kernel)) (fun _ _ _ _ _ => (pg_name (i := 4) sc_law_some.nd rfl (by first | exact Or.inl rfl | exact Or.inr rfl))) (fun _ _ _ _ _ => (pts_one (pt_cmpR (op_eq) (pe_op op_mod (pe_callTy call_int1' (by rfl) T.u_int (by decide +kernel) (pa_cons (pe_ix (ix_listK (K := K) rfl) (pv 0) (pe_op op_add (pv 1) (pv 4)) (fun _ _ => rfl)) pa_nil)) (pv 3)) pe_int (nomark _)))) (fun _ _ _ _ _ => (pe_ix (ix_tupK (K := K) rfl) (pe_ix (ix_listK (K := K) rfl) (pv 2) pe_int (fun _ _ => rfl)) (pv 4) (fun _ _ => rfl)))))), ?_⟩
    obtain ⟨⟨ns, pos, P, step⟩, ⟨hN, g0, g1, hP, g4⟩, hA, q⟩ := h
    obtain ⟨v1, v2, v3, v4, rfl, h1, h2, h3, h4⟩ := four_inv hA
    dsimp only at hN g0 g1 hP g4
    cases h2.int_inv
    cases h4.int_inv
    have h1 : Dp K H v1 (.list (dInts ns)) := h1
    have h3 : Dp K H v3 (dParts P) := h3
    have p2 := hP.p2
    have hnum : ∀ i : Nat, i < P.ps.length → ∃ n, L2.atI (dInts ns) (pos + (i : Int)) = some (.int n) := fun i hi => by
      obtain ⟨n, _, _, h⟩ := num_at hN (i := pos + (i : Int)) (by omega) (by omega)
      exact ⟨n, h⟩
    let f : Nat → Bool := fun i => match L2.atI (dInts ns) (pos + (i : Int)) with
      | some (.int n) => decide (n % step = 0)
      | _ => false
    let val : Nat → PyData := fun i => ((P.ps.map PyData.str)[i]?).getD .none
    have hf : ∀ (i : Nat) (n : Int), L2.atI (dInts ns) (pos + (i : Int)) = some (.int n) → f i = decide (n % step = 0) := fun i n h => by simp only [f, h]
    have hval : ∀ (i : Nat) (z : Str), P.ps[i]? = some z → val i = .str z := fun i z h => by show ((P.ps.map PyData.str)[i]?).getD .none = _; rw [List.getElem?_map, h]; rfl
    refine s_retF (K := K) (evf_lcR (n := (P.ps.length : Int)) gm_name f val (ea_cons (ev_lenP (evd_p1 rfl h3)) ea_nil) (by omega) (by omega) (fun i hi _ => ?_) fun i H2 hi ex => ⟨Ex.refl _, rfl, ?_, fun _ => ?_⟩) fun p xs H1 hp e h3 h4 => ?_
    · obtain ⟨z, hz, _⟩ := get_lt (l := P.ps) (i := i) (by omega)
      rw [hval i z hz]
      exact imm_str z
    · obtain ⟨n, hn⟩ := hnum i (by omega)
      rw [hf i n hn]
      exact et_test (Ev.to (ev_eqv (ev_mod (ev_int1 (ev_num rfl (h1.ex ex) (ev_add (ev_var rfl) (ev_var rfl)) hn)) (ev_var rfl) g4) ev_c rfl) (by simp))
    · obtain ⟨z, hz, _⟩ := get_lt (l := P.ps) (i := i) (by omega)
      rw [hval i z hz]
      refine evd_ixT (evd_p1 rfl (h3.ex ex)) (ev_var (v := .int (i : Int)) rfl) (atI_of (Int.natCast_nonneg _) ?_)
      rw [Int.toNat_natCast, List.getElem?_map, hz]
      rfl
    · rw [Int.toNat_natCast] at h4
      have key : ∀ l : List Nat, (∀ i ∈ l, i < P.ps.length) → ∃ goals : List Str, l.map val = goals.map .str ∧ (∀ g ∈ goals, g ∈ P.ps) := by
        intro l
        induction l with
        | nil => intro _; exact ⟨[], rfl, fun _ h => by cases h⟩
        | cons i l ih =>
          intro h
          obtain ⟨gs, e1, e2⟩ := ih fun j hj => h j (List.mem_cons_of_mem _ hj)
          obtain ⟨z, hz, hm⟩ := get_lt (l := P.ps) (i := i) (h i List.mem_cons_self)
          refine ⟨z :: gs, by rw [List.map_cons, List.map_cons, e1, hval i z hz], fun g hg => ?_⟩
          rcases List.mem_cons.mp hg with hg | hg
          · rw [hg]; exact hm
          · exact e2 g hg
      obtain ⟨goals, e1, e2⟩ := key ((List.range P.ps.length).filter f) fun i hi => List.mem_range.mp (List.mem_filter.mp hi).1
      have hlen : goals.length ≤ 7 := by
        have a1 := givD_len P.ps.length f val
        unfold givD at a1
        rw [e1, List.length_map] at a1
        omega
      refine q _ H1 e ⟨goals, e2, hlen, p, xs, rfl, hp, h3, ?_⟩
      unfold givD at h4
      rw [e1] at h4
      exact h4
end

section
variable {P : Program} {w : World} {K : PySem.W.Frag} {mg : Str → Option Value} {base : Heap}
theorem ok_law_told (T : Tx K mg) : FnOk P w K mg base CX0 1 T.law_told.a T.law_told.fd P_law_told (spx_law_told K) := by
  refine (T.law_told.F).ok sc_law_told (fun vs H Q E h => ?_) (fun cdv A outer s H vs Q E hr h => ?_)
  · obtain ⟨a, _, ⟨vl, p, rfl, _⟩, _⟩ := h
    rfl
  · have hu := hu_of hr
    refine ⟨_, (pss_one (ps_ret (pe_lc (own := [("_law_place", 2)]) rfl sc_law_told.nd (pi_tupK (K := K) rfl (pe_ix (ix_listK (K := K) rfl) (pv 0) pe_int (fun _ _ => rfl))) (blkOk_by (own := [("_law_place", 2)]) (N := N_law_told) (sc := (defScope s_law_told)) (by decide +kernel)) (fun _ _ _ _ _ => (pg_name (i := 2) sc_law_told.nd rfl (by first | exact Or.inl rfl | exact Or.inr rfl))) (fun _ _ _ _ _ => pts_nil) (fun _ _ _ _ _ => (pe_tup (pa_cons (pv 2) (pa_cons (pe_dget1 hu (pv 1) (pv 2) ⟨rfl, rfl, rfl, rfl⟩) pa_nil))))))), ?_⟩
    obtain ⟨⟨P, f⟩, hP, ⟨vp, p, rfl, hp, hf⟩, q⟩ := h
    have hP : P.ps.length ≤ 7 := hP
    refine s_retF (evf_aT (l := P.ps) (enc := .str) (gv := fun p => .tuple [.str p, dO (dget f p)]) gm_name (evd_ixL (d := .tuple (P.ps.map .str)) (evd_var rfl hp) ev_c (atI_of (by decide) rfl)) (by omega) (fun l _ => by simp [imm, immAll, imm_dO])
      fun i z x H2 hi ex hx => ⟨Ex.refl _, rfl, evd_tup (ed_cons (evd_var rfl hx) (ed1 (evd_dget1 (ev_var rfl) (EvD.str (evd_var rfl hx)) (ex _ _ hf)))) (by simp)⟩) fun p xs H1 hp e h3 h4 => q _ H1 e ⟨p, xs, rfl, hp, h3, h4⟩
end

theorem btw_ok {p : Int × Int} {n : Int} (hp : p.1 ≤ p.2) : btw (some p) (some (p.1 + n % (p.2 - p.1 + 1), p.1 + n % (p.2 - p.1 + 1))) := by
  obtain ⟨a, b⟩ := mod_in (a := n) (b := p.2 - p.1 + 1) (by omega)
  exact .inr ⟨p, _, rfl, rfl, by omega, by omega⟩
section
variable {P : Program} {w : World} {K : PySem.W.Frag} {mg : Str → Option Value} {base : Heap}
theorem ok_law_between (T : Tx K mg) : FnOk P w K mg base CX0 1 T.law_between.a T.law_between.fd P_law_between (spx_law_between K) := by
  refine (T.law_between.F).ok sc_law_between (fun vs H Q E h => ?_) (fun cdv A outer s H vs Q E hr h => ?_)
  · obtain ⟨a, _, ⟨v1, v2, vp, rfl, _⟩, _⟩ := h
    rfl
  · have hu := hu_of hr
    refine ⟨_, (pss_cons (ps_set (i := 3) sc_law_between.nd rfl (by first | exact Or.inl rfl | exact Or.inr rfl) (pe_lst pa_nil))
      (pss_cons (ps_for PassesOwn.never rfl (pi_range1 (by rfl) T.u_range (pa_cons (pe_callB (call_lenK (K := K) rfl) (by rfl) T.u_len PySem.boot_len (pa_cons (pe_ix (ix_listK (K := K) rfl) (pv 2) pe_int (fun _ _ => rfl)) pa_nil)) pa_nil)) (pg_name (i := 4) sc_law_between.nd rfl (by first | exact Or.inl rfl | exact Or.inr rfl))
      (pss_cons (ps_asg (pe_ix (ix_tupK (K := K) rfl) (pe_ix (ix_listK (K := K) rfl) (pv 2) pe_int (fun _ _ => rfl)) (pv 4) (fun _ _ => rfl)) (pg_tupK (K := K) (n := 4) rfl rfl (pgs_cons (pg_name (i := 5) sc_law_between.nd rfl (by first | exact Or.inl rfl | exact Or.inr rfl)) (pgs_cons (pg_name (i := 6) sc_law_between.nd rfl (by first | exact Or.inl rfl | exact Or.inr rfl)) (pgs_cons (pg_name (i := 7) sc_law_between.nd rfl (by first | exact Or.inl rfl | exact Or.inr rfl)) (pgs_cons (pg_name (i := 8) sc_law_between.nd rfl (by first | exact Or.inl rfl | exact Or.inr rfl)) pgs_nil))))))
      (pss_cons (ps_set (i := 9) sc_law_between.nd rfl (by first | exact Or.inl rfl | exact Or.inr rfl) (pe_lst pa_nil))
      (pss_cons (ps_for PassesOwn.never rfl (pi_range1 (by rfl) T.u_range (pa_cons (pe_callB (call_lenK (K := K) rfl) (by rfl) T.u_len PySem.boot_len (pa_cons (pv 8) pa_nil)) pa_nil)) (pg_name (i := 10) sc_law_between.nd rfl (by first | exact Or.inl rfl | exact Or.inr rfl))
      (pss_one (ps_if (pt_cmpR (op_isN') (pe_ix (ix_tupK (K := K) rfl) (pv 8) (pv 10) (fun _ _ => rfl)) pe_non (nomark _)) (pss_one (ps_expr (pe_bm PySem.F.plainAttrs_list PySem.F.slot_list_append PySem.F.type_list_append mt_append (pv 9) (pa_cons pe_non pa_nil))))
      (pss_cons (ps_set (i := 11) sc_law_between.nd rfl (by first | exact Or.inl rfl | exact Or.inr rfl) (pe_op op_add (pe_ix (ix_tupK (K := K) rfl) (pe_ix (ix_tupK (K := K) rfl) (pv 8) (pv 10) (fun _ _ => rfl)) pe_int (fun _ _ => rfl)) (pe_op op_mod (pe_callTy call_int1' (by rfl) T.u_int (by decide +kernel) (pa_cons (pe_ix (ix_listK (K := K) rfl) (pv 0) (pe_op op_add (pe_op op_add (pv 1) (pe_op op_mul pe_int (pv 4))) (pv 10)) (fun _ _ => rfl)) pa_nil)) (pe_op op_add (pe_op op_sub (pe_ix (ix_tupK (K := K) rfl) (pe_ix (ix_tupK (K := K) rfl) (pv 8) (pv 10) (fun _ _ => rfl)) pe_int (fun _ _ => rfl)) (pe_ix (ix_tupK (K := K) rfl) (pe_ix (ix_tupK (K := K) rfl) (pv 8) (pv 10) (fun _ _ => rfl)) pe_int (fun _ _ => rfl))) pe_int))))
      (pss_one (ps_expr (pe_bm PySem.F.plainAttrs_list PySem.F.slot_list_append PySem.F.type_list_append mt_append (pv 9) (pa_cons (pe_tup (pa_cons (pv 11) (pa_cons (pv 11) pa_nil))) pa_nil))))))))
      (pss_one (ps_expr (pe_bm PySem.F.plainAttrs_list PySem.F.slot_list_append PySem.F.type_list_append mt_append (pv 3) (pa_cons (pe_tup (pa_cons (pv 5) (pa_cons (pv 6) (pa_cons (pv 7) (pa_cons (pe_callTy (call_tupOfK (K := K) rfl) (by rfl) T.u_tuple (by decide +kernel) (pa_cons (pv 9) pa_nil)) pa_nil))))) pa_nil))))))))
      (pss_one (ps_ret (pe_lst (pa_cons (pe_ix (ix_listK (K := K) rfl) (pv 2) pe_int (fun _ _ => rfl)) (pa_cons (pe_ix (ix_listK (K := K) rfl) (pv 2) pe_int (fun _ _ => rfl)) (pa_cons (pe_callTy (call_tupOfK (K := K) rfl) (by rfl) T.u_tuple (by decide +kernel) (pa_cons (pv 3) pa_nil)) (pa_cons (pe_ix (ix_listK (K := K) rfl) (pv 2) pe_int (fun _ _ => rfl)) pa_nil))))))))), ?_⟩
    obtain ⟨⟨ns, P⟩, ⟨hN, hP⟩, ⟨v1, v2, vp, rfl, hA, hp⟩, q⟩ := h
    obtain ⟨u1, u2, eu, h1, h2⟩ := two_inv hA
    cases eu
    dsimp only at hN hP hp
    cases h2.int_inv
    have h1 : Dp K H v1 (.list (dInts ns)) := h1
    have w4 := hP.w4
    have l2 := hP.l2
    have hd := hp.dp
    refine s_asgF (K := K) (evf_lst (ds := []) ed_nil (by simp)) fun p xs H2 hpn e2 hx ha => ?_
    cases ha
    dsimp only
    refine s_forR1 (n := (P.ls.length : Int)) (ea_cons (ev_is (ev_lenT (evd_p2 rfl (hd.ex e2))) (by rw [List.length_map])) ea_nil) (by omega) (fun i σ' H' => Ex H H' ∧ ∃ (a4 a5 a6 a7 a8 a9 a10 a11 : Option V) (ls2 : List Lk), σ' = [some v1, some (.int 145), some vp, some (.ref p), a4, a5, a6, a7, a8, a9, a10, a11] ∧ ls2.length = i ∧ (∀ (j : Nat) l m, P.ls[j]? = some l → ls2[j]? = some m → BLk l m) ∧ LAt K H' p (ls2.map dL)) (fun H5 e5 => ⟨e2.trans e5, _, _, _, _, _, _, _, _, [], rfl, rfl, (fun j l m _ h => by cases h), ⟨[], e5 _ _ hx, .nil⟩⟩) (fun i σ' H' hlt k => ?_) fun σ' H' k => ?_
    · obtain ⟨e, a4, a5, a6, a7, a8, a9, a10, a11, ls2, rfl, hlen, hok, hL⟩ := k
      have hil : i < P.ls.length := by omega
      obtain ⟨l, hl, hlm⟩ := get_lt hil
      have hlk := hP.ln l hlm
      have hat : L2.atI (P.ls.map dL) (i : Int) = some (dL l) := atI_of (Int.natCast_nonneg _) (by rw [Int.toNat_natCast, List.getElem?_map, hl]; rfl)
      dsimp only
      refine (evd_ixT (evd_p2 rfl (hd.ex e)) (ev_var (v := .int (i : Int)) rfl) hat) H' (Ex.refl _) _ fun vl H3 e3 hvl => g_four (d1 := .str l.nm) (d2 := .str l.one) (d3 := .str l.oth) (d4 := .tuple (l.ts.map dP)) hvl fun b1 b2 b3 b4 hb1 hb2 hb3 hb4 => ?_
      dsimp only
      refine s_asgF (K := K) (evf_lst (ds := []) ed_nil (by simp)) fun p2 xs2 H4 hp2n e4 hx2 ha2 => ?_
      cases ha2
      have e34 := e3.trans e4
      have hne : p ≠ p2 := fun z => by
        obtain ⟨y, hy, _⟩ := hL.ex e3
        rw [← z, hy] at hp2n
        cases hp2n
      have hp20 : H p2 = none := fresh_back (e.trans e3) hp2n
      obtain ⟨yl, hyl, hydl⟩ := hL.ex e34
      dsimp only
      refine s_forR1 (n := (l.ts.length : Int)) (ea_cons (ev_is (ev_lenT (evd_var rfl (hb4.ex e4))) (by rw [List.length_map])) ea_nil) ⟨by omega, by have := hlk.len; omega⟩ (fun j σ' H' => Ex H H' ∧ (∀ b o, b ≠ p2 → H4 b = some o → H' b = some o) ∧ ∃ (a10 a11 : Option V) (ts2 : List (Option (Int × Int))), σ' = [some v1, some (.int 145), some vp, some (.ref p), some (.int (i : Int)), some b1, some b2, some b3, some b4, some (.ref p2), a10, a11] ∧ ts2.length = j ∧ (∀ (k : Nat) r t, l.ts[k]? = some r → ts2[k]? = some t → btw r t) ∧ LAt K H' p2 (ts2.map dP)) (fun H5 e5 => ⟨(e.trans e34).trans e5, fun b o _ h => e5 b o h, _, _, [], rfl, rfl, (fun j l m _ h => by cases h), ⟨[], e5 _ _ hx2, .nil⟩⟩) (fun j σ' H' hlt k => ?_) fun σ' H' k => ?_
      · obtain ⟨e, bt, c10, c11, ts2, rfl, hlen2, hok2, hL2⟩ := k
        have hjl : j < l.ts.length := by omega
        have hj3 : j < 3 := by have := hlk.len; omega
        obtain ⟨r, hr, hrm⟩ := get_lt hjl
        have kt : Kt H4 H' := But.kt (l := p2) bt hx2 rfl
        have hb4' : Dp K H' b4 (.tuple (l.ts.map dP)) := (hb4.ex e4).kt kt (by simp [imm, immAll_map imm_dP])
        have hat2 : L2.atI (l.ts.map dP) (j : Int) = some (dP r) := atI_of (Int.natCast_nonneg _) (by rw [Int.toNat_natCast, List.getElem?_map, hr]; rfl)
        have htl : (ts2.map dP).length < 100000 := by rw [List.length_map]; omega
        have hadd : ∀ t, btw r t → ∀ (k : Nat) r' t', l.ts[k]? = some r' → (ts2 ++ [t])[k]? = some t' → btw r' t' := fun t hb k r' t' g1 g2 => by
          by_cases hk : k < ts2.length
          · rw [List.getElem?_append_left hk] at g2
            exact hok2 k r' t' g1 g2
          · have hk2 : k = ts2.length := by
              have := (List.getElem?_eq_some_iff.mp g2).1
              rw [List.length_append] at this
              simp at this
              omega
            rw [hk2, hlen2, hr] at g1
            cases g1
            rw [hk2, List.getElem?_append_right (Nat.le_refl _), Nat.sub_self] at g2
            cases g2
            exact hb
        dsimp only
        cases r with
        | none =>
          refine s_if (et_test (evd_isN (evd_ixT (evd_var rfl hb4') (ev_var (v := .int (j : Int)) rfl) hat2))) (fun _ H5 e5 => ?_) (fun hb => by cases hb)
          refine s_app' (hL2.ex e5) (immAll_map imm_dP _) (imm_dP none) (ev_var rfl) (Ev.dN ev_c) htl fun H6 w H7 e6 _ eq hL7 _ => ?_
          refine ⟨by rw [eq]; exact ((e.trans e5).trans e6).mut hp20, fun b o hb h => by rw [eq, upd_ne hb]; exact e6 _ _ (e5 _ _ (bt b o hb h)), _, _, ts2 ++ [none], rfl, by rw [List.length_append, hlen2]; rfl, hadd none (.inl ⟨rfl, rfl⟩), ?_⟩
          rw [List.map_append]
          exact hL7
        | some r =>
          obtain ⟨q1, q2, q3⟩ := hlk.ok _ hrm r rfl
          obtain ⟨n, _, _, hn⟩ := num_at hN (i := 145 + 3 * (i : Int) + (j : Int)) (by omega) (by omega)
          refine s_if (et_test (evd_isN (evd_ixT (evd_var rfl hb4') (ev_var (v := .int (j : Int)) rfl) hat2))) (fun hb => by cases hb) (fun _ H5 e5 => ?_)
          have hb45 := hb4'.ex e5
          have lo : ∀ (σn : L2.St), σn[8]? = some (some b4) → σn[10]? = some (some (.int (j : Int))) → Ev (tOp (rIxT K) (tOp (rIxT K) (tVar 8) (tVar 10)) (tC (.int 0))) σn H5 (.int r.1) := fun σn z1 z2 => EvD.int (evd_ixT (ds := [.int r.1, .int r.2]) (evd_ixT (d := dP (some r)) (evd_var z1 hb45) (ev_var z2) hat2) ev_c (atI_of (by decide) rfl))
          have hi : ∀ (σn : L2.St), σn[8]? = some (some b4) → σn[10]? = some (some (.int (j : Int))) → Ev (tOp (rIxT K) (tOp (rIxT K) (tVar 8) (tVar 10)) (tC (.int 1))) σn H5 (.int r.2) := fun σn z1 z2 => EvD.int (evd_ixT (ds := [.int r.1, .int r.2]) (evd_ixT (d := dP (some r)) (evd_var z1 hb45) (ev_var z2) hat2) ev_c (atI_of (by decide) rfl))
          show tSeq _ _ _ _ _
          refine s_asg (v := .int (r.1 + n % (r.2 - r.1 + 1))) (ev_add (lo _ rfl rfl) (ev_mod (ev_int1 (ev_num rfl (h1.ex (e.trans e5)) (ev_add (ev_add (ev_var (v := .int 145) rfl) (ev_mul ev_c (ev_var rfl) (mulL (by decide)))) (ev_var rfl)) hn)) (ev_add (ev_sub (hi _ rfl rfl) (lo _ rfl rfl)) ev_c) (by omega))) fun H6 e6 => ?_
          generalize hm : r.1 + n % (r.2 - r.1 + 1) = m
          dsimp only
          refine s_app' (d := dP (some (m, m))) ((hL2.ex e5).ex e6) (immAll_map imm_dP _) (imm_dP _) (ev_var rfl) (evd_tup (ed_cons (Ev.dI (ev_var rfl)) (ed1 (Ev.dI (ev_var rfl)))) (by simp)) htl fun H7 w H8 e7 _ eq hL8 _ => ?_
          refine ⟨by rw [eq]; exact (((e.trans e5).trans e6).trans e7).mut hp20, fun b o hb h => by rw [eq, upd_ne hb]; exact e7 _ _ (e6 _ _ (e5 _ _ (bt b o hb h))), _, _, ts2 ++ [some (m, m)], rfl, by rw [List.length_append, hlen2]; rfl, hadd _ (by rw [← hm]; exact btw_ok q2), ?_⟩
          rw [List.map_append]
          exact hL8
      · obtain ⟨e, bt, c10, c11, ts2, rfl, hlen2, hok2, hL2⟩ := k
        have kt : Kt H4 H' := But.kt (l := p2) bt hx2 rfl
        have hLp : LAt K H' p (ls2.map dL) := ⟨yl, bt _ _ hne hyl, hydl.kt kt (immAll_map imm_dL _)⟩
        dsimp only
        refine s_appE (d := dL ⟨l.nm, l.one, l.oth, ts2⟩) hpn e hLp (immAll_map imm_dL _) (imm_dL _) (ev_var rfl) (evd_tup (ed_cons (d := .str l.nm) (evd_var rfl ((hb1.ex e4).kt kt rfl)) (ed_cons (d := .str l.one) (evd_var rfl ((hb2.ex e4).kt kt rfl)) (ed_cons (d := .str l.oth) (evd_var rfl ((hb3.ex e4).kt kt rfl)) (ed1 (d := .tuple (ts2.map dP)) (evd_tupL (evd_var rfl hL2.toD)))))) (by simp)) (by rw [List.length_map]; omega) fun H6 e6 hL6 => ⟨e6, _, _, _, _, _, _, _, _, ls2 ++ [⟨l.nm, l.one, l.oth, ts2⟩], rfl, by rw [List.length_append, hlen]; rfl, fun k l' m' g1 g2 => ?_, ?_⟩
        · by_cases hk : k < ls2.length
          · rw [List.getElem?_append_left hk] at g2
            exact hok k l' m' g1 g2
          · have hk2 : k = ls2.length := by
              have := (List.getElem?_eq_some_iff.mp g2).1
              rw [List.length_append] at this
              simp at this
              omega
            rw [hk2, hlen, hl] at g1
            cases g1
            rw [hk2, List.getElem?_append_right (Nat.le_refl _), Nat.sub_self] at g2
            cases g2
            rw [Int.toNat_natCast] at hlen2
            exact ⟨rfl, rfl, hlen2, hok2⟩
        · rw [List.map_append]
          exact hL6
    · obtain ⟨e, a4, a5, a6, a7, a8, a9, a10, a11, ls2, rfl, hlen, hok, hL⟩ := k
      rw [Int.toNat_natCast] at hlen
      obtain ⟨ap, xp, bp, rfl, hq, hxp, h0, hz⟩ := hp
      obtain ⟨z1, z2, z3, z4, rfl, k1, k2, k3, k4⟩ := four_inv hxp
      cases h0
      have e' := e
      dsimp only
      refine ⟨_, rfl, ap, _, 0, .ref bp, rfl, rfl, ex_l e hq, atI_of (by decide) rfl, ?_⟩
      refine ⟨_, rfl, ap, _, 1, z2, rfl, rfl, ex_l e hq, atI_of (by decide) rfl, ?_⟩
      refine evd_tupL (K := K) (ds := ls2.map dL) (evd_var (i := 3) rfl hL.toD) H' (Ex.refl _) _ fun vt H6 e6 hvt => ?_
      refine ⟨_, rfl, ap, _, 3, z4, rfl, rfl, ex_l (e.trans e6) hq, atI_of (by decide) rfl, ?_⟩
      refine ⟨by show 4 ≤ sizeLine; decide, fun pr hpr => ?_⟩
      have ef : Ex H (upd H6 pr (.lst [.ref bp, z2, vt, z4])) := (e.trans e6).trans (Ex.new hpr)
      exact q _ _ ef ⟨⟨P.ws, P.ps, ls2, P.pt⟩, ⟨rfl, rfl, hlen, hok⟩, pr, [.ref bp, z2, vt, z4], bp, rfl, SqL.of upd_same, .cons (k1.ex ef) (.cons (k2.ex ef) (.cons (hvt.ex (Ex.new hpr)) (.cons (k4.ex ef) .nil))), rfl, hz.ex ef⟩
end

abbrev sp_rows (K : PySem.W.Frag) (C : Addr) : Sp := spG (fun a : Parts × List Str => ∀ g ∈ a.2, g ∈ a.1.ps) (fun a => aL K C a.1 [.tuple [dStrs a.2]]) fun _ => pD K .none
section
variable {P : Program} {w : World} {K : PySem.W.Frag} {mg : Str → Option Value} {base : Heap}
theorem ok_check_places (T : Tx K mg) : FnR P w K mg base CX0 2 T.check_places.a (spx_check_places K T.C) := by
  refine FnR.imp (?_ : FnR P w K mg base CX0 2 T.check_places.a (fun vs H Q E => ∃ ws rest, vs = ws ++ rest ∧ ws.length = ["land"].length ∧ rest.length ≤ sizeLine ∧ ∀ p, H p = Option.none → sp_rows K T.C (ws ++ [V.ref p]) (upd H p (.tup rest)) Q E)) ?_
  · obtain ⟨oc, od, kV, doc, pm, an, cdv, ct, osl, hfd, lk, hcd⟩ := T.check_places.F.ex
    rw [hfd] at lk
    refine StX.fn_star lk hcd sc_check_places StX.cxUp_none (StX.bind_star1 (B := fun us => bindArgs (PySem.W.fnOf "check_places" "check_places" (defArgs s_check_places) (defBody s_check_places) (defScope s_check_places) .none kV doc pm an cdv ct) ⟨us, []⟩) (p1 := "land") (pv := "rows") (fun a => by rfl) (fun a r rs => by rfl)) fun A outer s H vs Q E hr h => ?_
    have hu := hu_of hr
    refine ⟨_, PSs.nox (pss_one (ps_for PassesOwn.never rfl (pi_tupK (K := K) rfl (pv 1)) (pg_name (i := 2) sc_check_places.nd rfl (by first | exact Or.inl rfl | exact Or.inr rfl))
      (pss_one (ps_for PassesOwn.never rfl (pi_listK (K := K) rfl (pv 2)) (pg_name (i := 3) sc_check_places.nd rfl (by first | exact Or.inl rfl | exact Or.inr rfl))
      (pss_one (ps_expr (pe_meth (pv 0) T.cl T.m_check_place (ok_Land_check_place T) (hr.mono (by decide)) T.Land_check_place.b .nil pass0 (pa_cons (pv 3) pa_nil)))))))), ?_⟩
    obtain ⟨⟨P, g⟩, hg, ⟨vl, rest, rfl, hl, hA⟩, q⟩ := h
    obtain ⟨v1, rfl, h1⟩ := one_inv hA
    have h1 : Dp K H v1 (.tuple [dStrs g]) := h1
    have hg : ∀ z ∈ g, z ∈ P.ps := hg
    refine s_lpT (l := [g]) (enc := dStrs) h1 (q_var rfl) (fun i σ' H' => Ex H H' ∧ σ'[0]? = some (some vl) ∧ σ'.length = 4) ⟨Ex.refl _, rfl, rfl⟩ (fun _ _ _ p => p.1) (fun i r x σ' H' hi p hx => ?_) fun σ' H' p => q .non H' p.1 .non
    obtain ⟨e, s0, sl⟩ := p
    match σ', sl with
    | [a0, a1, a2, a3], _ =>
      cases s0
      have er : r = g := by
        have := List.mem_of_getElem? hi
        rw [List.mem_singleton] at this
        exact this
      subst er
      refine s_lpL (H0 := H') (l := r) (enc := .str) imm_str hx (q_var rfl) (fun i σ'' H'' => Ex H' H'' ∧ σ''[0]? = some (some vl) ∧ σ''.length = 4) ⟨Ex.refl _, rfl, rfl⟩ (fun _ _ _ p => p.1) (fun j z y σ'' H'' hj p hy => ?_) fun σ'' H'' p => ⟨e.trans p.1, p.2.1, p.2.2⟩
      obtain ⟨e2, s0, sl⟩ := p
      match σ'', sl with
      | [b0, b1, b2, b3], _ =>
        cases s0
        exact s_dropD (evd_meth (a := (P, z)) rfl (LAtt.ex hl (e.trans e2)) (by decide) (hg z (List.mem_of_getElem? hj)) (ed1 (evd_var rfl hy)) rfl rfl) fun H1 e1 => ⟨e2.trans e1, rfl, rfl⟩
  · intro vs H Q E ⟨⟨P, g⟩, hg, ⟨vl, rest, ev, hl, hA⟩, q⟩
    obtain ⟨v1, rfl, h1⟩ := one_inv hA
    subst ev
    refine ⟨[vl], [v1], rfl, rfl, by show 1 ≤ sizeLine; decide, fun p hp => ⟨(P, g), hg, ⟨vl, [.ref p], rfl, hl.ex (Ex.new hp), .one (.tup (st_of upd_same) (.one (h1.ex (Ex.new hp))))⟩, fun v H' e hv => q v H' ((Ex.new hp).trans e) hv⟩⟩
end

section
variable {P : Program} {w : World} {K : PySem.W.Frag} {mg : Str → Option Value} {base : Heap}
theorem ok_check_winds (T : Tx K mg) : FnOk P w K mg base CX0 2 T.check_winds.a T.check_winds.fd P_check_winds (spx_check_winds K T.C) := by
  refine (T.check_winds.F).ok sc_check_winds (fun vs H Q E h => ?_) (fun cdv A outer s H vs Q E hr h => ?_)
  · obtain ⟨a, _, hA, _⟩ := h
    exact aL_len hA
  · have hu := hu_of hr
    refine ⟨_, (pss_one (ps_for PassesOwn.never rfl (pi_listK (K := K) rfl (pv 1)) (pg_tupK (K := K) (n := 2) rfl rfl (pgs_cons (pg_name (i := 2) sc_check_winds.nd rfl (by first | exact Or.inl rfl | exact Or.inr rfl)) (pgs_cons (pg_name (i := 3) sc_check_winds.nd rfl (by first | exact Or.inl rfl | exact Or.inr rfl)) pgs_nil)))
      (pss_one (ps_expr (pe_meth (pv 0) T.cl T.m_check_wind (ok_Land_check_wind T) (hr.mono (by decide)) T.Land_check_wind.b .nil pass0 (pa_cons (pv 3) pa_nil)))))), ?_⟩
    obtain ⟨⟨P, l⟩, hp, ⟨vl, rest, rfl, hl, hA⟩, q⟩ := h
    obtain ⟨v1, rfl, h1⟩ := one_inv hA
    refine s_lpL (l := l) (enc := dW) imm_dW h1 (q_var rfl) (fun i σ' H' => Ex H H' ∧ σ'[0]? = some (some vl) ∧ σ'[1]? = some (some v1) ∧ σ'.length = 4) ⟨Ex.refl _, rfl, rfl, rfl⟩ (fun _ _ _ p => p.1)
      (fun i r x σ' H' hi p hx => g_pair hx fun a b ha hb => ?_) fun σ' H' p => q .non H' p.1 .non
    obtain ⟨e, s0, s1, sl⟩ := p
    match σ', sl with
    | [a0, a1, a2, a3], _ =>
      cases s0
      exact s_dropD (evd_meth (a := (P, r.2)) rfl (LAtt.ex hl e) (by decide) (hp r (List.mem_of_getElem? hi)) (ed1 (evd_var rfl hb)) rfl rfl) fun H1 e1 => ⟨e.trans e1, rfl, s1, rfl⟩
end

section
variable {P : Program} {w : World} {K : PySem.W.Frag} {mg : Str → Option Value} {base : Heap}
theorem ok_check_numbers (T : Tx K mg) : FnOk P w K mg base CX0 2 T.check_numbers.a T.check_numbers.fd P_check_numbers (spx_check_numbers K T.C) := by
  refine (T.check_numbers.F).ok sc_check_numbers (fun vs H Q E h => ?_) (fun cdv A outer s H vs Q E hr h => ?_)
  · obtain ⟨a, _, hA, _⟩ := h
    exact aL_len hA
  · have hu := hu_of hr
    refine ⟨_, (pss_cons (ps_if (pt_cmpR (op_ne) (pe_callB (call_lenK (K := K) rfl) (by rfl) T.u_len PySem.boot_len (pa_cons (pv 1) pa_nil)) (pe_callB (call_lenK (K := K) rfl) (by rfl) T.u_len PySem.boot_len (pa_cons (pe_fldK (K := K) rfl (pv 0) rfl) pa_nil)) (nomark _)) (pss_one ps_never)
      pss_nil)
      (pss_one (ps_for PassesOwn.never rfl (RZ.pi_zipA (by rfl) T.u_zip (pa_cons (pv 1) (pa_cons (pe_fldK (K := K) rfl (pv 0) rfl) pa_nil))) (pg_tupK (K := K) (n := 2) rfl rfl (pgs_cons (pg_name (i := 2) sc_check_numbers.nd rfl (by first | exact Or.inl rfl | exact Or.inr rfl)) (pgs_cons (pg_name (i := 3) sc_check_numbers.nd rfl (by first | exact Or.inl rfl | exact Or.inr rfl)) pgs_nil)))
      (pss_one (ps_if (PW.pt (pw_or (pt_cmpR (op_ne) (pe_callB (call_lenK (K := K) rfl) (by rfl) T.u_len PySem.boot_len (pa_cons (pv 2) pa_nil)) (pe_callB (call_lenK (K := K) rfl) (by rfl) T.u_len PySem.boot_len (pa_cons (pe_ix (ix_tupK (K := K) rfl) (pv 3) pe_int (fun _ _ => rfl)) pa_nil)) (nomark _)) (pw_or1 (pt_not (pt_val (pe_callB (cr_allK (K := K) rfl rfl) (by rfl) T.u_all (by decide +kernel) (pa_cons (pe_lc (own := [("number", 4), ("pair", 5)]) rfl sc_check_numbers.nd (RZ.pi_zipA (by rfl) T.u_zip (pa_cons (pv 2) (pa_cons (pe_ix (ix_tupK (K := K) rfl) (pv 3) pe_int (fun _ _ => rfl)) pa_nil))) (blkOk_by (own := [("number", 4), ("pair", 5)]) (N := N_check_numbers) (sc := (defScope s_check_numbers)) (by decide +kernel)) (fun _ _ _ _ _ => (pg_tupK (K := K) (n := 2) rfl rfl (pgs_cons (pg_name (i := 4) sc_check_numbers.nd rfl (by first | exact Or.inl rfl | exact Or.inr rfl)) (pgs_cons (pg_name (i := 5) sc_check_numbers.nd rfl (by first | exact Or.inl rfl | exact Or.inr rfl)) pgs_nil)))) (fun _ _ _ _ _ => pts_nil) (fun _ _ _ _ _ => (pe_call (ok_is_number T) (hr.mono (by decide)) (by rfl) T.is_number.g T.is_number.F.kp T.is_number.b .nil pass0 (pa_cons (pv 4) (pa_cons (pv 5) pa_nil))))) pa_nil))))))) (pss_one ps_never)
      pss_nil))))), ?_⟩
    obtain ⟨⟨P, nums⟩, ⟨hP, hN⟩, ⟨vl, rest, rfl, hl, hA⟩, q⟩ := h
    obtain ⟨v1, rfl, h1⟩ := one_inv hA
    have hP : POk P := hP
    have hN : NumsOk P nums := hN
    have h1 : Dp K H v1 (.tuple (nums.map dNs)) := h1
    have hlen := hN.len
    refine s_if (et_test (ev_nev (ev_lenT (evd_var rfl h1)) (ev_lenT (evd_links rfl hl T.cl T.n_links)) rfl)) (fun hb => ?_) (fun _ H1 e => ?_)
    · simp [hlen] at hb
    · obtain ⟨vk, hk, hkv⟩ := fld_val (f := "links") hl T.cl T.n_links (.inr (.inr ⟨P.ls, rfl, rfl, rfl⟩))
      refine s_lpZ (H0 := H) hlen h1 hk (q_var rfl) (hkv 0 _ _ rfl e) (fun i σ' H' => Ex H H' ∧ σ'.length = 6) ⟨e, rfl⟩ (fun _ _ _ p => p.1) (fun i σ' H' T o p hT => ⟨p.1.trans (Ex.new hT), p.2⟩) (fun i r x σ' H' hi p hx => g_pair hx fun a b ha hb => ?_) fun σ' H' p => q .non H' p.1 .non
      obtain ⟨e, sl⟩ := p
      obtain ⟨z1, z2⟩ := zip_get hi
      obtain ⟨hrow, hok⟩ := hN.row i _ _ z1 z2
      have hts := (hP.ln r.2 (List.mem_of_getElem? z2)).len
      have hw4 := hP.w4
      match σ', sl with
      | [a0, a1, a2, a3, a4, a5], _ =>
        refine s_if (et_or (et_test (ev_nev (ev_lenT (ds := r.1.map dO) (evd_var rfl ha)) (ev_lenT (ds := r.2.ts.map dP) (evd_ixT (evd_var rfl hb) ev_c rfl)) rfl)) fun _ => et_not (et_B (ev_all (bs := (r.1.zip r.2.ts).map fun _ => true) (EvF.toD (EvF.to (evf_zT (l := r.1) (m := r.2.ts) (e1 := dO) (e2 := dP) (gv := fun _ => .bool true) gm_pair (evd_var rfl ha) (evd_ixT (evd_var rfl hb) ev_c rfl) (by omega) (fun _ => imm_bool _)
          fun j s y H2 hj ex hy => g_pair hy fun c d hc hd => ⟨Ex.refl _, rfl, evd_call (a := (s.1, s.2)) (hok j _ _ (zip_get hj).1 (zip_get hj).2) (eg_D (ed_cons (evd_var rfl hc) (ed1 (evd_var rfl hd)))) rfl⟩) (by rw [List.map_map]; rfl)))))) (fun hb => ?_) (fun _ H2 e2 => ⟨e.trans e2, rfl⟩)
        simp [hrow] at hb
end

section
variable {P : Program} {w : World} {K : PySem.W.Frag} {mg : Str → Option Value} {base : Heap}
theorem ok_check_rows (T : Tx K mg) : FnOk P w K mg base CX0 2 T.check_rows.a T.check_rows.fd P_check_rows (spx_check_rows K T.C) := by
  refine (T.check_rows.F).ok sc_check_rows (fun vs H Q E h => ?_) (fun cdv A outer s H vs Q E hr h => ?_)
  · obtain ⟨a, _, hA, _⟩ := h
    exact aL_len hA
  · have hu := hu_of hr
    refine ⟨_, (pss_one (ps_for PassesOwn.never rfl (pi_listK (K := K) rfl (pv 1)) (pg_tupK (K := K) (n := 2) rfl rfl (pgs_cons (pg_name (i := 2) sc_check_rows.nd rfl (by first | exact Or.inl rfl | exact Or.inr rfl)) (pgs_cons (pg_name (i := 3) sc_check_rows.nd rfl (by first | exact Or.inl rfl | exact Or.inr rfl)) pgs_nil)))
      (pss_one (ps_expr (pe_meth (pv 0) T.cl T.m_check_place (ok_Land_check_place T) (hr.mono (by decide)) T.Land_check_place.b .nil pass0 (pa_cons (pv 2) pa_nil)))))), ?_⟩
    obtain ⟨⟨P, l⟩, hp, ⟨vl, rest, rfl, hl, hA⟩, q⟩ := h
    obtain ⟨v1, rfl, h1⟩ := one_inv hA
    refine s_lpL (l := l) (enc := dR) imm_dR h1 (q_var rfl) (fun i σ' H' => Ex H H' ∧ σ'[0]? = some (some vl) ∧ σ'[1]? = some (some v1) ∧ σ'.length = 4) ⟨Ex.refl _, rfl, rfl, rfl⟩ (fun _ _ _ p => p.1)
      (fun i r x σ' H' hi p hx => g_pair hx fun a b ha hb => ?_) fun σ' H' p => q .non H' p.1 .non
    obtain ⟨e, s0, s1, sl⟩ := p
    match σ', sl with
    | [a0, a1, a2, a3], _ =>
      cases s0
      exact s_dropD (evd_meth (a := (P, r.1)) rfl (LAtt.ex hl e) (by decide) (hp.pl r (List.mem_of_getElem? hi)) (ed1 (evd_var rfl ha)) rfl rfl) fun H1 e1 => ⟨e.trans e1, rfl, s1, rfl⟩
end

section
variable {P : Program} {w : World} {K : PySem.W.Frag} {mg : Str → Option Value} {base : Heap}
theorem ok_caught (T : Tx K mg) : FnOk P w K mg base CX0 2 T.caught.a T.caught.fd P_caught (spx_caught K T.C) := by
  refine (T.caught.F).ok sc_caught (fun vs H Q E h => ?_) (fun cdv A outer s H vs Q E hr h => ?_)
  · obtain ⟨a, _, hA, _⟩ := h
    exact aL_len hA
  · have hu := hu_of hr
    refine ⟨_, (pss_cons (ps_set (i := 4) sc_caught.nd rfl (by first | exact Or.inl rfl | exact Or.inr rfl) (pe_lst pa_nil))
      (pss_cons (ps_for PassesOwn.never rfl (pi_listK (K := K) rfl (pe_call (ok_chances T) (hr.mono (by decide)) (by rfl) T.chances.g T.chances.F.kp T.chances.b .nil pass0 (pa_cons (pv 1) (pa_cons (pv 3) pa_nil)))) (pg_name (i := 5) sc_caught.nd rfl (by first | exact Or.inl rfl | exact Or.inr rfl))
      (pss_cons (ps_set (i := 6) sc_caught.nd rfl (by first | exact Or.inl rfl | exact Or.inr rfl) (pe_ix (ix_tupK (K := K) rfl) (pv 2) (pe_index (K := K) rfl (pe_fldK (K := K) rfl (pv 0) rfl) (pe_call (ok_blowing T) (hr.mono (by decide)) (by rfl) T.blowing.g T.blowing.F.kp T.blowing.b .nil pass0 (pa_cons (pv 1) (pa_cons (pv 5) pa_nil)))) (fun _ _ => rfl)))
      (pss_one (ps_if (pt_cmpR (op_notN') (pv 6) pe_non (nomark _)) (pss_one (ps_expr (pe_bm PySem.F.plainAttrs_list PySem.F.slot_list_append PySem.F.type_list_append mt_append (pv 4) (pa_cons (pe_op op_add (pv 5) (pv 6)) pa_nil))))
      pss_nil))))
      (pss_one (ps_ret (pe_callBK (cr_minN rfl (hu64 hr)) (by rfl) T.u_min (by decide +kernel) (pa_cons (pv 4) pa_nil) (pk_cons pe_non pk_nil)))))), ?_⟩
    obtain ⟨⟨P, W, row, m⟩, ⟨hP, hW, hrow, hm⟩, ⟨vl, rest, rfl, hl, hA⟩, q⟩ := h
    obtain ⟨v1, v2, v3, rfl, h1, h2, h3⟩ := three_inv hA
    have hP : POk P := hP
    have hW : WOk P.ws W := hW
    have hrow : row.length = P.ws.length := hrow
    have hm : 0 ≤ m := hm
    have h1 : Dp K H v1 (.list (W.map dW)) := h1
    have h2 : Dp K H v2 (.tuple (row.map dO)) := h2
    have hn40 : W.length ≤ 40 := hW.n2
    have hcl : (chs W m).length ≤ 41 := by
      unfold chs
      rw [List.length_cons, List.length_map]
      have := List.length_filter_le (fun r : Int × Str => decide (m < r.1)) W
      omega
    refine s_asgF (K := K) (evf_lst (ds := []) ed_nil (by simp)) fun p xs H2 hpn e2 hx ha => ?_
    cases ha
    dsimp only
    have hge : ∀ t ∈ chs W m, 0 ≤ t := by
      intro t ht
      unfold chs at ht
      rcases List.mem_cons.mp ht with rfl | ht
      · exact hm
      · obtain ⟨r, hr, rfl⟩ := List.mem_map.mp ht
        have := (List.mem_filter.mp hr).2
        have : m < r.1 := by simpa using this
        omega
    refine s_forN (K := K) (l := p) (o := .lst []) (ds := (chs W m).map .int) hx rfl (imm_ints _) (evf_call (a := (W, m)) hn40 (eg_D (ed_cons (evd_var rfl (h1.ex e2)) (ed1 (evd_var rfl (h3.ex e2))))) rfl)
      (fun Hb i σ' H' => But p Hb H' ∧ Ex H H' ∧ σ'[0]? = some (some vl) ∧ σ'[1]? = some (some v1) ∧ σ'[2]? = some (some v2) ∧ σ'[4]? = some (some (.ref p)) ∧ σ'.length = 7 ∧ LAt K H' p ((((chs W m).take i).filterMap fun t => (num P.ws W row t).map (t + ·)).map .int)) (fun H1 e1 => ⟨But.refl _ _, e2.trans e1, rfl, rfl, rfl, rfl, rfl, ⟨[], e1 _ _ hx, .nil⟩⟩) (fun _ _ _ _ k => k.1) (fun Hb i e x σ' H' eb hi k hx => ?_) fun Hb σ' H' eb k => ?_
    · obtain ⟨bt, e, s0, s1, s2, s4, sl, hL⟩ := k
      obtain ⟨t, ht, rfl⟩ := get_map hi
      have ht0 := hge t (List.mem_of_getElem? ht)
      match σ', sl with
      | [a0, a1, a2, a3, a4, a5, a6], _ =>
        cases s0
        cases s1
        cases s2
        cases s4
        have hwd := hW.wd_mem t
        obtain ⟨k1, k2, k3⟩ := ixS_spec hwd
        obtain ⟨o, ho⟩ : ∃ o, row[ixS P.ws (wd W t)]? = some o := ⟨_, List.getElem?_eq_getElem (by omega)⟩
        have hnum : num P.ws W row t = o := by unfold num; rw [ho]; rfl
        show tSeq _ _ _ _ _
        refine s_asgD (d := dO o) (evd_ixT (i := ((ixS P.ws (wd W t) : Nat) : Int)) (ds := row.map dO) (evd_var rfl (h2.ex e)) (ev_index (fz_winds rfl (LAtt.ex hl e) T.cl T.n_winds) (EvD.str (evd_call (a := (W, t)) ⟨⟨_, hW⟩, ht0⟩ (eg_D (ed_cons (evd_var rfl (h1.ex e)) (ed1 (evd_var rfl hx)))) rfl)) hwd) ?_) fun v H3 e3 hv => ?_
        · refine atI_of (Int.natCast_nonneg _) ?_
          rw [Int.toNat_natCast, List.getElem?_map, ho]
          rfl
        · have hstep : ((chs W m).take (i + 1)).filterMap (fun t => (num P.ws W row t).map (t + ·)) = (((chs W m).take i).filterMap fun t => (num P.ws W row t).map (t + ·)) ++ (o.map (t + ·)).toList := by
            rw [take_snoc ht, List.filterMap_append]
            congr 1
            rw [List.filterMap_cons, hnum]
            cases o <;> rfl
          have hlen : ((((chs W m).take i).filterMap fun t => (num P.ws W row t).map (t + ·)).map PyData.int).length < 100000 := by
            rw [List.length_map]
            have a1 := List.length_filterMap_le (fun t => (num P.ws W row t).map (t + ·)) ((chs W m).take i)
            have a2 : ((chs W m).take i).length ≤ (chs W m).length := by rw [List.length_take]; omega
            omega
          cases o with
          | none =>
            refine s_if (et_test (evd_notN (evd_var rfl hv))) (fun hb => by cases hb) (fun _ H4 e4 => ⟨(bt.ex e3).ex e4, (e.trans e3).trans e4, rfl, rfl, rfl, rfl, rfl, ?_⟩)
            rw [hstep, show (Option.map (t + ·) (none : Option Int)).toList = [] from rfl, List.append_nil]
            exact (hL.ex e3).ex e4
          | some n =>
            refine s_if (et_test (evd_notN (evd_var rfl hv))) (fun _ H4 e4 => ?_) (fun hb => by cases hb)
            refine s_app' ((hL.ex e3).ex e4) (imm_ints _) (imm_int (t + n)) (ev_var rfl) (Ev.dI (ev_add (EvD.int (evd_var rfl ((hx.ex e3).ex e4))) (EvD.int (evd_var rfl (hv.ex e4))))) hlen fun H5 u H6 e5 _ eq hL6 _ => ?_
            refine ⟨by rw [eq]; exact (((bt.ex e3).ex e4).ex e5).upd, by rw [eq]; exact (((e.trans e3).trans e4).trans e5).mut hpn, rfl, rfl, rfl, rfl, rfl, ?_⟩
            rw [hstep, List.map_append]
            exact hL6
    · obtain ⟨bt, e, s0, s1, s2, s4, sl, hL⟩ := k
      rw [List.length_map, List.take_length] at hL
      have hL : LAt K H' p ((ends P.ws W row m).map .int) := hL
      obtain ⟨ys, hy1, hy2⟩ := hL
      have ey := hy2.ints_inv
      subst ey
      dsimp only
      refine s_retD (d := dO (cgt P.ws W row m)) (fun H1 e1 Qa k => ⟨_, s4, p, ends P.ws W row m, rfl, rfl, SqL.of (e1 _ _ hy1), fun he => k .non H1 (Ex.refl _) ?_, fun x hx hle => k (.int x) H1 (Ex.refl _) ?_⟩) fun v H3 e3 hv => q v H3 (e.trans e3) hv
      · have : cgt P.ws W row m = none := (omin_spec _).1.mpr he
        rw [this]
        exact .non
      · have : cgt P.ws W row m = some x := omin_eq hx hle
        rw [this]
        exact .int x
end

section
variable {P : Program} {w : World} {K : PySem.W.Frag} {mg : Str → Option Value} {base : Heap}
theorem ok_checked_times (T : Tx K mg) : FnOk P w K mg base CX0 2 T.checked_times.a T.checked_times.fd P_checked_times (spx_checked_times K) := by
  refine (T.checked_times.F).ok sc_checked_times (fun vs H Q E h => ?_) (fun cdv A outer s H vs Q E hr h => ?_)
  · obtain ⟨a, _, hA, _⟩ := h
    exact hA.len
  · have hu := hu_of hr
    refine ⟨_, (pss_cons (ps_expr (pe_call (ok_require T) (hr.mono (by decide)) (by rfl) T.require.g T.require.F.kp T.require.b .nil pass0 (pa_cons (pe_cmpR (op_eq) (pe_callB (call_lenK (K := K) rfl) (by rfl) T.u_len PySem.boot_len (pa_cons (pv 0) pa_nil)) (pv 1) (nomark _)) pa_nil)))
      (pss_cons (ps_set (i := 2) sc_checked_times.nd rfl (by first | exact Or.inl rfl | exact Or.inr rfl) (pe_lst pa_nil))
      (pss_cons (ps_for PassesOwn.never rfl (pi_tupK (K := K) rfl (pv 0)) (pg_name (i := 3) sc_checked_times.nd rfl (by first | exact Or.inl rfl | exact Or.inr rfl))
      (pss_cons (ps_if (pt_cmpR (op_notN') (pv 3) pe_non (nomark _)) (pss_cons (ps_expr (pe_call (ok_require T) (hr.mono (by decide)) (by rfl) T.require.g T.require.F.kp T.require.b .nil pass0 (pa_cons (pe_and (pe_cmpR (op_eq) (pe_callB (call_lenK (K := K) rfl) (by rfl) T.u_len PySem.boot_len (pa_cons (pv 3) pa_nil)) pe_int (nomark _)) (pe_one (pe_chain3 op_le op_le op_le pe_int (pe_ix (ix_tupK (K := K) rfl) (pv 3) pe_int (fun _ _ => rfl)) (pe_ix (ix_tupK (K := K) rfl) (pv 3) pe_int (fun _ _ => rfl)) (pe_globI (by rfl) T.c_MOST_MINUTES)))) pa_nil)))
      (pss_one (ps_set (i := 3) sc_checked_times.nd rfl (by first | exact Or.inl rfl | exact Or.inr rfl) (pe_callTy (call_tupOfK (K := K) rfl) (by rfl) T.u_tuple (by decide +kernel) (pa_cons (pv 3) pa_nil)))))
      pss_nil)
      (pss_one (ps_expr (pe_bm PySem.F.plainAttrs_list PySem.F.slot_list_append PySem.F.type_list_append mt_append (pv 2) (pa_cons (pv 3) pa_nil))))))
      (pss_one (ps_ret (pe_callTy (call_tupOfK (K := K) rfl) (by rfl) T.u_tuple (by decide +kernel) (pa_cons (pv 2) pa_nil))))))), ?_⟩
    obtain ⟨⟨ts, n⟩, ⟨hn, h3, hp⟩, hA, q⟩ := h
    obtain ⟨v1, v2, rfl, h1, h2⟩ := two_inv hA
    have hn : (ts.length : Int) = n := hn
    have h3 : ts.length ≤ 3 := h3
    have hp : ∀ p ∈ ts, PairOk p := hp
    have h1 : Dp K H v1 (.tuple (ts.map dP)) := h1
    refine s_dropD (evd_call (a := ()) trivial (eg_D (ed1 (Ev.dB (Ev.to (ev_eqv (ev_lenT (evd_var rfl h1)) (EvD.int (evd_var rfl h2)) rfl) (w := .bl true) (by simp [hn]))))) rfl) fun H1 e1 => ?_
    dsimp only
    refine s_asgF (K := K) (evf_lst (ds := []) ed_nil (by simp)) fun p xs H2 hpn e2 hx ha => ?_
    cases ha
    have hp0 : H p = none := fresh_back e1 hpn
    refine s_lpT (l := ts) (enc := dP) h1 (q_var rfl) (fun i σ' H' => Ex H H' ∧ σ'[0]? = some (some v1) ∧ σ'[2]? = some (some (.ref p)) ∧ σ'.length = 4 ∧ LAt K H' p ((ts.take i).map dP)) ⟨e1.trans e2, rfl, rfl, rfl, ⟨[], hx, .nil⟩⟩ (fun _ _ _ p => p.1) (fun i r x σ' H' hi k hx => ?_) fun σ' H' k => ?_
    · obtain ⟨e, s0, s2, sl, hL⟩ := k
      match σ', sl with
      | [a0, a1, a2, a3], _ =>
        cases s0
        cases s2
        have hlen : ((ts.take i).map dP).length < 100000 := by
          rw [List.length_map, List.length_take]
          omega
        have hcat : (ts.take (i + 1)).map dP = (ts.take i).map dP ++ [dP r] := by rw [take_snoc hi, List.map_append]; rfl
        show tSeq _ _ _ _ _
        cases r with
        | none =>
          refine s_if (et_test (evd_notN (evd_var rfl hx))) (fun hb => by cases hb) (fun _ H3 e3 => ?_)
          refine s_appE hp0 (e.trans e3) (hL.ex e3) (immAll_map imm_dP _) (imm_dP none) (ev_var rfl) (evd_var rfl (hx.ex e3)) hlen fun H4 e4 hL4 => ⟨e4, rfl, rfl, rfl, ?_⟩
          rw [hcat]
          exact hL4
        | some r =>
          obtain ⟨l1, l2, l3⟩ := hp _ (List.mem_of_getElem? hi) r rfl
          refine s_if (et_test (evd_notN (evd_var rfl hx))) (fun _ H3 e3 => ?_) (fun hb => by cases hb)
          have hx := hx.ex e3
          refine s_dropD (evd_call (a := ()) trivial (eg_D (ed1 (Ev.dB (Ev.to (ev_andV (ev_eqv (ev_lenT (evd_var rfl hx)) ev_c rfl) fun _ => ev_ch3LE ev_c (EvD.int (evd_ixT (d := .int r.1) (evd_var rfl hx) ev_c rfl)) (EvD.int (evd_ixT (d := .int r.2) (evd_var rfl hx) ev_c rfl)) ev_c ⟨l1, l2, l3⟩) (w := .bl true) rfl)))) rfl) fun H4 e4 => ?_
          have hx := hx.ex e4
          dsimp only
          refine s_asgD (d := dP (some r)) (evd_tupT (evd_var rfl hx)) fun y H5 e5 hy => ?_
          refine s_appE hp0 (((e.trans e3).trans e4).trans e5) (((hL.ex e3).ex e4).ex e5) (immAll_map imm_dP _) (imm_dP (some r)) (ev_var rfl) (evd_var rfl hy) hlen fun H6 e6 hL6 => ⟨e6, rfl, rfl, rfl, ?_⟩
          rw [hcat]
          exact hL6
    · obtain ⟨e, s0, s2, sl, hL⟩ := k
      rw [List.take_length] at hL
      exact s_retD (evd_tupL (evd_var s2 hL.toD)) fun v H3 e3 hv => q v H3 (e.trans e3) hv
end

section
variable {P : Program} {w : World} {K : PySem.W.Frag} {mg : Str → Option Value} {base : Heap}
theorem ok_Land_checked_path (T : Tx K mg) : FnOk P w K mg base CX0 2 T.Land_checked_path.a T.Land_checked_path.fd P_Land_checked_path (spx_Land_checked_path K T.C) := by
  refine (T.Land_checked_path.F).ok sc_Land_checked_path (fun vs H Q E h => ?_) (fun cdv A outer s H vs Q E hr h => ?_)
  · obtain ⟨a, _, hA, _⟩ := h
    exact aM_len hA
  · have hu := hu_of hr
    refine ⟨_, (pss_cons (ps_expr (pe_call (ok_require T) (hr.mono (by decide)) (by rfl) T.require.g T.require.F.kp T.require.b .nil pass0 (pa_cons (pe_cmpR (op_eq) (pe_callB (call_lenK (K := K) rfl) (by rfl) T.u_len PySem.boot_len (pa_cons (pv 1) pa_nil)) pe_int (nomark _)) pa_nil)))
      (pss_cons (ps_asg (pv 1) (pg_tupK (K := K) (n := 3) rfl rfl (pgs_cons (pg_name (i := 2) sc_Land_checked_path.nd rfl (by first | exact Or.inl rfl | exact Or.inr rfl)) (pgs_cons (pg_name (i := 3) sc_Land_checked_path.nd rfl (by first | exact Or.inl rfl | exact Or.inr rfl)) (pgs_cons (pg_name (i := 4) sc_Land_checked_path.nd rfl (by first | exact Or.inl rfl | exact Or.inr rfl)) pgs_nil)))))
      (pss_cons (ps_expr (pe_call (ok_require T) (hr.mono (by decide)) (by rfl) T.require.g T.require.F.kp T.require.b .nil pass0 (pa_cons (pe_and (pe_meth (pv 0) T.cl T.m_are_ends (ok_Land_are_ends T) (hr.mono (by decide)) T.Land_are_ends.b .nil pass0 (pa_cons (pv 2) (pa_cons (pv 3) pa_nil))) (pe_one (pe_chain op_le op_le pe_int (pv 4) (pe_globI (by rfl) T.c_MOST_MINUTES)))) pa_nil)))
      (pss_one (ps_ret (pe_tup (pa_cons (pv 2) (pa_cons (pv 3) (pa_cons (pv 4) pa_nil))))))))), ?_⟩
    obtain ⟨⟨ws, ps, l⟩, hL, ⟨vl, rest, rfl, hl, hA⟩, q⟩ := h
    obtain ⟨v1, rfl, h1⟩ := one_inv hA
    have hL : PthOk ps l := hL
    have h1 : Dp K H v1 (.tuple [.str l.one, .str l.oth, .int l.mi]) := h1
    refine s_dropD (evd_call (a := ()) trivial (eg_D (ed1 (Ev.dB (Ev.to (ev_eqv (ev_lenT (evd_var rfl h1)) ev_c rfl) (w := .bl true) rfl)))) rfl) fun H1 e1 => ?_
    dsimp only
    refine ⟨v1, rfl, g_three (h1.ex e1) fun a b c ha hb hc => ?_⟩
    dsimp only
    refine s_dropD (evd_call (a := ()) trivial (eg_D (ed1 (Ev.dB (Ev.to (ev_andV (EvD.bl (evd_meth (a := (ws, ps, l.one, l.oth)) rfl (LAtt.ex hl e1) (by decide) ⟨hL.one, hL.oth, hL.ne⟩ (ed_cons (evd_var rfl ha) (ed1 (evd_var rfl hb))) rfl rfl)) fun _ => ev_chLE ev_c (EvD.int (evd_var rfl hc)) ev_c ⟨hL.lo, hL.hi⟩) (w := .bl true) rfl)))) rfl) fun H2 e2 => ?_
    dsimp only
    exact s_retD (evd_tup (ed_cons (evd_var rfl (ha.ex e2)) (ed_cons (evd_var rfl (hb.ex e2)) (ed1 (evd_var rfl (hc.ex e2))))) (by simp)) fun v H3 e3 hv => q v H3 ((e1.trans e2).trans e3) hv
end

theorem each_ok (n : Nat) : 0 ≤ 1 + (190 : Int) / (if (n : Int) > 1 then (n : Int) else 1) ∧ 1 + (190 : Int) / (if (n : Int) > 1 then (n : Int) else 1) ≤ 191 := by
  have h1 : 0 ≤ (if (n : Int) > 1 then (n : Int) else 1) := by split <;> omega
  have a := Int.ediv_nonneg (by decide : (0 : Int) ≤ 190) h1
  have b := Int.ediv_le_self (a := 190) (if (n : Int) > 1 then (n : Int) else 1) (by decide)
  omega
theorem nums_app {ns ms : List Int} {a b : Nat} (h : NOk ns a) (h2 : NOk ms b) : NOk (ns ++ ms) (a + b) := ⟨by rw [List.length_append, h.len, h2.len], fun z hz => by
  rcases List.mem_append.mp hz with hz | hz
  · exact h.rng z hz
  · exact h2.rng z hz⟩
theorem nums_take {ns : List Int} {a i : Nat} (h : NOk ns a) (hi : i ≤ a) : NOk (ns.take i) i := ⟨by rw [List.length_take, h.len]; omega, fun z hz => h.rng z (List.mem_of_mem_take hz)⟩
section
variable {P : Program} {w : World} {K : PySem.W.Frag} {mg : Str → Option Value} {base : Heap}
theorem ok_law_numbers (T : Tx K mg) : FnOk P w K mg base CX0 2 T.law_numbers.a T.law_numbers.fd P_law_numbers (spx_law_numbers K) := by
  refine (T.law_numbers.F).ok sc_law_numbers (fun vs H Q E h => ?_) (fun cdv A outer s H vs Q E hr h => ?_)
  · obtain ⟨a, _, hA, _⟩ := h
    exact hA.len
  · have hu := hu_of hr
    refine ⟨_, (pss_cons (ps_set (i := 2) sc_law_numbers.nd rfl (by first | exact Or.inl rfl | exact Or.inr rfl) (pe_slice (sl_listK (K := K) rfl) (pv 0) po_none (po_some pe_int)))
      (pss_cons (ps_set (i := 3) sc_law_numbers.nd rfl (by first | exact Or.inl rfl | exact Or.inr rfl) (pe_op op_add pe_int (pe_op op_fdiv (pv 1) (pe_callB (call_max2' rfl) (by rfl) T.u_max (by decide +kernel) (pa_cons pe_int (pa_cons (pe_callB (call_lenK (K := K) rfl) (by rfl) T.u_len PySem.boot_len (pa_cons (pv 2) pa_nil)) pa_nil))))))
      (pss_cons (ps_set (i := 4) sc_law_numbers.nd rfl (by first | exact Or.inl rfl | exact Or.inr rfl) (pe_lst pa_nil))
      (pss_cons (ps_for PassesOwn.never rfl (pi_listK (K := K) rfl (pv 2)) (pg_name (i := 5) sc_law_numbers.nd rfl (by first | exact Or.inl rfl | exact Or.inr rfl))
      (pss_one (ps_for PassesOwn.never rfl (pi_listK (K := K) rfl (pe_call (ok_law_row T) (hr.mono (by decide)) (by rfl) T.law_row.g T.law_row.F.kp T.law_row.b .nil pass0 (pa_cons (pv 5) (pa_cons (pv 3) pa_nil)))) (pg_name (i := 6) sc_law_numbers.nd rfl (by first | exact Or.inl rfl | exact Or.inr rfl))
      (pss_one (ps_expr (pe_bm PySem.F.plainAttrs_list PySem.F.slot_list_append PySem.F.type_list_append mt_append (pv 4) (pa_cons (pv 6) pa_nil)))))))
      (pss_cons (ps_while PassesOwn.never (pt_cmpR (op_lt) (pe_callB (call_lenK (K := K) rfl) (by rfl) T.u_len PySem.boot_len (pa_cons (pv 4) pa_nil)) (pv 1) (nomark _))
      (pss_one (ps_expr (pe_bm PySem.F.plainAttrs_list PySem.F.slot_list_append PySem.F.type_list_append mt_append (pv 4) (pa_cons pe_int pa_nil)))))
      (pss_one (ps_ret (pe_slice (sl_listK (K := K) rfl) (pv 4) po_none (po_some (pv 1)))))))))), ?_⟩
    obtain ⟨⟨sc, n⟩, hn, hA, q⟩ := h
    obtain ⟨v1, v2, rfl, h1, h2⟩ := two_inv hA
    have hn : n = 190 := hn
    subst hn
    cases h2.int_inv
    have h1 : Dp K H v1 (.list (sc.map .int)) := h1
    refine s_asgF (evf_slL (evd_var rfl h1) eo_none (eo_some ev_c)) fun pc xc H1 hpc e1 hxc hac => ?_
    have ecut : cutD (sc.map PyData.int) none (some 63) = (sc.take 63).map .int := by
      rw [show (63 : Int) = ((63 : Nat) : Int) from rfl, cut_take, List.map_take]
    rw [ecut] at hac
    have hcl : (sc.take 63).length ≤ 63 := by rw [List.length_take]; omega
    generalize sc.take 63 = cells at hac hcl
    have hcells : Dp K H1 (.ref pc) (.list (cells.map .int)) := .lst (SqL.of hxc) hac
    dsimp only
    refine s_asg (ev_add ev_c (ev_div (ev_var rfl) (ev_max2' ev_c (ev_is (ev_lenL (evd_var rfl hcells)) (by rw [List.length_map]))) ⟨by split <;> omega, by split <;> omega⟩)) fun H2 e2 => ?_
    obtain ⟨g0, g1⟩ := each_ok cells.length
    generalize hea : 1 + (190 : Int) / (if (cells.length : Int) > 1 then (cells.length : Int) else 1) = each at g0 g1 ⊢
    dsimp only
    refine s_asgF (K := K) (evf_lst (ds := []) ed_nil (by simp)) fun p xs H3 hpn e3 hx ha => ?_
    cases ha
    have hp2 : H2 p = none := hpn
    have hpcn : pc ≠ p := fun z => by rw [← z, e2 _ _ hxc] at hp2; cases hp2
    have e12 := e1.trans e2
    dsimp only
    refine s_lpL (H0 := H2) (l := cells) (enc := .int) imm_int (hcells.ex e2) (q_var rfl) (fun i σ' H' => Ex H2 H' ∧ ∃ (a5 a6 : Option V) (ns : List Int) (a : Nat), σ' = [some v1, some (.int 190), some (.ref pc), some (.int each), some (.ref p), a5, a6] ∧ NOk ns a ∧ a ≤ 191 * i ∧ LAt K H' p (dInts ns)) ⟨e3, _, _, [], 0, rfl, ⟨rfl, fun _ h => by cases h⟩, by omega, ⟨[], hx, .nil⟩⟩ (fun _ _ _ k => k.1) (fun i c y σ' H' hi k hy => ?_) fun σ' H' k => ?_
    · obtain ⟨e, a5, a6, ns, a, rfl, hN, hal, hL⟩ := k
      cases hy.int_inv
      have hil : i < cells.length := (List.getElem?_eq_some_iff.mp hi).1
      dsimp only
      refine er_call (a := (c, each)) ⟨g0, by show each ≤ 1000; omega⟩ (eg_D (ed_cons (Ev.dI (ev_var rfl)) (ed1 (Ev.dI (ev_var rfl))))) H' (Ex.refl _) _ fun v Ha H4 ea e4 hv => ?_
      obtain ⟨ms, hM, pm, ym, rfl, hpm, hym, hdm⟩ := hv
      have e24 := e.trans (ea.trans e4)
      obtain ⟨yl, hyl, hdl⟩ := hL.ex (ea.trans e4)
      have hne : pm ≠ p := fun z => by
        obtain ⟨yl0, hyl0, _⟩ := hL.ex ea
        rw [z, hyl0] at hpm
        cases hpm
      refine s_lpB (l := ms) (enc := .int) (m := p) imm_int hym hdm hne hyl rfl (fun j σ' H' => But p H4 H' ∧ Ex H2 H' ∧ ∃ (a5 a6 : Option V), σ' = [some v1, some (.int 190), some (.ref pc), some (.int each), some (.ref p), a5, a6] ∧ LAt K H' p (dInts (ns ++ ms.take j))) ⟨But.refl _ _, e24, _, _, rfl, yl, hyl, by rw [List.take_zero, List.append_nil]; exact hdl⟩ (fun _ _ _ k => k.1) (fun j z u σ' H' hj k hu' => ?_) fun σ' H' k => ?_
      · obtain ⟨bt, e, a5, a6, rfl, hL⟩ := k
        have hjl : j < ms.length := (List.getElem?_eq_some_iff.mp hj).1
        have hml := hM.len
        have hnl := hN.len
        have hlen : (dInts (ns ++ ms.take j)).length < 100000 := by
          unfold dInts
          rw [List.length_map, List.length_append, List.length_take]
          omega
        refine s_app' hL (imm_ints _) (imm_int z) (ev_var rfl) (evd_var rfl hu') hlen fun H5 w H6 e5 _ eq hL6 _ => ⟨by rw [eq]; exact (bt.ex e5).upd, by rw [eq]; exact (e.trans e5).mut hp2, _, _, rfl, ?_⟩
        have : dInts (ns ++ ms.take (j + 1)) = dInts (ns ++ ms.take j) ++ [.int z] := by
          unfold dInts
          rw [take_snoc hj, ← List.append_assoc, List.map_append]
          rfl
        rw [this]
        exact hL6
      · obtain ⟨bt, e, a5, a6, rfl, hL⟩ := k
        rw [List.take_length] at hL
        exact ⟨e, _, _, ns ++ ms, a + each.toNat, rfl, nums_app hN hM, by omega, hL⟩
    · obtain ⟨e, a5, a6, ns, a, rfl, hN, hal, hL⟩ := k
      have hal : a ≤ 20000 := by omega
      dsimp only
      refine s_while (fun m σ' H' => Ex H2 H' ∧ ∃ (a5 a6 : Option V) (ns : List Int) (a : Nat), σ' = [some v1, some (.int 190), some (.ref pc), some (.int each), some (.ref p), a5, a6] ∧ NOk ns a ∧ a ≤ 20200 ∧ m = 190 - a ∧ LAt K H' p (dInts ns)) _ ⟨e, _, _, ns, a, rfl, hN, by omega, rfl, hL⟩ ?_
      rintro m σ' H' ⟨e, a5, a6, ns, a, rfl, hN, hal, rfl, hL⟩
      have hnl := hN.len
      refine ⟨decide (((dInts ns).length : Int) < 190), et_test (ev_lt (ev_lenL (evd_var rfl hL.toD)) (ev_var rfl)), fun hb H5 e5 => ?_, fun hb H5 e5 => ?_⟩
      · have hb := of_decide_eq_true hb
        have hdl : (dInts ns).length = ns.length := List.length_map _
        refine ⟨fun σ' H' => Ex H2 H' ∧ ∃ (a5 a6 : Option V), σ' = [some v1, some (.int 190), some (.ref pc), some (.int each), some (.ref p), a5, a6] ∧ LAt K H' p (dInts (ns ++ [0])), fun σ2 H2 ⟨k1, b5, b6, k2, k3⟩ => ⟨190 - (a + 1), by omega, k1, b5, b6, ns ++ [0], a + 1, k2, nums_app hN (⟨rfl, fun z hz => by rw [List.mem_singleton.mp hz]; decide⟩ : NOk [0] 1), by omega, rfl, k3⟩, ?_⟩
        refine s_appE (d := .int 0) hp2 (e.trans e5) (hL.ex e5) (imm_ints _) (imm_int 0) (ev_var rfl) (Ev.dI ev_c) (by omega) fun H6 e6 hL6 => ⟨e6, _, _, rfl, ?_⟩
        have : dInts (ns ++ [0]) = dInts ns ++ [.int 0] := by unfold dInts; rw [List.map_append]; rfl
        rw [this]
        exact hL6
      · have hb := of_decide_eq_false hb
        have hdl : (dInts ns).length = ns.length := List.length_map _
        dsimp only
        refine s_retF (evf_slL (evd_var rfl ((hL.ex e5).toD)) eo_none (eo_some (ev_var (v := .int 190) rfl))) fun pr xr H6 hpr e6 hxr har => q _ H6 (e12.trans (e.trans (e5.trans e6))) ⟨ns.take 190, nums_take hN (by omega), pr, xr, rfl, fresh_back (e12.trans (e.trans e5)) hpr, hxr, ?_⟩
        rw [show (190 : Int) = ((190 : Nat) : Int) from rfl, cut_take] at har
        unfold dInts at har ⊢
        rw [List.map_take]
        exact har
end

theorem evd_tupN {K : PySem.W.Frag} {σ : L2.St} {H : Hp} {ta : TE} {ds : List PyData} (ha : EvD K ta σ H (.list ds)) : EvD K (tCB (rTupN K) (tCons ta tNil)) σ H (.tuple ds) := fun H1 e Q q => ha H1 e _ fun v H2 e2 hv => by
  obtain ⟨a, xs, rfl, hq, hx⟩ := hv.lst_inv
  exact ⟨a, xs, rfl, .inl ⟨hq, fun l o hl ho => q _ _ (e2.trans (Ex.new hl)) (.tup (Or.inl (Or.inr ⟨o, upd_same⟩)) (hx.ex (Ex.new hl)))⟩⟩
theorem other_ne {a x L : Int} (h0 : 0 ≤ a) (h1 : a < L) (h2 : 0 ≤ x) (h3 : x < L - 1) : (a + 1 + x) % L ≠ a := by
  by_cases h : a + 1 + x < L
  · rw [Int.emod_eq_of_lt (by omega) h]
    omega
  · have e : a + 1 + x = (a + 1 + x - L) + L * 1 := by omega
    rw [e, Int.add_mul_emod_self_left, Int.emod_eq_of_lt (by omega) (by omega)]
    omega
theorem nodup_at {l : List Str} (h : l.Nodup) {i j : Int} {a b : Str} (hi : l[i.toNat]? = some a) (hj : l[j.toNat]? = some b) (h0 : 0 ≤ i) (h1 : 0 ≤ j) (hne : j ≠ i) : a ≠ b := by
  intro e
  subst e
  have := (List.getElem?_inj (List.getElem?_eq_some_iff.mp hi).1 h).mp (hi.trans hj.symm)
  omega
theorem known_no {pt : List Pth} {a b : Str} (h : (((pt.map fun p => dSS (p.one, p.oth)) ++ pt.map fun p => dSS (p.oth, p.one)).any fun z => PyData.eqv z (dSS (a, b))) = false) : ∀ p ∈ pt, ¬ (p.one = a ∧ p.oth = b) ∧ ¬ (p.one = b ∧ p.oth = a) := by
  intro p hp
  rw [List.any_append, Bool.or_eq_false_iff, List.any_map, List.any_map, List.any_eq_false, List.any_eq_false] at h
  have h1 := h.1 p hp
  have h2 := h.2 p hp
  simp only [Function.comp, eqv_SS] at h1 h2
  refine ⟨fun ⟨x, y⟩ => h1 ?_, fun ⟨x, y⟩ => h2 ?_⟩
  · rw [x, y]; simp
  · rw [x, y]; simp
section
variable {P : Program} {w : World} {K : PySem.W.Frag} {mg : Str → Option Value} {base : Heap}
theorem ok_law_parts (T : Tx K mg) : FnOk P w K mg base CX0 2 T.law_parts.a T.law_parts.fd P_law_parts (spx_law_parts K) := by
  refine (T.law_parts.F).ok sc_law_parts (fun vs H Q E h => ?_) (fun cdv A outer s H vs Q E hr h => ?_)
  · obtain ⟨a, _, hA, _⟩ := h
    exact hA.len
  · have hu := hu_of hr
    refine ⟨_, (pss_cons (ps_set (i := 2) sc_law_parts.nd rfl (by first | exact Or.inl rfl | exact Or.inr rfl) (pe_call (ok_law_names T) (hr.mono (by decide)) (by rfl) T.law_names.g T.law_names.F.kp T.law_names.b .nil pass0 (pa_cons (pe_ix (ix_listK (K := K) rfl) (pv 0) (pv 1) (fun _ _ => rfl)) (pa_cons (pe_op op_add pe_int (pe_op op_mod (pe_callTy call_int1' (by rfl) T.u_int (by decide +kernel) (pa_cons (pe_ix (ix_listK (K := K) rfl) (pv 0) (pe_op op_add (pv 1) pe_int) (fun _ _ => rfl)) pa_nil)) pe_int)) pa_nil))))
      (pss_cons (ps_set (i := 3) sc_law_parts.nd rfl (by first | exact Or.inl rfl | exact Or.inr rfl) (pe_call (ok_law_names T) (hr.mono (by decide)) (by rfl) T.law_names.g T.law_names.F.kp T.law_names.b .nil pass0 (pa_cons (pe_ix (ix_listK (K := K) rfl) (pv 0) (pe_op op_add (pv 1) pe_int) (fun _ _ => rfl)) (pa_cons (pe_op op_add pe_int (pe_op op_mod (pe_callTy call_int1' (by rfl) T.u_int (by decide +kernel) (pa_cons (pe_ix (ix_listK (K := K) rfl) (pv 0) (pe_op op_add (pv 1) pe_int) (fun _ _ => rfl)) pa_nil)) pe_int)) pa_nil))))
      (pss_cons (ps_set (i := 4) sc_law_parts.nd rfl (by first | exact Or.inl rfl | exact Or.inr rfl) (pe_call (ok_law_names T) (hr.mono (by decide)) (by rfl) T.law_names.g T.law_names.F.kp T.law_names.b .nil pass0 (pa_cons (pe_ix (ix_listK (K := K) rfl) (pv 0) (pe_op op_add (pv 1) pe_int) (fun _ _ => rfl)) (pa_cons pe_int pa_nil))))
      (pss_cons (ps_set (i := 5) sc_law_parts.nd rfl (by first | exact Or.inl rfl | exact Or.inr rfl) (pe_lst pa_nil))
      (pss_cons (ps_for PassesOwn.never rfl (pi_range1 (by rfl) T.u_range (pa_cons (pe_op op_mod (pe_callTy call_int1' (by rfl) T.u_int (by decide +kernel) (pa_cons (pe_ix (ix_listK (K := K) rfl) (pv 0) (pe_op op_add (pv 1) pe_int) (fun _ _ => rfl)) pa_nil)) pe_int) pa_nil)) (pg_name (i := 6) sc_law_parts.nd rfl (by first | exact Or.inl rfl | exact Or.inr rfl))
      (pss_cons (ps_set (i := 7) sc_law_parts.nd rfl (by first | exact Or.inl rfl | exact Or.inr rfl) (pe_op op_add (pe_op op_add (pv 1) pe_int) (pe_op op_mul pe_int (pv 6))))
      (pss_cons (ps_set (i := 8) sc_law_parts.nd rfl (by first | exact Or.inl rfl | exact Or.inr rfl) (pe_op op_mod (pe_callTy call_int1' (by rfl) T.u_int (by decide +kernel) (pa_cons (pe_ix (ix_listK (K := K) rfl) (pv 0) (pv 7) (fun _ _ => rfl)) pa_nil)) (pe_callB (call_lenK (K := K) rfl) (by rfl) T.u_len PySem.boot_len (pa_cons (pv 3) pa_nil))))
      (pss_cons (ps_set (i := 9) sc_law_parts.nd rfl (by first | exact Or.inl rfl | exact Or.inr rfl) (pe_op op_mod (pe_callTy call_int1' (by rfl) T.u_int (by decide +kernel) (pa_cons (pe_op op_add (pe_op op_add (pv 8) pe_int) (pe_op op_mod (pe_callTy call_int1' (by rfl) T.u_int (by decide +kernel) (pa_cons (pe_ix (ix_listK (K := K) rfl) (pv 0) (pe_op op_add (pv 7) pe_int) (fun _ _ => rfl)) pa_nil)) (pe_op op_sub (pe_callB (call_lenK (K := K) rfl) (by rfl) T.u_len PySem.boot_len (pa_cons (pv 3) pa_nil)) pe_int))) pa_nil)) (pe_callB (call_lenK (K := K) rfl) (by rfl) T.u_len PySem.boot_len (pa_cons (pv 3) pa_nil))))
      (pss_cons (ps_set (i := 10) sc_law_parts.nd rfl (by first | exact Or.inl rfl | exact Or.inr rfl) (pe_lst pa_nil))
      (pss_cons (ps_for PassesOwn.never rfl (pi_range1 (by rfl) T.u_range (pa_cons (pe_callB (call_lenK (K := K) rfl) (by rfl) T.u_len PySem.boot_len (pa_cons (pv 2) pa_nil)) pa_nil)) (pg_name (i := 11) sc_law_parts.nd rfl (by first | exact Or.inl rfl | exact Or.inr rfl))
      (pss_one (ps_if (pt_cmpR (op_eq) (pe_op op_mod (pe_callTy call_int1' (by rfl) T.u_int (by decide +kernel) (pa_cons (pe_ix (ix_listK (K := K) rfl) (pv 0) (pe_op op_add (pe_op op_add (pv 7) pe_int) (pv 11)) (fun _ _ => rfl)) pa_nil)) pe_int) pe_int (nomark _)) (pss_one (ps_expr (pe_bm PySem.F.plainAttrs_list PySem.F.slot_list_append PySem.F.type_list_append mt_append (pv 10) (pa_cons pe_non pa_nil))))
      (pss_cons (ps_set (i := 12) sc_law_parts.nd rfl (by first | exact Or.inl rfl | exact Or.inr rfl) (pe_op op_add pe_int (pe_op op_mod (pe_callTy call_int1' (by rfl) T.u_int (by decide +kernel) (pa_cons (pe_ix (ix_listK (K := K) rfl) (pv 0) (pe_op op_add (pe_op op_add (pv 7) pe_int) (pv 11)) (fun _ _ => rfl)) pa_nil)) pe_int)))
      (pss_one (ps_expr (pe_bm PySem.F.plainAttrs_list PySem.F.slot_list_append PySem.F.type_list_append mt_append (pv 10) (pa_cons (pe_tup (pa_cons (pv 12) (pa_cons (pe_op op_add (pv 12) (pe_op op_mod (pe_callTy call_int1' (by rfl) T.u_int (by decide +kernel) (pa_cons (pe_ix (ix_listK (K := K) rfl) (pv 0) (pe_op op_add (pe_op op_add (pv 7) pe_int) (pv 11)) (fun _ _ => rfl)) pa_nil)) pe_int)) pa_nil))) pa_nil))))))))
      (pss_one (ps_expr (pe_bm PySem.F.plainAttrs_list PySem.F.slot_list_append PySem.F.type_list_append mt_append (pv 5) (pa_cons (pe_tup (pa_cons (pe_ix (ix_listK (K := K) rfl) (pv 4) (pv 6) (fun _ _ => rfl)) (pa_cons (pe_ix (ix_listK (K := K) rfl) (pv 3) (pv 8) (fun _ _ => rfl)) (pa_cons (pe_ix (ix_listK (K := K) rfl) (pv 3) (pv 9) (fun _ _ => rfl)) (pa_cons (pe_callTy (call_tupNK (K := K) rfl) (by rfl) T.u_tuple (by decide +kernel) (pa_cons (pv 10) pa_nil)) pa_nil))))) pa_nil))))))))))
      (pss_cons (ps_set (i := 13) sc_law_parts.nd rfl (by first | exact Or.inl rfl | exact Or.inr rfl) (pe_lst pa_nil))
      (pss_cons (ps_for PassesOwn.never rfl (pi_range1 (by rfl) T.u_range (pa_cons (pe_op op_mod (pe_callTy call_int1' (by rfl) T.u_int (by decide +kernel) (pa_cons (pe_ix (ix_listK (K := K) rfl) (pv 0) (pe_op op_add (pv 1) pe_int) (fun _ _ => rfl)) pa_nil)) pe_int) pa_nil)) (pg_name (i := 6) sc_law_parts.nd rfl (by first | exact Or.inl rfl | exact Or.inr rfl))
      (pss_cons (ps_set (i := 8) sc_law_parts.nd rfl (by first | exact Or.inl rfl | exact Or.inr rfl) (pe_op op_mod (pe_callTy call_int1' (by rfl) T.u_int (by decide +kernel) (pa_cons (pe_ix (ix_listK (K := K) rfl) (pv 0) (pe_op op_add (pe_op op_add (pv 1) pe_int) (pe_op op_mul pe_int (pv 6))) (fun _ _ => rfl)) pa_nil)) (pe_callB (call_lenK (K := K) rfl) (by rfl) T.u_len PySem.boot_len (pa_cons (pv 3) pa_nil))))
      (pss_cons (ps_set (i := 9) sc_law_parts.nd rfl (by first | exact Or.inl rfl | exact Or.inr rfl) (pe_op op_mod (pe_callTy call_int1' (by rfl) T.u_int (by decide +kernel) (pa_cons (pe_op op_add (pe_op op_add (pv 8) pe_int) (pe_op op_mod (pe_callTy call_int1' (by rfl) T.u_int (by decide +kernel) (pa_cons (pe_ix (ix_listK (K := K) rfl) (pv 0) (pe_op op_add (pe_op op_add (pv 1) pe_int) (pe_op op_mul pe_int (pv 6))) (fun _ _ => rfl)) pa_nil)) (pe_op op_sub (pe_callB (call_lenK (K := K) rfl) (by rfl) T.u_len PySem.boot_len (pa_cons (pv 3) pa_nil)) pe_int))) pa_nil)) (pe_callB (call_lenK (K := K) rfl) (by rfl) T.u_len PySem.boot_len (pa_cons (pv 3) pa_nil))))
      (pss_cons (ps_set (i := 14) sc_law_parts.nd rfl (by first | exact Or.inl rfl | exact Or.inr rfl) (pe_op op_cat (pe_lc (own := [("_law_path", 15)]) rfl sc_law_parts.nd (pi_listK (K := K) rfl (pv 13)) (blkOk_by (own := [("_law_path", 15)]) (N := N_law_parts) (sc := (defScope s_law_parts)) (by decide +kernel)) (fun _ _ _ _ _ => (pg_name (i := 15) sc_law_parts.nd rfl (by first | exact Or.inl rfl | exact Or.inr rfl))) (fun _ _ _ _ _ => pts_nil) (fun _ _ _ _ _ => (pe_tup (pa_cons (pe_ix (ix_tupK (K := K) rfl) (pv 15) pe_int (fun _ _ => rfl)) (pa_cons (pe_ix (ix_tupK (K := K) rfl) (pv 15) pe_int (fun _ _ => rfl)) pa_nil))))) (pe_lc (own := [("_law_path", 15)]) rfl sc_law_parts.nd (pi_listK (K := K) rfl (pv 13)) (blkOk_by (own := [("_law_path", 15)]) (N := N_law_parts) (sc := (defScope s_law_parts)) (by decide +kernel)) (fun _ _ _ _ _ => (pg_name (i := 15) sc_law_parts.nd rfl (by first | exact Or.inl rfl | exact Or.inr rfl))) (fun _ _ _ _ _ => pts_nil) (fun _ _ _ _ _ => (pe_tup (pa_cons (pe_ix (ix_tupK (K := K) rfl) (pv 15) pe_int (fun _ _ => rfl)) (pa_cons (pe_ix (ix_tupK (K := K) rfl) (pv 15) pe_int (fun _ _ => rfl)) pa_nil)))))))
      (pss_one (ps_if (pt_cmpR (op_notInDK (K := K) (hu65 hr) rfl) (pe_tup (pa_cons (pe_ix (ix_listK (K := K) rfl) (pv 3) (pv 8) (fun _ _ => rfl)) (pa_cons (pe_ix (ix_listK (K := K) rfl) (pv 3) (pv 9) (fun _ _ => rfl)) pa_nil))) (pv 14) (by rfl)) (pss_one (ps_expr (pe_bm PySem.F.plainAttrs_list PySem.F.slot_list_append PySem.F.type_list_append mt_append (pv 13) (pa_cons (pe_tup (pa_cons (pe_ix (ix_listK (K := K) rfl) (pv 3) (pv 8) (fun _ _ => rfl)) (pa_cons (pe_ix (ix_listK (K := K) rfl) (pv 3) (pv 9) (fun _ _ => rfl)) (pa_cons (pe_op op_add pe_int (pe_op op_mod (pe_callTy call_int1' (by rfl) T.u_int (by decide +kernel) (pa_cons (pe_ix (ix_listK (K := K) rfl) (pv 0) (pe_op op_add (pe_op op_add (pv 1) pe_int) (pe_op op_mul pe_int (pv 6))) (fun _ _ => rfl)) pa_nil)) pe_int)) pa_nil)))) pa_nil))))
      pss_nil))))))
      (pss_one (ps_ret (pe_lst (pa_cons (pe_callTy (call_tupNK (K := K) rfl) (by rfl) T.u_tuple (by decide +kernel) (pa_cons (pv 2) pa_nil)) (pa_cons (pe_callTy (call_tupNK (K := K) rfl) (by rfl) T.u_tuple (by decide +kernel) (pa_cons (pv 3) pa_nil)) (pa_cons (pe_callTy (call_tupNK (K := K) rfl) (by rfl) T.u_tuple (by decide +kernel) (pa_cons (pv 5) pa_nil)) (pa_cons (pe_callTy (call_tupNK (K := K) rfl) (by rfl) T.u_tuple (by decide +kernel) (pa_cons (pv 13) pa_nil)) pa_nil)))))))))))))), ?_⟩
    obtain ⟨ns, hN, hA, q⟩ := h
    obtain ⟨v1, v2, rfl, h1, h2⟩ := two_inv hA
    have hN : NOk ns 190 := hN
    have h1 : Dp K H v1 (.list (dInts ns)) := h1
    cases h2.int_inv
    have nm : ∀ i : Int, 0 ≤ i → i < 190 → ∃ n, 0 ≤ n ∧ n < 1009 ∧ L2.atI (dInts ns) i = some (.int n) := fun i h0 h1 => num_at hN h0 h1
    obtain ⟨n0, n00, n01, hn0⟩ := nm 0 (by decide) (by decide)
    obtain ⟨n1, n10, n11, hn1⟩ := nm (0 + 1) (by decide) (by decide)
    obtain ⟨c10, c11⟩ := mod_in (a := n1) (b := 3) (by decide)
    refine s_asgR (er_call (a := (n0, 1 + n1 % 3)) ⟨n00, n01, by omega, by omega⟩ (eg_D (ed_cons (Ev.dI (ev_num rfl h1 (ev_var (v := .int 0) rfl) hn0)) (ed1 (Ev.dI (ev_add ev_c (ev_mod (ev_int1 (ev_num rfl h1 (ev_add (ev_var (v := .int 0) rfl) ev_c) hn1)) ev_c (by decide)))))))) fun vw Ha1 H1 ea1 eb1 hvw => ?_
    obtain ⟨ws, hws, hvw⟩ := hvw
    have hw1 := hvw.toD
    have e1 := ea1.trans eb1
    obtain ⟨n2, n20, n21, hn2⟩ := nm (0 + 2) (by decide) (by decide)
    obtain ⟨n3, n30, n31, hn3⟩ := nm (0 + 3) (by decide) (by decide)
    obtain ⟨c30, c31⟩ := mod_in (a := n3) (b := 6) (by decide)
    try dsimp only
    refine s_asgR (er_call (a := (n2, 2 + n3 % 6)) ⟨n20, n21, by omega, by omega⟩ (eg_D (ed_cons (Ev.dI (ev_num rfl (h1.ex e1) (ev_add (ev_var (v := .int 0) rfl) ev_c) hn2)) (ed1 (Ev.dI (ev_add ev_c (ev_mod (ev_int1 (ev_num rfl (h1.ex e1) (ev_add (ev_var (v := .int 0) rfl) ev_c) hn3)) ev_c (by decide)))))))) fun vp Ha2 H2 ea2 eb2 hvp => ?_
    obtain ⟨ps, hps, hvp⟩ := hvp
    have hp2 := hvp.toD
    have e12 := ea2.trans eb2
    obtain ⟨n4, n40, n41, hn4⟩ := nm (0 + 4) (by decide) (by decide)
    try dsimp only
    refine s_asgR (er_call (a := (n4, 10)) ⟨n40, n41, (by show (0 : Int) ≤ 10; decide), (by show (10 : Int) ≤ 10; decide)⟩ (eg_D (ed_cons (Ev.dI (ev_num rfl ((h1.ex e1).ex e12) (ev_add (ev_var (v := .int 0) rfl) ev_c) hn4)) (ed1 (Ev.dI ev_c))))) fun vn Ha3 Hb ea3 eb3 hvn => ?_
    obtain ⟨nms, hnms, hvn⟩ := hvn
    have hnb := hvn.toD
    have e23 := ea3.trans eb3
    have eHb : Ex H Hb := (e1.trans e12).trans e23
    have h1b : Dp K Hb v1 (.list (dInts ns)) := h1.ex eHb
    have hwb : Dp K Hb vw (.list (ws.map .str)) := (hw1.ex e12).ex e23
    have hpb : Dp K Hb vp (.list (ps.map .str)) := hp2.ex e23
    have hnb : Dp K Hb vn (.list (nms.map .str)) := hnb
    clear hvw hvp hvn
    have hwl : ws.length = (1 + n1 % 3).toNat := hws.len
    have hpl : ps.length = (2 + n3 % 6).toNat := hps.len
    have hnl : nms.length = 10 := hnms.len
    have hL0 : (0 : Int) < ps.length := by omega
    have hL1 : (0 : Int) < (ps.length : Int) - 1 := by omega
    have lenP : ∀ (Hn : Hp) (σn : L2.St), Ex Hb Hn → σn[3]? = some (some vp) → Ev (tCB (rLen K) (tCons (tVar 3) tNil)) σn Hn (.int (ps.length : Int)) := fun Hn σn e z => ev_is (ev_lenL (evd_var z (hpb.ex e))) (by rw [List.length_map])
    have lenW : ∀ (Hn : Hp) (σn : L2.St), Ex Hb Hn → σn[2]? = some (some vw) → Ev (tCB (rLen K) (tCons (tVar 2) tNil)) σn Hn (.int (ws.length : Int)) := fun Hn σn e z => ev_is (ev_lenL (evd_var z (hwb.ex e))) (by rw [List.length_map])
    try dsimp only
    refine s_asgF (K := K) (evf_lst (ds := []) ed_nil (by simp)) fun pl xl H4 hpl0 e4 hxl hal => ?_
    cases hal
    obtain ⟨n5, n50, n51, hn5⟩ := nm (0 + 5) (by decide) (by decide)
    obtain ⟨c50, c51⟩ := mod_in (a := n5) (b := 11) (by decide)
    try dsimp only
    refine s_forR1 (n := n5 % 11) (ea_cons (ev_mod (ev_int1 (ev_num rfl (h1b.ex e4) (ev_add (ev_var (v := .int 0) rfl) ev_c) hn5)) ev_c (by decide)) ea_nil) ⟨c50, by omega⟩ (fun i σ' H' => Ex Hb H' ∧ ∃ (a6 a7 a8 a9 a10 a11 a12 a13 a14 a15 : Option V) (ls : List Lk), σ' = [some v1, some (.int 0), some vw, some vp, some vn, some (.ref pl), a6, a7, a8, a9, a10, a11, a12, a13, a14, a15] ∧ ls.map (·.nm) = nms.take i ∧ ls.length = i ∧ (∀ l ∈ ls, LkOk ws.length ps l) ∧ LAt K H' pl (ls.map dL)) (fun H5 e5 => ⟨e4.trans e5, _, _, _, _, _, _, _, _, _, _, [], rfl, rfl, rfl, (fun _ h => by cases h), ⟨[], e5 _ _ hxl, .nil⟩⟩) (fun i σ' H' hlt k => ?_) fun σ' H' k => ?_
    · obtain ⟨e, a6, a7, a8, a9, a10, a11, a12, a13, a14, a15, ls, rfl, hnames, hlen, hok, hL⟩ := k
      have hi10 : i < 10 := by omega
      obtain ⟨nme, hnme, hnmem⟩ := get_lt (l := nms) (i := i) (by omega)
      show tSeq _ _ _ _ _
      refine s_asg (ev_add (ev_add (ev_var (v := .int 0) rfl) ev_c) (ev_mul ev_c (ev_var (v := .int (i : Int)) rfl) (mulL (by decide)))) fun H5 f5 => ?_
      have e5 := e.trans f5
      generalize hsp : 0 + 6 + 8 * (i : Int) = spot
      obtain ⟨m1, _, _, hm1⟩ := nm spot (by omega) (by omega)
      obtain ⟨o0, o1⟩ := mod_in (a := m1) hL0
      try dsimp only
      refine s_asg (ev_mod (ev_int1 (ev_num rfl (h1b.ex e5) (ev_var rfl) hm1)) (lenP _ _ e5 rfl) hL0) fun H6 f6 => ?_
      have e6 := e5.trans f6
      generalize m1 % (ps.length : Int) = one at o0 o1
      obtain ⟨m2, _, _, hm2⟩ := nm (spot + 1) (by omega) (by omega)
      obtain ⟨x0, x1⟩ := mod_in (a := m2) hL1
      try dsimp only
      refine s_asg (ev_mod (ev_int1 (ev_add (ev_add (ev_var (v := .int one) rfl) ev_c) (ev_mod (ev_int1 (ev_num rfl (h1b.ex e6) (ev_add (ev_var (v := .int spot) rfl) ev_c) hm2)) (ev_sub (lenP _ _ e6 rfl) ev_c) hL1))) (lenP _ _ e6 rfl) hL0) fun H7 f7 => ?_
      have e7 := e6.trans f7
      have hne := other_ne o0 o1 x0 x1
      obtain ⟨t0, t1⟩ := mod_in (a := one + 1 + m2 % ((ps.length : Int) - 1)) hL0
      generalize (one + 1 + m2 % ((ps.length : Int) - 1)) % (ps.length : Int) = oth at hne t0 t1
      obtain ⟨za, hza, hzam, hzat⟩ := str_at o0 o1
      obtain ⟨zb, hzb, hzbm, hzbt⟩ := str_at t0 t1
      have hzne := nodup_at hps.nd hza hzb o0 t0 hne
      have hL7 := hL.ex (f5.trans (f6.trans f7))
      try dsimp only
      refine s_asgF (K := K) (evf_lst (ds := []) ed_nil (by simp)) fun pt xt H8 hpt e8 hxt hat => ?_
      cases hat
      have hptb : Hb pt = none := fresh_back e7 hpt
      have hplt : pl ≠ pt := fun z => by
        obtain ⟨y, hy, _⟩ := hL7
        rw [← z, hy] at hpt
        cases hpt
      obtain ⟨yl, hyl, hydl⟩ := hL7.ex e8
      have e8' := e7.trans e8
      try dsimp only
      refine s_forR1 (n := (ws.length : Int)) (ea_cons (lenW _ _ e8' rfl) ea_nil) ⟨by omega, by omega⟩ (fun j σ' H' => Ex Hb H' ∧ But pt H8 H' ∧ ∃ (a11 a12 a13 a14 a15 : Option V) (ts : List (Option (Int × Int))), σ' = [some v1, some (.int 0), some vw, some vp, some vn, some (.ref pl), some (.int (i : Int)), some (.int spot), some (.int one), some (.int oth), some (.ref pt), a11, a12, a13, a14, a15] ∧ ts.length = j ∧ (∀ t ∈ ts, PairOk t) ∧ LAt K H' pt (ts.map dP)) (fun H5 e5 => ⟨e8'.trans e5, But.of_ex e5, _, _, _, _, _, [], rfl, rfl, (fun _ h => by cases h), ⟨[], e5 _ _ hxt, .nil⟩⟩) (fun j σ' H' hlt2 k => ?_) fun σ' H' k => ?_
      · obtain ⟨e, bt, a11, a12, a13, a14, a15, ts, rfl, hlen2, hok2, hL2⟩ := k
        obtain ⟨m3, _, _, hm3⟩ := nm (spot + 2 + (j : Int)) (by omega) (by omega)
        obtain ⟨m4, _, _, hm4⟩ := nm (spot + 5 + (j : Int)) (by omega) (by omega)
        have htl : (ts.map dP).length < 100000 := by rw [List.length_map]; omega
        have at3 : ∀ (Hn : Hp) (σn : L2.St), Ex H' Hn → σn[0]? = some (some v1) → σn[7]? = some (some (.int spot)) → σn[11]? = some (some (.int (j : Int))) → Ev (tOp (rIxL K) (tVar 0) (tOp (rI0 fun i j => .int (i + j)) (tOp (rI0 fun i j => .int (i + j)) (tVar 7) (tC (.int 2))) (tVar 11))) σn Hn (.int m3) := fun Hn σn en z1 z2 z3 => ev_num z1 (h1b.ex (e.trans en)) (ev_add (ev_add (ev_var z2) ev_c) (ev_var z3)) hm3
        have at4 : ∀ (Hn : Hp) (σn : L2.St), Ex H' Hn → σn[0]? = some (some v1) → σn[7]? = some (some (.int spot)) → σn[11]? = some (some (.int (j : Int))) → Ev (tOp (rIxL K) (tVar 0) (tOp (rI0 fun i j => .int (i + j)) (tOp (rI0 fun i j => .int (i + j)) (tVar 7) (tC (.int 5))) (tVar 11))) σn Hn (.int m4) := fun Hn σn en z1 z2 z3 => ev_num z1 (h1b.ex (e.trans en)) (ev_add (ev_add (ev_var z2) ev_c) (ev_var z3)) hm4
        have fin : ∀ t : Option (Int × Int), PairOk t → (∀ z ∈ ts ++ [t], PairOk z) := fun t ht z hz => by
          rcases List.mem_append.mp hz with hz | hz
          · exact hok2 z hz
          · rw [List.mem_singleton.mp hz]; exact ht
        try dsimp only
        refine s_if (b := decide (m3 % 4 = 0)) (et_test (Ev.to (ev_eqv (ev_mod (ev_int1 (at3 _ _ (Ex.refl _) rfl rfl rfl)) ev_c (by decide)) ev_c rfl) (by simp))) (fun _ H9 e9 => ?_) (fun _ H9 e9 => ?_)
        · refine s_app' (hL2.ex e9) (immAll_map imm_dP _) (imm_dP none) (ev_var rfl) (Ev.dN ev_c) htl fun H10 w H11 e10 _ eq hL11 _ => ?_
          refine ⟨by rw [eq]; exact ((e.trans e9).trans e10).mut hptb, by rw [eq]; exact ((bt.ex e9).ex e10).upd, _, _, _, _, _, ts ++ [none], rfl, by rw [List.length_append, hlen2]; rfl, fin none (fun q h => by cases h), ?_⟩
          rw [List.map_append]
          exact hL11
        · show tSeq _ _ _ _ _
          refine s_asg (ev_add ev_c (ev_mod (ev_int1 (at3 _ _ e9 rfl rfl rfl)) ev_c (by decide))) fun H10 f10 => ?_
          have e10 := e9.trans f10
          obtain ⟨y0, y1⟩ := mod_in (a := m3) (b := 9) (by decide)
          obtain ⟨y2, y3⟩ := mod_in (a := m4) (b := 7) (by decide)
          try dsimp only
          refine s_app' (d := dP (some (1 + m3 % 9, 1 + m3 % 9 + m4 % 7))) (hL2.ex e10) (immAll_map imm_dP _) (imm_dP _) (ev_var rfl) (evd_tup (ed_cons (d := .int (1 + m3 % 9)) (Ev.dI (ev_var rfl)) (ed1 (d := .int (1 + m3 % 9 + m4 % 7)) (Ev.dI (ev_add (ev_var rfl) (ev_mod (ev_int1 (at4 _ _ e10 rfl rfl rfl)) ev_c (by decide)))))) (by simp)) htl fun H11 w H12 e11 _ eq hL12 _ => ?_
          refine ⟨by rw [eq]; exact ((e.trans e10).trans e11).mut hptb, by rw [eq]; exact ((bt.ex e10).ex e11).upd, _, _, _, _, _, ts ++ [some (1 + m3 % 9, 1 + m3 % 9 + m4 % 7)], rfl, by rw [List.length_append, hlen2]; rfl, fin _ (fun q h => by cases h; exact ⟨by show 1 ≤ 1 + m3 % 9; omega, by show 1 + m3 % 9 ≤ 1 + m3 % 9 + m4 % 7; omega, by show 1 + m3 % 9 + m4 % 7 ≤ 1000; omega⟩), ?_⟩
          rw [List.map_append]
          exact hL12
      · obtain ⟨e, bt, a11, a12, a13, a14, a15, ts, rfl, hlen2, hok2, hL2⟩ := k
        rw [Int.toNat_natCast] at hlen2
        have kt : Kt H8 H' := But.kt bt hxt rfl
        have hLp : LAt K H' pl (ls.map dL) := ⟨yl, bt _ _ hplt hyl, hydl.kt kt (immAll_map imm_dL _)⟩
        have hplb : Hb pl = none := hpl0
        try dsimp only
        refine s_appE (H0 := Hb) (d := dL ⟨nme, za, zb, ts⟩) hplb e hLp (immAll_map imm_dL _) (imm_dL _) (ev_var rfl) (evd_tup (ed_cons (d := .str nme) (evd_ixL (evd_var rfl (hnb.ex e)) (ev_var (v := .int (i : Int)) rfl) (atI_of (Int.natCast_nonneg _) (by rw [Int.toNat_natCast, List.getElem?_map, hnme]; rfl))) (ed_cons (d := .str za) (evd_ixL (evd_var rfl (hpb.ex e)) (ev_var (v := .int one) rfl) hzat) (ed_cons (d := .str zb) (evd_ixL (evd_var rfl (hpb.ex e)) (ev_var (v := .int oth) rfl) hzbt) (ed1 (d := .tuple (ts.map dP)) (evd_tupN (evd_var rfl hL2.toD)))))) (by simp)) (by rw [List.length_map]; omega) fun H9 e9 hL9 => ⟨e9, _, _, _, _, _, _, _, _, _, _, ls ++ [⟨nme, za, zb, ts⟩], rfl, by rw [List.map_append, hnames, take_snoc hnme]; rfl, by rw [List.length_append, hlen]; rfl, fun l hl => ?_, by rw [List.map_append]; exact hL9⟩
        rcases List.mem_append.mp hl with hl | hl
        · exact hok l hl
        · rw [List.mem_singleton.mp hl]
          exact ⟨hnms.ok nme hnmem, hzam, hzbm, hzne, hlen2, hok2⟩
    · obtain ⟨e, a6, a7, a8, a9, a10, a11, a12, a13, a14, a15, ls, rfl, hnames, hlen, hok, hL⟩ := k
      have hls10 : ls.length ≤ 10 := by omega
      try dsimp only
      refine s_asgF (K := K) (evf_lst (ds := []) ed_nil (by simp)) fun pp xp H5 hpp e5 hxp hap => ?_
      cases hap
      have hppb : Hb pp = none := fresh_back e hpp
      have hplp : pl ≠ pp := fun z => by
        obtain ⟨y, hy, _⟩ := hL
        rw [← z, hy] at hpp
        cases hpp
      obtain ⟨yl, hyl, hydl⟩ := hL.ex e5
      have e5' := e.trans e5
      obtain ⟨n6, n60, n61, hn6⟩ := nm (0 + 88) (by decide) (by decide)
      obtain ⟨c60, c61⟩ := mod_in (a := n6) (b := 7) (by decide)
      try dsimp only
      refine s_forR1 (n := n6 % 7) (ea_cons (ev_mod (ev_int1 (ev_num rfl (h1b.ex e5') (ev_add (ev_var (v := .int 0) rfl) ev_c) hn6)) ev_c (by decide)) ea_nil) ⟨c60, by omega⟩ (fun i σ' H' => Ex Hb H' ∧ But pp H5 H' ∧ ∃ (a6 a7 a8 a9 a10 a11 a12 a14 a15 : Option V) (pt : List Pth), σ' = [some v1, some (.int 0), some vw, some vp, some vn, some (.ref pl), a6, a7, a8, a9, a10, a11, a12, some (.ref pp), a14, a15] ∧ pt.length ≤ i ∧ (∀ p ∈ pt, PthOk ps p) ∧ (pt.Pairwise fun p q => ¬ (p.one = q.one ∧ p.oth = q.oth) ∧ ¬ (p.one = q.oth ∧ p.oth = q.one)) ∧ LAt K H' pp (pt.map dT)) (fun H6 e6 => ⟨e5'.trans e6, But.of_ex e6, _, _, _, _, _, _, _, _, _, [], rfl, by simp, (fun _ h => by cases h), .nil, ⟨[], e6 _ _ hxp, .nil⟩⟩) (fun i σ' H' hlt k => ?_) fun σ' H' k => ?_
      · obtain ⟨e, bt, a6, a7, a8, a9, a10, a11, a12, a14, a15, pt, rfl, hlen2, hok2, hpw, hL2⟩ := k
        have hi6 : i < 6 := by omega
        have sp : ∀ (c : Int) (Hn : Hp) (σn : L2.St), σn[1]? = some (some (.int 0)) → σn[6]? = some (some (.int (i : Int))) → Ev (tOp (rI0 fun i j => .int (i + j)) (tOp (rI0 fun i j => .int (i + j)) (tVar 1) (tC (.int c))) (tOp (rI CMul fun i j => .int (i * j)) (tC (.int 3)) (tVar 6))) σn Hn (.int (0 + c + 3 * (i : Int))) := fun c Hn σn z1 z2 => ev_add (ev_add (ev_var z1) ev_c) (ev_mul ev_c (ev_var z2) (mulL (by decide)))
        obtain ⟨m1, _, _, hm1⟩ := nm (0 + 89 + 3 * (i : Int)) (by omega) (by omega)
        obtain ⟨m2, _, _, hm2⟩ := nm (0 + 90 + 3 * (i : Int)) (by omega) (by omega)
        obtain ⟨m3, _, _, hm3⟩ := nm (0 + 91 + 3 * (i : Int)) (by omega) (by omega)
        obtain ⟨o0, o1⟩ := mod_in (a := m1) hL0
        show tSeq _ _ _ _ _
        refine s_asg (ev_mod (ev_int1 (ev_num rfl (h1b.ex e) (sp 89 _ _ rfl rfl) hm1)) (lenP _ _ e rfl) hL0) fun H6 f6 => ?_
        have e6 := e.trans f6
        generalize m1 % (ps.length : Int) = one at o0 o1
        obtain ⟨x0, x1⟩ := mod_in (a := m2) hL1
        try dsimp only
        refine s_asg (ev_mod (ev_int1 (ev_add (ev_add (ev_var (v := .int one) rfl) ev_c) (ev_mod (ev_int1 (ev_num rfl (h1b.ex e6) (sp 90 _ _ rfl rfl) hm2)) (ev_sub (lenP _ _ e6 rfl) ev_c) hL1))) (lenP _ _ e6 rfl) hL0) fun H7 f7 => ?_
        have e7 := e6.trans f7
        have hne := other_ne o0 o1 x0 x1
        obtain ⟨t0, t1⟩ := mod_in (a := one + 1 + m2 % ((ps.length : Int) - 1)) hL0
        generalize (one + 1 + m2 % ((ps.length : Int) - 1)) % (ps.length : Int) = oth at hne t0 t1
        obtain ⟨za, hza, hzam, hzat⟩ := str_at o0 o1
        obtain ⟨zb, hzb, hzbm, hzbt⟩ := str_at t0 t1
        have hzne := nodup_at hps.nd hza hzb o0 t0 hne
        have hL7 := hL2.ex (f6.trans f7)
        have sok : ∀ z ∈ ps, PyData.strOk z = true := fun z hz => strOk_name (hps.ok z hz)
        try dsimp only
        refine s_asgF (K := K) (evf_cat (evf_aL (l := pt) (enc := dT) (gv := fun p => dSS (p.one, p.oth)) gm_name (evd_var rfl hL7.toD) (by omega) (fun p _ => by simp [dSS, imm, immAll]) fun j p y Hn hj en hy => ⟨Ex.refl _, rfl, ?_⟩) (evf_aL (l := pt) (enc := dT) (gv := fun p => dSS (p.oth, p.one)) gm_name (evd_var rfl hL7.toD) (by omega) (fun p _ => by simp [dSS, imm, immAll]) fun j p y Hn hj en hy => ⟨Ex.refl _, rfl, ?_⟩) (by rw [List.length_map, List.length_map]; omega)) fun pk xk H8 hpk e8 hxk hak => ?_
        · have hy : Dp K Hn y (.tuple [.str p.one, .str p.oth, .int p.mi]) := hy
          exact evd_tup (ed_cons (d := .str p.one) (evd_ixT (evd_var rfl hy) ev_c (atI_of (by decide) rfl)) (ed1 (d := .str p.oth) (evd_ixT (evd_var rfl hy) ev_c (atI_of (by decide) rfl)))) (by simp)
        · have hy : Dp K Hn y (.tuple [.str p.one, .str p.oth, .int p.mi]) := hy
          exact evd_tup (ed_cons (d := .str p.oth) (evd_ixT (evd_var rfl hy) ev_c (atI_of (by decide) rfl)) (ed1 (d := .str p.one) (evd_ixT (evd_var rfl hy) ev_c (atI_of (by decide) rfl)))) (by simp)
        have e8' := e7.trans e8
        have pa : ∀ (Hn : Hp) (σn : L2.St), Ex Hb Hn → σn[3]? = some (some vp) → σn[8]? = some (some (.int one)) → EvD K (tOp (rIxL K) (tVar 3) (tVar 8)) σn Hn (.str za) := fun Hn σn en z1 z2 => evd_ixL (evd_var z1 (hpb.ex en)) (ev_var z2) hzat
        have pb : ∀ (Hn : Hp) (σn : L2.St), Ex Hb Hn → σn[3]? = some (some vp) → σn[9]? = some (some (.int oth)) → EvD K (tOp (rIxL K) (tVar 3) (tVar 9)) σn Hn (.str zb) := fun Hn σn en z1 z2 => evd_ixL (evd_var z1 (hpb.ex en)) (ev_var z2) hzbt
        have hk : Dp K H8 (.ref pk) (.list ((pt.map fun p => dSS (p.one, p.oth)) ++ pt.map fun p => dSS (p.oth, p.one))) := .lst (SqL.of hxk) hak
        try dsimp only
        refine s_if (et_test (ev_niD (d := dSS (za, zb)) (evd_tup (ed_cons (pa _ _ e8' rfl rfl) (ed1 (pb _ _ e8' rfl rfl))) (by simp)) (evd_var rfl hk) ((sh_SS ⟨sok _ hzam, sok _ hzbm⟩).ok (by decide)) ((sh_lst (n := 2) ?_).ok (by decide)))) (fun hb H9 f9 => ?_) (fun hb H9 f9 => ?_)
        · have s1 : ShAll 2 (pt.map fun p => dSS (p.one, p.oth)) := shA_map fun p hp => sh_SS ⟨sok _ (hok2 p hp).one, sok _ (hok2 p hp).oth⟩
          have s2 : ShAll 2 (pt.map fun p => dSS (p.oth, p.one)) := shA_map fun p hp => sh_SS ⟨sok _ (hok2 p hp).oth, sok _ (hok2 p hp).one⟩
          have : ∀ l : List PyData, ShAll 2 l → ShAll 2 (l ++ pt.map fun p => dSS (p.oth, p.one)) := fun l => by
            induction l with
            | nil => intro _; exact s2
            | cons d l ih =>
              intro hd
              have a1 := hd.1
              have a2 := hd.2
              simp only [PyData.canLayAll0, Bool.and_eq_true, PyData.depthAll] at a1 a2
              exact shA_cons ⟨a1.1, by omega⟩ (ih ⟨a1.2, by omega⟩)
          exact this _ s1
        · have e9 := e8'.trans f9
          have hnew := known_no (a := za) (b := zb) (by simpa using hb)
          obtain ⟨y0, y1⟩ := mod_in (a := m3) (b := 9) (by decide)
          have hppb : Hb pp = none := hppb
          refine s_app' (d := dT ⟨za, zb, 1 + m3 % 9⟩) ((hL7.ex e8).ex f9) (immAll_map imm_dT _) (imm_dT _) (ev_var rfl) (evd_tup (ed_cons (pa _ _ e9 rfl rfl) (ed_cons (pb _ _ e9 rfl rfl) (ed1 (d := .int (1 + m3 % 9)) (Ev.dI (ev_add ev_c (ev_mod (ev_int1 (ev_num rfl (h1b.ex e9) (sp 91 _ _ rfl rfl) hm3)) ev_c (by decide))))))) (by simp)) (by rw [List.length_map]; omega) fun H10 w H11 e10 _ eq hL11 _ => ?_
          refine ⟨by rw [eq]; exact (e9.trans e10).mut hppb, by rw [eq]; exact ((((bt.ex (f6.trans f7)).ex e8).ex f9).ex e10).upd, _, _, _, _, _, _, _, _, _, pt ++ [⟨za, zb, 1 + m3 % 9⟩], rfl, by rw [List.length_append]; show pt.length + 1 ≤ i + 1; omega, fun p hp => ?_, ?_, by rw [List.map_append]; exact hL11⟩
          · rcases List.mem_append.mp hp with hp | hp
            · exact hok2 p hp
            · rw [List.mem_singleton.mp hp]
              exact ⟨hzam, hzbm, hzne, by show 1 ≤ 1 + m3 % 9; omega, by show 1 + m3 % 9 ≤ 1000; omega⟩
          · rw [List.pairwise_append]
            refine ⟨hpw, List.pairwise_singleton _ _, fun p hp q hq => ?_⟩
            rw [List.mem_singleton.mp hq]
            exact hnew p hp
        · exact ⟨e8'.trans f9, ((bt.ex (f6.trans f7)).ex e8).ex f9, _, _, _, _, _, _, _, _, _, pt, rfl, by omega, hok2, hpw, (hL7.ex e8).ex f9⟩
      · obtain ⟨e, bt, a6, a7, a8, a9, a10, a11, a12, a14, a15, pt, rfl, hlen2, hok2, hpw, hL2⟩ := k
        have kt : Kt H5 H' := But.kt bt hxp rfl
        have hLp : LAt K H' pl (ls.map dL) := ⟨yl, bt _ _ hplp hyl, hydl.kt kt (immAll_map imm_dL _)⟩
        obtain ⟨aw, xw, rfl, hqw, hxw⟩ := (hwb.ex e).lst_inv
        try dsimp only
        refine ⟨_, rfl, aw, xw, rfl, .inl ⟨hqw, fun lw o hlw ho => ?_⟩⟩
        have f1 := Ex.new (o := .frz o (.tup xw)) hlw
        refine (evd_tupN (evd_var (K := K) (i := 3) rfl ((hpb.ex e).ex f1))) _ (Ex.refl _) _ fun u2 G2 g2 hu2 => ?_
        refine (evd_tupN (evd_var (K := K) (i := 5) rfl ((hLp.ex (f1.trans g2)).toD))) _ (Ex.refl _) _ fun u3 G3 g3 hu3 => ?_
        refine (evd_tupN (evd_var (K := K) (i := 13) rfl ((hL2.ex ((f1.trans g2).trans g3)).toD))) _ (Ex.refl _) _ fun u4 G4 g4 hu4 => ?_
        refine ⟨by show 4 ≤ sizeLine; decide, fun pr hpr => ?_⟩
        have gN := Ex.new (o := .lst [.ref lw, u2, u3, u4]) hpr
        have g14 : Ex (upd H' lw (.frz o (.tup xw))) (upd G4 pr (.lst [.ref lw, u2, u3, u4])) := ((g2.trans g3).trans g4).trans gN
        have hat : (upd G4 pr (.lst [.ref lw, u2, u3, u4])) lw = some (.frz o (.tup xw)) := g14 _ _ upd_same
        refine q _ _ (eHb.trans ((e.trans f1).trans g14)) ⟨⟨ws, ps, ls, pt⟩, ⟨by show 1 ≤ ws.length; omega, by show ws.length ≤ 3; omega, hws.ok, hws.nd, by show 2 ≤ ps.length; omega, by show ps.length ≤ 7; omega, hps.ok, hps.nd, hls10, hok, by show (ls.map (·.nm)).Nodup; rw [hnames]; exact hnms.nd.sublist (List.take_sublist _ _), by show pt.length ≤ 6; omega, hok2, hpw⟩, pr, [.ref lw, u2, u3, u4], lw, rfl, SqL.of upd_same, .cons (.tup (Or.inl (Or.inr ⟨o, hat⟩)) (hxw.ex (f1.trans g14))) (.cons (hu2.ex ((g3.trans g4).trans gN)) (.cons (hu3.ex (g4.trans gN)) (.cons (hu4.ex gN) .nil))), rfl, ⟨o, xw, hat, ho⟩⟩
end

theorem chs_eq (W : List (Int × Str)) (m : Int) : (chs W m).map PyData.int = [PyData.int m] ++ (W.filter fun r => decide (m < r.1)).map fun r => .int r.1 := by unfold chs; simp
section
variable {P : Program} {w : World} {K : PySem.W.Frag} {mg : Str → Option Value} {base : Heap}
theorem ok_law_caught (T : Tx K mg) : FnOk P w K mg base CX0 2 T.law_caught.a T.law_caught.fd P_law_caught (spx_law_caught K) := by
  refine (T.law_caught.F).ok sc_law_caught (fun vs H Q E h => ?_) (fun cdv A outer s H vs Q E hr h => ?_)
  · obtain ⟨a, _, ⟨vp, rest, rfl, _, hA⟩, _⟩ := h
    rw [List.length_cons, hA.len]
    rfl
  · have hu := hu_of hr
    refine ⟨_, (pss_cons (ps_set (i := 5) sc_law_caught.nd rfl (by first | exact Or.inl rfl | exact Or.inr rfl) pe_non)
      (pss_cons (ps_for PassesOwn.never rfl (pi_listK (K := K) rfl (pe_op op_cat (pe_lst (pa_cons (pv 3) pa_nil)) (pe_lc (own := [("_law_row_here", 7)]) rfl sc_law_caught.nd (pi_listK (K := K) rfl (pv 1)) (blkOk_by (own := [("_law_row_here", 7)]) (N := N_law_caught) (sc := (defScope s_law_caught)) (by decide +kernel)) (fun _ _ _ _ _ => (pg_name (i := 7) sc_law_caught.nd rfl (by first | exact Or.inl rfl | exact Or.inr rfl))) (fun _ _ _ _ _ => (pts_one (pt_cmpR (op_gt) (pe_ix (ix_tupK (K := K) rfl) (pv 7) pe_int (fun _ _ => rfl)) (pv 3) (nomark _)))) (fun _ _ _ _ _ => (pe_ix (ix_tupK (K := K) rfl) (pv 7) pe_int (fun _ _ => rfl)))))) (pg_name (i := 6) sc_law_caught.nd rfl (by first | exact Or.inl rfl | exact Or.inr rfl))
      (pss_cons (ps_set (i := 8) sc_law_caught.nd rfl (by first | exact Or.inl rfl | exact Or.inr rfl) (pe_ix (ix_tupK (K := K) rfl) (pe_ix (ix_tupK (K := K) rfl) (pv 2) pe_int (fun _ _ => rfl)) (pe_call (ok_law_wind T) (hr.mono (by decide)) (by rfl) T.law_wind.g T.law_wind.F.kp T.law_wind.b .nil pass0 (pa_cons (pv 0) (pa_cons (pv 1) (pa_cons (pv 6) pa_nil)))) (fun _ _ => rfl)))
      (pss_one (ps_if (PW.pt (pw_and (pt_cmpR (op_notN') (pv 8) pe_non (nomark _)) (pw_and1 (PW.pt (pw_or (pt_cmpR (op_isN') (pv 5) pe_non (nomark _)) (pw_or1 (pt_cmpR (op_lt) (pe_op op_add (pv 6) (pe_ix (ix_tupK (K := K) rfl) (pv 8) (pv 4) (fun _ _ => rfl))) (pv 5) (nomark _)))))))) (pss_one (ps_set (i := 5) sc_law_caught.nd rfl (by first | exact Or.inl rfl | exact Or.inr rfl) (pe_op op_add (pv 6) (pe_ix (ix_tupK (K := K) rfl) (pv 8) (pv 4) (fun _ _ => rfl)))))
      pss_nil))))
      (pss_one (ps_ret (pv 5))))), ?_⟩
    obtain ⟨⟨P, W, l, m⟩, ⟨hW, hw3, hts⟩, ⟨vp, rest, rfl, hp, hA⟩, q⟩ := h
    obtain ⟨v1, v2, v3, v4, rfl, h1, h2, h3, h4⟩ := four_inv hA
    have hW : WOk P.ws W := hW
    have hw3 : P.ws.length ≤ 3 := hw3
    have hts : l.ts.length = P.ws.length := hts
    have h1 : Dp K H v1 (.list (W.map dW)) := h1
    have h2 : Dp K H v2 (.tuple [.str l.nm, .str l.one, .str l.oth, .tuple (l.ts.map dP)]) := h2
    cases h3.int_inv
    cases h4.int_inv
    have hn40 := hW.n2
    have hf := List.length_filter_le (fun r : Int × Str => decide (m < r.1)) W
    refine s_asg (v := .non) ev_c fun H1 e1 => ?_
    dsimp only
    refine s_forL (K := K) (ds := (chs W m).map .int) (imm_ints _) (EvF.toD (EvF.to (evf_cat (evf_lst (ed1 (Ev.dI (ev_var (v := .int m) rfl))) (by simp)) (evf_cL (l := W) (enc := dW) (gv := fun r => .int r.1) gm_name (fun r => decide (m < r.1)) (evd_var rfl (h1.ex e1)) (by omega) (fun x _ _ => imm_int _)
      fun i r x H2 hr ex hx => ⟨Ex.refl _, rfl, et_test (ev_gt (EvD.int (evd_ixT (ds := [.int r.1, .str r.2]) (d := .int r.1) (evd_var rfl hx) ev_c (atI_of (by decide) rfl))) (ev_var rfl)), fun _ => evd_ixT (ds := [.int r.1, .str r.2]) (evd_var rfl hx) ev_c (atI_of (by decide) rfl)⟩) (by simp; omega)) (chs_eq W m).symm))
      (fun Hb i σ' H' => Ex Hb H' ∧ Ex H H' ∧ σ'[0]? = some (some vp) ∧ σ'[1]? = some (some v1) ∧ σ'[2]? = some (some v2) ∧ σ'[4]? = some (some (.int 0)) ∧ (∃ v5, σ'[5]? = some (some v5) ∧ Dp K H' v5 (dO (omin (((chs W m).take i).filterMap fun t => (num P.ws W (leastR l) t).map (t + ·))))) ∧ σ'.length = 9) (fun Hb eb => ⟨Ex.refl _, e1.trans eb, rfl, rfl, rfl, rfl, ⟨.non, rfl, .non⟩, rfl⟩) (fun _ _ _ _ k => k.1) (fun Hb i e x σ' H' eb hi k hx => ?_) fun Hb σ' H' eb k => ?_
    · obtain ⟨be, e, s0, s1, s2, s4, ⟨v5, s5, h5⟩, sl⟩ := k
      obtain ⟨t, ht, rfl⟩ := get_map hi
      cases hx.int_inv
      match σ', sl with
      | [a0, a1, a2, a3, a4, a5, a6, a7, a8], _ =>
        cases s0
        cases s1
        cases s2
        cases s4
        cases s5
        obtain ⟨_, _, k3⟩ := ixS_spec (hW.wd_mem t)
        obtain ⟨p, hpt⟩ : ∃ p, l.ts[ixS P.ws (wd W t)]? = some p := ⟨_, List.getElem?_eq_getElem (by omega)⟩
        have hnum : num P.ws W (leastR l) t = p.map (·.1) := by
          unfold num leastR
          rw [List.getElem?_map, hpt]
          rfl
        have hstep : ((chs W m).take (i + 1)).filterMap (fun t => (num P.ws W (leastR l) t).map (t + ·)) = (((chs W m).take i).filterMap fun t => (num P.ws W (leastR l) t).map (t + ·)) ++ (p.map (fun q => t + q.1)).toList := by
          rw [take_snoc ht, List.filterMap_append]
          congr 1
          rw [List.filterMap_cons, hnum]
          cases p <;> rfl
        rw [hstep]
        generalize hes : ((chs W m).take i).filterMap (fun t => (num P.ws W (leastR l) t).map (t + ·)) = es at h5 ⊢
        refine s_asgD (K := K) (d := dP p) (evd_ixT (ds := l.ts.map dP) (i := ((ixS P.ws (wd W t) : Nat) : Int)) (evd_ixT (evd_var rfl (h2.ex e)) ev_c (atI_of (by decide) rfl)) (EvD.int (evd_call (a := (P, W, t)) ⟨hW, hw3⟩ (eg_P rfl (hp.ex e) (ed_cons (evd_var rfl (h1.ex e)) (ed1 (Ev.dI (ev_var rfl))))) rfl)) ?_) fun u H3 e3 hu3 => ?_
        · refine atI_of (Int.natCast_nonneg _) ?_
          rw [Int.toNat_natCast, List.getElem?_map, hpt]
          rfl
        · dsimp only
          cases p with
          | none =>
            refine s_if (b := false) (et_and (a := false) (b := true) (et_test (evd_notN (evd_var rfl hu3))) fun hb => by cases hb) (fun hb => by cases hb) (fun _ H4 e4 => ⟨(be.trans e3).trans e4, (e.trans e3).trans e4, rfl, rfl, rfl, rfl, ⟨v5, rfl, ?_⟩, rfl⟩)
            rw [show (Option.map (fun q : Int × Int => t + q.1) none).toList = [] from rfl, List.append_nil]
            exact (h5.ex e3).ex e4
          | some r =>
            have hsum : ∀ (Hn : Hp) (σn : L2.St), Ex H3 Hn → σn[8]? = some (some u) → σn[4]? = some (some (.int 0)) → σn[6]? = some (some (.int t)) → Ev (tOp (rI0 fun i j => .int (i + j)) (tVar 6) (tOp (rIxT K) (tVar 8) (tVar 4))) σn Hn (.int (t + r.1)) := fun Hn σn en z1 z2 z3 => ev_add (ev_var z3) (EvD.int (evd_ixT (ds := [.int r.1, .int r.2]) (d := .int r.1) (evd_var z1 (hu3.ex en)) (ev_var z2) (atI_of (by decide) rfl)))
            have hom : omin (es ++ (Option.map (fun q : Int × Int => t + q.1) (some r)).toList) = match omin es with
              | none => some (t + r.1)
              | some a => if t + r.1 < a then some (t + r.1) else some a := omin_snoc es (t + r.1)
            rw [hom]
            cases ho : omin es with
            | none =>
              rw [ho] at h5
              refine s_if (b := true) (et_and (a := true) (b := true) (et_test (evd_notN (evd_var rfl hu3))) fun _ => et_or (a := true) (b := true) (et_test (evd_isN (evd_var rfl (h5.ex e3)))) fun hb => by cases hb) (fun _ H4 e4 => ?_) (fun hb => by cases hb)
              exact s_asg (hsum _ _ e4 rfl rfl rfl) fun H5 e5 => ⟨((be.trans e3).trans e4).trans e5, ((e.trans e3).trans e4).trans e5, rfl, rfl, rfl, rfl, ⟨_, rfl, .int _⟩, rfl⟩
            | some a =>
              rw [ho] at h5
              cases h5.int_inv
              refine s_if (b := decide (t + r.1 < a)) (et_and (a := true) (et_test (evd_notN (evd_var rfl hu3))) fun _ => et_or (a := false) (et_test (ev_isN (ev_var (v := .int a) rfl))) fun _ => et_test (ev_lt (hsum _ _ (Ex.refl _) rfl rfl rfl) (ev_var rfl))) (fun hb H4 e4 => ?_) (fun hb H4 e4 => ?_)
              · have hb := of_decide_eq_true hb
                refine s_asg (hsum _ _ e4 rfl rfl rfl) fun H5 e5 => ⟨((be.trans e3).trans e4).trans e5, ((e.trans e3).trans e4).trans e5, rfl, rfl, rfl, rfl, ⟨_, rfl, ?_⟩, rfl⟩
                simp only [hb, if_true]
                exact .int _
              · have hb := of_decide_eq_false hb
                refine ⟨(be.trans e3).trans e4, (e.trans e3).trans e4, rfl, rfl, rfl, rfl, ⟨_, rfl, ?_⟩, rfl⟩
                simp only [hb, if_false]
                exact .int _
    · obtain ⟨be, e, s0, s1, s2, s4, ⟨v5, s5, h5⟩, sl⟩ := k
      rw [List.length_map, List.take_length] at h5
      dsimp only
      exact s_retD (evd_var s5 h5) fun v H3 e3 hv => q v H3 (e.trans e3) hv
end

theorem nums_late {P : Parts} {nums : List (List (Option Int))} (hP : POk P) (hN : NumsOk P nums) : ∀ r ∈ nums, ∀ n, some n ∈ r → 0 ≤ n := by
  intro r hr n hn
  obtain ⟨i, hi⟩ := List.mem_iff_getElem?.mp hr
  obtain ⟨j, hj⟩ := List.mem_iff_getElem?.mp hn
  have hlt : i < P.ls.length := by
    have := (List.getElem?_eq_some_iff.mp hi).1
    have := hN.len
    omega
  obtain ⟨l, hl, hm⟩ := get_lt hlt
  obtain ⟨h1, h2⟩ := hN.row i r l hi hl
  have hjt : j < l.ts.length := by
    have := (List.getElem?_eq_some_iff.mp hj).1
    omega
  obtain ⟨p, hp, hpm⟩ := get_lt hjt
  rcases h2 j _ _ hj hp with ⟨e, _⟩ | ⟨n', q, e, e2, l1, _⟩
  · cases e
  · cases e
    subst e2
    have := ((hP.ln l hm).ok _ hpm q rfl).1
    omega
def relO (b w : List (Str × Int)) (q : Str) (o : Option Int) : List (Str × Int) := match o with
  | none => w
  | some t => if ahead b q t = true then dput w q (if (dget w q).getD t < t then (dget w q).getD t else t) else w
theorem relax_eq (b f : List (Str × Int)) (p : Str) (m : Int) (w : List (Str × Int)) (e : Edge Str) : relax b f p m w e = relO b w e.dst (if e.src = p ∧ dget f e.dst = none then e.c m else none) := by
  unfold relax relO
  by_cases h : e.src = p ∧ dget f e.dst = none
  · rw [if_pos h, if_pos h] <;> (cases e.c m <;> rfl)
  · rw [if_neg h, if_neg h]
theorem waitStep_len (b : List (Str × Int)) (u : List (Str × Int)) (r : Str × Int) : (waitStep b u r).length ≤ u.length + 1 := by
  unfold waitStep
  split
  · exact dput_len _ _ _
  · omega
theorem w_keys {S b : List (Str × Int)} {E : List (Edge Str)} {w f : List (Str × Int)} {ps : List Str} (hD : DInv S b E w f) (hS : ∀ r ∈ S, r.1 ∈ ps) (hE : ∀ e ∈ E, e.dst ∈ ps) : ∀ r ∈ w, r.1 ∈ ps := by
  intro r hr
  rcases (hD.sup r.1 r.2 (mem_dget hD.nd hr)).2 with h | ⟨e, he, h⟩
  · exact hS _ h
  · have := hE e he
    rw [h.1] at this
    exact this
theorem w_len {S b : List (Str × Int)} {E : List (Edge Str)} {w f : List (Str × Int)} {ps : List Str} (hD : DInv S b E w f) (hS : ∀ r ∈ S, r.1 ∈ ps) (hE : ∀ e ∈ E, e.dst ∈ ps) : w.length ≤ ps.length := by
  have h := nodup_len hD.nd (P := ps) (fun z hz => by
    obtain ⟨r, hr, rfl⟩ := List.mem_map.mp hz
    exact w_keys hD hS hE r hr)
  rw [List.length_map] at h
  exact h
theorem w_nn {S b : List (Str × Int)} {E : List (Edge Str)} {w f : List (Str × Int)} (hD : DInv S b E w f) (hl : Late E) (hS : ∀ r ∈ S, 0 ≤ r.2) (hf : ∀ q t, dget f q = some t → 0 ≤ t) {p : Str} {m : Int} (h : dget w p = some m) : 0 ≤ m := by
  rcases (hD.sup p m h).2 with h | ⟨e, he, h1, m0, h2, h3⟩
  · exact hS _ h
  · have a1 := hf _ _ h2
    have a2 := hl e he _ _ h3
    omega
section
variable {P : Program} {w : World} {K : PySem.W.Frag} {mg : Str → Option Value} {base : Heap}
theorem ok_spread (T : Tx K mg) : FnOk P w K mg base CX0 3 T.spread.a T.spread.fd P_spread (spx_spread K T.C) := by
  refine (T.spread.F).ok sc_spread (fun vs H Q E h => ?_) (fun cdv A outer s H vs Q E hr h => ?_)
  · obtain ⟨a, _, hA, _⟩ := h
    exact aL_len hA
  · have hu := hu_of hr
    refine ⟨_, (pss_cons (ps_set (i := 5) sc_spread.nd rfl (by first | exact Or.inl rfl | exact Or.inr rfl) (pe_call (ok_least_minutes T) (hr.mono (by decide)) (by rfl) T.least_minutes.g T.least_minutes.F.kp T.least_minutes.b .nil pass0 (pa_cons (pv 3) pa_nil)))
      (pss_cons (ps_set (i := 6) sc_spread.nd rfl (by first | exact Or.inl rfl | exact Or.inr rfl) pe_dnewK)
      (pss_cons (ps_for PassesOwn.never rfl (pi_items (pe_lockV (pe_call (ok_least_minutes T) (hr.mono (by decide)) (by rfl) T.least_minutes.g T.least_minutes.F.kp T.least_minutes.b .nil pass0 (pa_cons (pv 2) pa_nil)))) (pg_tupK (K := K) (n := 2) rfl rfl (pgs_cons (pg_name (i := 7) sc_spread.nd rfl (by first | exact Or.inl rfl | exact Or.inr rfl)) (pgs_cons (pg_name (i := 8) sc_spread.nd rfl (by first | exact Or.inl rfl | exact Or.inr rfl)) pgs_nil)))
      (pss_one (ps_if (PW.pt (pw_or (pt_cmp (pc_dnotin hu (pv 7) (pv 5))) (pw_or1 (pt_cmpR (op_lt) (pv 8) (pe_dget hu (pv 5) (pv 7) (fun _ _ => rfl)) (nomark _))))) (pss_one (ps_dput hu (pv 6) (pv 7) (pv 8) rfl))
      pss_nil)))
      (pss_cons (ps_set (i := 9) sc_spread.nd rfl (by first | exact Or.inl rfl | exact Or.inr rfl) pe_dnewK)
      (pss_cons (ps_while PassesOwn.never (pt_truth (pv 6) (by intro _; rfl))
      (pss_cons (ps_asg (pe_callB (cr_minP rfl (hu64 hr)) (by rfl) T.u_min (by decide +kernel) (pa_cons (pe_lock (pe_lc (own := [("place", 7), ("minute", 8)]) rfl sc_spread.nd (pi_items (pv 6)) (blkOk_by (own := [("place", 7), ("minute", 8)]) (N := N_spread) (sc := (defScope s_spread)) (by decide +kernel)) (fun _ _ _ _ _ => (pg_tupK (K := K) (n := 2) rfl rfl (pgs_cons (pg_name (i := 7) sc_spread.nd rfl (by first | exact Or.inl rfl | exact Or.inr rfl)) (pgs_cons (pg_name (i := 8) sc_spread.nd rfl (by first | exact Or.inl rfl | exact Or.inr rfl)) pgs_nil)))) (fun _ _ _ _ _ => pts_nil) (fun _ _ _ _ _ => (pe_tup (pa_cons (pv 8) (pa_cons (pv 7) pa_nil)))))) pa_nil)) (pg_tupK (K := K) (n := 2) rfl rfl (pgs_cons (pg_name (i := 8) sc_spread.nd rfl (by first | exact Or.inl rfl | exact Or.inr rfl)) (pgs_cons (pg_name (i := 7) sc_spread.nd rfl (by first | exact Or.inl rfl | exact Or.inr rfl)) pgs_nil))))
      (pss_cons (ps_expr (pe_dpop1 (pv 6) (pv 7) ⟨rfl, rfl, rfl, rfl⟩))
      (pss_cons (ps_dput hu (pv 9) (pv 7) (pv 8) rfl)
      (pss_one (ps_for PassesOwn.never rfl (RZ.pi_zipA (by rfl) T.u_zip (pa_cons (pe_fldK (K := K) rfl (pv 0) rfl) (pa_cons (pv 4) pa_nil))) (pg_tupK (K := K) (n := 2) rfl rfl (pgs_cons (pg_name (i := 10) sc_spread.nd rfl (by first | exact Or.inl rfl | exact Or.inr rfl)) (pgs_cons (pg_name (i := 11) sc_spread.nd rfl (by first | exact Or.inl rfl | exact Or.inr rfl)) pgs_nil)))
      (pss_cons (ps_set (i := 12) sc_spread.nd rfl (by first | exact Or.inl rfl | exact Or.inr rfl) (pe_ifExp (PW.pt (pw_and (pt_cmpR (op_eq) (pe_ix (ix_tupK (K := K) rfl) (pv 10) pe_int (fun _ _ => rfl)) (pv 7) (nomark _)) (pw_and1 (pt_cmp (pc_dnotin hu (pe_ix (ix_tupK (K := K) rfl) (pv 10) pe_int (fun _ _ => rfl)) (pv 9)))))) (pe_call (ok_caught T) (hr.mono (by decide)) (by rfl) T.caught.g T.caught.F.kp T.caught.b .nil pass0 (pa_cons (pv 0) (pa_cons (pv 1) (pa_cons (pv 11) (pa_cons (pv 8) pa_nil))))) pe_non))
      (pss_one (ps_if (PW.pt (pw_and (pt_cmpR (op_notN') (pv 12) pe_non (nomark _)) (pw_and1 (PW.pt (pw_or (pt_cmp (pc_dnotin hu (pe_ix (ix_tupK (K := K) rfl) (pv 10) pe_int (fun _ _ => rfl)) (pv 5))) (pw_or1 (pt_cmpR (op_lt) (pv 12) (pe_dget hu (pv 5) (pe_ix (ix_tupK (K := K) rfl) (pv 10) pe_int (fun _ _ => rfl)) (fun _ _ => rfl)) (nomark _)))))))) (pss_one (ps_dput hu (pv 6) (pe_ix (ix_tupK (K := K) rfl) (pv 10) pe_int (fun _ _ => rfl)) (pe_callB (call_min2' rfl) (by rfl) T.u_min (by decide +kernel) (pa_cons (pv 12) (pa_cons (pe_dget2 hu (pv 6) (pe_ix (ix_tupK (K := K) rfl) (pv 10) pe_int (fun _ _ => rfl)) (pv 12) ⟨rfl, rfl, rfl, rfl⟩) pa_nil))) rfl))
      pss_nil)))))))))
      (pss_one (ps_ret (pv 9)))))))), ?_⟩
    obtain ⟨⟨x, nums⟩, ⟨hx, hN⟩, ⟨vl, rest, rfl, hl, hA⟩, q⟩ := h
    obtain ⟨v1, v2, v3, v4, rfl, h1, h2, h3, h4⟩ := four_inv hA
    have hx : FOk x := hx
    have hP := hx.p
    have hN : NumsOk x.P nums := hN
    have h4 : Dp K H v4 (.tuple (nums.map dNs)) := h4
    have hlate : Late (fE x nums) := edges_late (nums_late hP hN)
    have hdst : ∀ e ∈ fE x nums, e.dst ∈ x.P.ps := edges_dst fun l hl => (hP.ln l hl).oth
    have hp7 := hP.p2
    have hS1000 := hx.s.len
    refine s_asgR (er_call (a := x.B) hx.b.len (eg_D (ed1 (evd_var rfl h3)))) fun vb Ha H1 ea e1 hb => ?_
    obtain ⟨pb, rfl, hpb, hdb⟩ := hb
    have hpb : H pb = none := fresh_back ea hpb
    have e1 : Ex H H1 := ea.trans e1
    dsimp only
    refine s_dnew fun pw hpw => ?_
    have hbw : pb ≠ pw := fun z => by rw [← z, hdb] at hpw; cases hpw
    have e2 : Ex H (upd H1 pw (.dK (encK []))) := e1.trans (Ex.new hpw)
    have hpw0 : H pw = none := fresh_back e1 hpw
    dsimp only
    refine er_call (a := x.S) hx.s.len (eg_D (ed1 (evd_var rfl (h2.ex e2)))) _ (Ex.refl _) _ fun vs Hb Hc eb ec hv => ?_
    obtain ⟨ps, rfl, hps, hds⟩ := hv
    refine ⟨ps, _, rfl, hds, fun od => ⟨ps, od, _, rfl, upd_same, ?_⟩⟩
    have hps0 : H ps = none := fresh_back (e2.trans eb) hps
    have hpsw : pw ≠ ps := fun z => by rw [← z, eb _ _ upd_same] at hps; cases hps
    have hpsb : pb ≠ ps := fun z => by rw [← z, eb _ _ (by rw [upd_ne hbw]; exact hdb)] at hps; cases hps
    refine s_items (K := K) (w := lm x.S) (fun i σ' H' => Ex H H' ∧ H' ps = some (.frz od (.dK (encK (lm x.S)))) ∧ H' pb = some (.dK (encK (lm x.B))) ∧ H' pw = some (.dK (encK (((lm x.S).take i).foldl (waitStep (lm x.B)) []))) ∧ ∃ a7 a8 a9 a10 a11 a12, σ' = [some vl, some v1, some v2, some v3, some v4, some (.ref pb), some (.ref pw), a7, a8, a9, a10, a11, a12]) ⟨?_, upd_same, ?_, ?_, _, _, _, _, _, _, rfl⟩ (fun _ _ _ k => k.2.1) (fun i σ' H' T' o k hT => ?_) (fun i r y σ' H' hi k hy => ?_) fun σ' H' k => ?_
    · exact ((e2.trans eb).trans ec).mut hps0
    · rw [upd_ne hpsb]
      exact ec _ _ (eb _ _ (by rw [upd_ne hbw]; exact hdb))
    · rw [upd_ne hpsw]
      exact ec _ _ (eb _ _ upd_same)
    · have en := Ex.new (o := o) hT
      exact ⟨k.1.trans en, en _ _ k.2.1, en _ _ k.2.2.1, en _ _ k.2.2.2.1, k.2.2.2.2⟩
    · obtain ⟨e, ks, kb, kw, a7, a8, a9, a10, a11, a12, rfl⟩ := k
      refine g_pair hy fun a b ha hb => ?_
      have hst : ((lm x.S).take (i + 1)).foldl (waitStep (lm x.B)) [] = waitStep (lm x.B) (((lm x.S).take i).foldl (waitStep (lm x.B)) []) r := by rw [take_snoc hi, List.foldl_append]; rfl
      refine s_if (et_ahead (b := lm x.B) (pb := pb) (ev_var rfl) (ev_var rfl) (EvD.str (evd_var rfl ha)) (EvD.str (evd_var rfl ha)) (EvD.int (evd_var rfl hb)) kb) (fun hah H3 e3 => ?_) (fun hah H3 e3 => ?_)
      · refine s_dput (e3 _ _ kw) (EvD.int (evd_var rfl (hb.ex e3))) (ev_var rfl) (EvD.str (evd_var rfl (ha.ex e3))) ?_ fun H4 e4 => ⟨((e.trans e3).trans e4).mut hpw0, ?_, ?_, ?_, _, _, _, _, _, _, rfl⟩
        · have a1 := foldl_len (waitStep_len (lm x.B)) ((lm x.S).take i) []
          have a2 := lm_len x.S
          rw [List.length_take] at a1
          simp at a1
          omega
        · rw [upd_ne hpsw.symm]
          exact e4 _ _ (e3 _ _ ks)
        · rw [upd_ne hbw]
          exact e4 _ _ (e3 _ _ kb)
        · rw [upd_same, hst]
          unfold waitStep
          rw [if_pos hah]
      · refine ⟨e.trans e3, e3 _ _ ks, e3 _ _ kb, ?_, _, _, _, _, _, _, rfl⟩
        rw [hst]
        have : waitStep (lm x.B) (((lm x.S).take i).foldl (waitStep (lm x.B)) []) r = ((lm x.S).take i).foldl (waitStep (lm x.B)) [] := by
          unfold waitStep
          rw [if_neg (by rw [hah]; decide)]
        rw [this]
        exact e3 _ _ kw
    · obtain ⟨e, ks, kb, kw, a7, a8, a9, a10, a11, a12, rfl⟩ := k
      rw [List.take_length] at kw
      dsimp only
      refine s_dnew fun pf hpf => ?_
      have hpf0 : H pf = none := fresh_back e hpf
      have hfw : pw ≠ pf := fun z => by rw [← z, kw] at hpf; cases hpf
      have hfb : pb ≠ pf := fun z => by rw [← z, kb] at hpf; cases hpf
      dsimp only
      refine s_while (fun m σ' H' => ∃ w f, Ex H H' ∧ H' pb = some (.dK (encK (lm x.B))) ∧ H' pw = some (.dK (encK w)) ∧ H' pf = some (.dK (encK f)) ∧ DInv x.S (lm x.B) (fE x nums) w f ∧ (∀ q t, dget f q = some t → 0 ≤ t) ∧ m = x.P.ps.length - f.length ∧ ∃ a7 a8 a10 a11 a12, σ' = [some vl, some v1, some v2, some v3, some v4, some (.ref pb), some (.ref pw), a7, a8, some (.ref pf), a10, a11, a12]) _ ⟨_, [], e.trans (Ex.new hpf), by rw [upd_ne hfb]; exact kb, by rw [upd_ne hfw]; exact kw, upd_same, DInv.start x.S (lm x.B) (fE x nums), (fun q t h => by cases h), rfl, _, _, _, _, _, rfl⟩ ?_
      rintro m σ' H' ⟨w, f, e, kb, kw, kf, hD, hnn, rfl, a7, a8, a10, a11, a12, rfl⟩
      refine ⟨!w.isEmpty, et_truD (ev_var rfl) kw, fun hne H3 e3 => ?_, fun hne H3 e3 => ?_⟩
      · have hwl := w_len hD hx.s.pl hdst
        refine ⟨fun σ2 H2 => ∃ w2 f2, Ex H H2 ∧ H2 pb = some (.dK (encK (lm x.B))) ∧ H2 pw = some (.dK (encK w2)) ∧ H2 pf = some (.dK (encK f2)) ∧ DInv x.S (lm x.B) (fE x nums) w2 f2 ∧ (∀ q t, dget f2 q = some t → 0 ≤ t) ∧ f2.length = f.length + 1 ∧ ∃ a7 a8 a10 a11 a12, σ2 = [some vl, some v1, some v2, some v3, some v4, some (.ref pb), some (.ref pw), a7, a8, some (.ref pf), a10, a11, a12], fun σ2 H2 ⟨w2, f2, k1, k2, k3, k4, k5, k6, k7, k8⟩ => ⟨_, ?_, w2, f2, k1, k2, k3, k4, k5, k6, rfl, k8⟩, ?_⟩
        · have := k5.fsup.len hx.s.pl hdst
          omega
        · refine er_minItems (w := w) (pw := pw) (fun _ _ k => ⟨_, rfl, k⟩) (e3 _ _ kw) (fun z => by subst z; cases hne) (fun r hr => strOk_name (hP.pn _ (w_keys hD hx.s.pl hdst r hr))) (by omega) (fun _ _ => rfl) (fun _ _ => rfl) (fun _ _ => rfl) H3 (Ex.refl _) _ fun v Hd He ed ee hv => ?_
          obtain ⟨r, hr, hmin, hv⟩ := hv
          refine g_pair hv fun am ap ham hap => ?_
          cases ham.int_inv
          cases hap.str_inv
          have hrw : dget w r.1 = some r.2 := mem_dget hD.nd hr
          have hmin' : ∀ q t, dget w q = some t → r.2 ≤ t := fun q t h => hmin (q, t) (dget_mem h)
          have hr0 : 0 ≤ r.2 := w_nn hD hlate hx.s.nn hnn hrw
          have hfn := hD.dis _ _ hrw
          have hD2 := hD.step hlate hrw hmin'
          have hfl := hD.fsup.len hx.s.pl hdst
          have e3 := e3.trans (ed.trans ee)
          dsimp only
          refine s_dpop (e3 _ _ kw) (ev_var rfl) (ev_var rfl) hrw fun H4 e4 => ?_
          have e4' : Ex H (upd H4 pw (.dK (encK (ddrop w r.1)))) := ((e.trans e3).trans e4).mut hpw0
          dsimp only
          refine s_dput (f := f) (l := pf) (m := r.2) (p := r.1) (by rw [upd_ne hfw.symm]; exact e4 _ _ (e3 _ _ kf)) (ev_var rfl) (ev_var rfl) (ev_var rfl) (by omega) fun H5 e5 => ?_
          rw [dput_new r.2 hfn]
          have e5' : Ex H (upd H5 pf (.dK (encK (f ++ [(r.1, r.2)])))) := (e4'.trans e5).mut hpf0
          obtain ⟨vk, hk, hkv⟩ := fld_val (f := "links") hl T.cl T.n_links (.inr (.inr ⟨x.P.ls, rfl, rfl, rfl⟩))
          dsimp only
          refine s_lpZ (H0 := H) (l := x.P.ls) (m := nums) (e1 := dL) (e2 := dNs) hN.len.symm hk h4 (hkv 0 _ _ rfl e5') (q_var rfl) (fun i σ' H' => Ex H H' ∧ H' pb = some (.dK (encK (lm x.B))) ∧ H' pw = some (.dK (encK (((fE x nums).take i).foldl (relax (lm x.B) (f ++ [(r.1, r.2)]) r.1 r.2) (ddrop w r.1)))) ∧ H' pf = some (.dK (encK (f ++ [(r.1, r.2)]))) ∧ ∃ a10 a11 a12, σ' = [some vl, some v1, some v2, some v3, some v4, some (.ref pb), some (.ref pw), some (.str r.1), some (.int r.2), some (.ref pf), a10, a11, a12]) ⟨e5', ?_, ?_, upd_same, _, _, _, rfl⟩ (fun _ _ _ k => k.1) (fun i σ' H' T' o k hT => ?_) (fun i z y σ' H' hi k hy => ?_) fun σ' H' k => ?_
          · rw [upd_ne hfb]
            exact e5 _ _ (by rw [upd_ne hbw]; exact e4 _ _ (e3 _ _ kb))
          · rw [upd_ne hfw]
            exact e5 _ _ upd_same
          · have en := Ex.new (o := o) hT
            exact ⟨k.1.trans en, en _ _ k.2.1, en _ _ k.2.2.1, en _ _ k.2.2.2.1, k.2.2.2.2⟩
          · obtain ⟨e, kb, kw, kf, a10, a11, a12, rfl⟩ := k
            obtain ⟨l, row⟩ := z
            obtain ⟨z1, z2⟩ := zip_get hi
            have z1 : x.P.ls[i]? = some l := z1
            have z2 : nums[i]? = some row := z2
            have hlk := hP.ln l (List.mem_of_getElem? z1)
            have hrow := (hN.row i row l z2 z1).1
            have hE : (fE x nums)[i]? = some (edgeOf x.P.ws x.W l row) := by
              show (List.map _ _)[i]? = _
              rw [List.getElem?_map, hi]
              rfl
            have hstep : ((fE x nums).take (i + 1)).foldl (relax (lm x.B) (f ++ [(r.1, r.2)]) r.1 r.2) (ddrop w r.1) = relO (lm x.B) (((fE x nums).take i).foldl (relax (lm x.B) (f ++ [(r.1, r.2)]) r.1 r.2) (ddrop w r.1)) l.oth (if l.one = r.1 ∧ dget (f ++ [(r.1, r.2)]) l.oth = none then cgt x.P.ws x.W row r.2 else none) := by
              rw [take_snoc hE, List.foldl_append]
              show relax _ _ _ _ _ _ = _
              rw [relax_eq]
              rfl
            have hwlen : (((fE x nums).take i).foldl (relax (lm x.B) (f ++ [(r.1, r.2)]) r.1 r.2) (ddrop w r.1)).length < 100000 := by
              have b1 := foldl_len (fun u z => relax_len (lm x.B) (f ++ [(r.1, r.2)]) r.1 r.2 u z) ((fE x nums).take i) (ddrop w r.1)
              have b2 : (ddrop w r.1).length ≤ w.length := List.length_filter_le _ _
              have b3 : ((fE x nums).take i).length ≤ (fE x nums).length := by rw [List.length_take]; omega
              have b4 : (fE x nums).length ≤ x.P.ls.length := by
                show (List.map _ _).length ≤ _
                rw [List.length_map, List.length_zip]
                omega
              have b5 := hP.l2
              omega
            rw [hstep]
            generalize hw2 : ((fE x nums).take i).foldl (relax (lm x.B) (f ++ [(r.1, r.2)]) r.1 r.2) (ddrop w r.1) = w2 at kw hwlen ⊢
            generalize ho : (if l.one = r.1 ∧ dget (f ++ [(r.1, r.2)]) l.oth = none then cgt x.P.ws x.W row r.2 else none) = o
            refine g_pair hy fun a b ha hb => ?_
            have ha : Dp K H' a (.tuple [.str l.nm, .str l.one, .str l.oth, .tuple (l.ts.map dP)]) := ha
            have at2 : ∀ (Hx : Hp) (σx : L2.St), Ex H' Hx → σx[10]? = some (some a) → Ev (tOp (rIxT K) (tVar 10) (tC (.int 2))) σx Hx (.str l.oth) := fun Hx σx ex hs => EvD.str (evd_ixT (evd_var hs (ha.ex ex)) ev_c (atI_of (by decide) rfl))
            dsimp only
            refine s_asgD (K := K) (d := dO o) (evd_if (b := decide (l.one = r.1) && !(dget (f ++ [(r.1, r.2)]) l.oth).isSome) (et_and (et_test (Ev.to (ev_eqv (EvD.str (evd_ixT (d := .str l.one) (evd_var rfl ha) ev_c (atI_of (by decide) rfl))) (ev_var (v := .str r.1) rfl) rfl) (by simp))) fun _ => et_B (ev_dnin (at2 _ _ (Ex.refl _) rfl) (ev_var rfl) kf)) (fun hb2 => ?_) (fun hb2 => ?_)) fun u H6 e6 hu6 => ?_
            · have hc : l.one = r.1 ∧ dget (f ++ [(r.1, r.2)]) l.oth = none := by simpa using hb2
              rw [if_pos hc] at ho
              subst ho
              exact evd_call (a := (x.P, x.W, row, r.2)) ⟨hP, hx.w, by rw [hrow, hlk.len], hr0⟩ (eg_L rfl (hl.ex e) (ed_cons (evd_var rfl (h1.ex e)) (ed_cons (evd_var rfl hb) (ed1 (Ev.dI (ev_var rfl)))))) rfl
            · have hc : ¬ (l.one = r.1 ∧ dget (f ++ [(r.1, r.2)]) l.oth = none) := by
                intro hc
                rw [hc.2, decide_eq_true hc.1] at hb2
                cases hb2
              rw [if_neg hc] at ho
              subst ho
              exact Ev.dN ev_c
            · dsimp only
              cases o with
              | none =>
                refine s_if (b := false) (et_and (a := false) (b := true) (et_test (evd_notN (evd_var rfl hu6))) fun hb => by cases hb) (fun hb => by cases hb) (fun _ H7 e7 => ⟨(e.trans e6).trans e7, (e6.trans e7) _ _ kb, (e6.trans e7) _ _ kw, (e6.trans e7) _ _ kf, _, _, _, rfl⟩)
              | some t =>
                cases hu6.int_inv
                refine s_if (et_and (et_test (evd_notN (evd_var rfl hu6))) fun _ => et_ahead (b := lm x.B) (pb := pb) (p := l.oth) (m := t) (ev_var rfl) (ev_var rfl) (at2 _ _ e6 rfl) (at2 _ _ e6 rfl) (ev_var rfl) (e6 _ _ kb)) (fun hb H7 e7 => ?_) (fun hb H7 e7 => ?_)
                · have hah : ahead (lm x.B) l.oth t = true := hb
                  refine s_dput ((e6.trans e7) _ _ kw) (ev_min2 (ev_var rfl) (ev_dget2 (ev_var rfl) (at2 _ _ (e6.trans e7) rfl) (ev_var rfl) ((e6.trans e7) _ _ kw))) (ev_var rfl) (at2 _ _ (e6.trans e7) rfl) hwlen fun H8 e8 => ?_
                  refine ⟨(((e.trans e6).trans e7).trans e8).mut hpw0, by rw [upd_ne hbw]; exact ((e6.trans e7).trans e8) _ _ kb, ?_, by rw [upd_ne hfw.symm]; exact ((e6.trans e7).trans e8) _ _ kf, _, _, _, rfl⟩
                  rw [upd_same]
                  unfold relO
                  simp only [hah, if_true]
                · have hah : ahead (lm x.B) l.oth t = false := hb
                  refine ⟨(e.trans e6).trans e7, (e6.trans e7) _ _ kb, ?_, (e6.trans e7) _ _ kf, _, _, _, rfl⟩
                  unfold relO
                  simp only [hah]
                  exact (e6.trans e7) _ _ kw
          · obtain ⟨e, kb, kw, kf, a10, a11, a12, rfl⟩ := k
            refine ⟨_, _, e, kb, kw, kf, ?_, ?_, ?_, _, _, _, _, _, rfl⟩
            · have : (fE x nums).take (x.P.ls.zip nums).length = fE x nums := List.take_of_length_le (by unfold fE edges; rw [List.length_map]; exact Nat.le_refl _)
              rw [this]
              exact hD2
            · intro q t ht
              rw [dget_snoc f r.1 r.2 q hfn] at ht
              by_cases z : q = r.1
              · rw [if_pos z] at ht
                cases ht
                exact hr0
              · rw [if_neg z] at ht
                exact hnn q t ht
            · rw [List.length_append]
              rfl
      · dsimp only
        have hw : w = [] := by
          cases w with
          | nil => rfl
          | cons a l => cases hne
        subst hw
        exact s_ret (ev_var rfl) fun H4 e4 => q _ H4 ((e.trans e3).trans e4) ⟨f, hD.cert, pf, rfl, hpf0, e4 _ _ (e3 _ _ kf)⟩
end

section
variable {P : Program} {w : World} {K : PySem.W.Frag} {mg : Str → Option Value} {base : Heap}
theorem ok_check_fire (T : Tx K mg) : FnOk P w K mg base CX0 3 T.check_fire.a T.check_fire.fd P_check_fire (spx_check_fire K T.C) := by
  refine (T.check_fire.F).ok sc_check_fire (fun vs H Q E h => ?_) (fun cdv A outer s H vs Q E hr h => ?_)
  · obtain ⟨a, _, hA, _⟩ := h
    exact aL_len hA
  · have hu := hu_of hr
    refine ⟨_, (pss_cons (ps_expr (pe_call (ok_check_winds T) (hr.mono (by decide)) (by rfl) T.check_winds.g T.check_winds.F.kp T.check_winds.b .nil pass0 (pa_cons (pv 0) (pa_cons (pv 1) pa_nil))))
      (pss_cons (ps_expr (pe_call (ok_check_rows T) (hr.mono (by decide)) (by rfl) T.check_rows.g T.check_rows.F.kp T.check_rows.b .nil pass0 (pa_cons (pv 0) (pa_cons (pv 2) pa_nil))))
      (pss_cons (ps_expr (pe_call (ok_check_rows T) (hr.mono (by decide)) (by rfl) T.check_rows.g T.check_rows.F.kp T.check_rows.b .nil pass0 (pa_cons (pv 0) (pa_cons (pv 3) pa_nil))))
      (pss_one (ps_expr (pe_call (ok_check_changes T) (hr.mono (by decide)) (by rfl) T.check_changes.g T.check_changes.F.kp T.check_changes.b .nil pass0 (pa_cons (pv 1) pa_nil))))))), ?_⟩
    obtain ⟨x, hx, ⟨vl, rest, rfl, hl, hA⟩, q⟩ := h
    obtain ⟨v1, v2, v3, rfl, h1, h2, h3⟩ := three_inv hA
    have hx : FOk x := hx
    refine s_dropD (evd_call (a := (x.P, x.W)) hx.w.wn (eg_L rfl hl (ed1 (evd_var rfl h1))) rfl) fun H1 e1 => ?_
    dsimp only
    refine s_dropD (evd_call (a := (x.P, x.S)) hx.s (eg_L rfl (hl.ex e1) (ed1 (evd_var rfl (h2.ex e1)))) rfl) fun H2 e2 => ?_
    have e2 := e1.trans e2
    dsimp only
    refine s_dropD (evd_call (a := (x.P, x.B)) hx.b (eg_L rfl (hl.ex e2) (ed1 (evd_var rfl (h3.ex e2)))) rfl) fun H3 e3 => ?_
    have e3 := e2.trans e3
    dsimp only
    exact s_dropD (evd_call (a := x.W) ⟨_, hx.w⟩ (eg_D (ed1 (evd_var rfl (h1.ex e3)))) rfl) fun H4 e4 => q .non H4 (e3.trans e4) .non
end

section
variable {P : Program} {w : World} {K : PySem.W.Frag} {mg : Str → Option Value} {base : Heap}
theorem ok_check_question (T : Tx K mg) : FnOk P w K mg base CX0 3 T.check_question.a T.check_question.fd P_check_question (spx_check_question K T.C) := by
  refine (T.check_question.F).ok sc_check_question (fun vs H Q E h => ?_) (fun cdv A outer s H vs Q E hr h => ?_)
  · obtain ⟨a, _, hA, _⟩ := h
    exact aL_len hA
  · have hu := hu_of hr
    refine ⟨_, (pss_cons (ps_expr (pe_call (ok_check_winds T) (hr.mono (by decide)) (by rfl) T.check_winds.g T.check_winds.F.kp T.check_winds.b .nil pass0 (pa_cons (pv 0) (pa_cons (pv 1) pa_nil))))
      (pss_cons (ps_expr (pe_call (ok_check_rows T) (hr.mono (by decide)) (by rfl) T.check_rows.g T.check_rows.F.kp T.check_rows.b .nil pass0 (pa_cons (pv 0) (pa_cons (pv 2) pa_nil))))
      (pss_cons (ps_expr (pe_call (ok_check_rows T) (hr.mono (by decide)) (by rfl) T.check_rows.g T.check_rows.F.kp T.check_rows.b .nil pass0 (pa_cons (pv 0) (pa_cons (pv 3) pa_nil))))
      (pss_cons (ps_expr (pe_callFR (ok_check_places T) (hr.mono (by decide)) (by rfl) T.check_places.g T.check_places.F.kp pass0 (pa_cons (pv 0) (pa_cons (pv 4) pa_nil))))
      (pss_one (ps_expr (pe_call (ok_check_changes T) (hr.mono (by decide)) (by rfl) T.check_changes.g T.check_changes.F.kp T.check_changes.b .nil pass0 (pa_cons (pv 1) pa_nil)))))))), ?_⟩
    obtain ⟨⟨x, g⟩, ⟨hx, hg⟩, ⟨vl, rest, rfl, hl, hA⟩, q⟩ := h
    obtain ⟨v1, v2, v3, v4, rfl, h1, h2, h3, h4⟩ := four_inv hA
    have hx : FOk x := hx
    have hg : ∀ z ∈ g, z ∈ x.P.ps := hg
    refine s_dropD (evd_call (a := (x.P, x.W)) hx.w.wn (eg_L rfl hl (ed1 (evd_var rfl h1))) rfl) fun H1 e1 => ?_
    dsimp only
    refine s_dropD (evd_call (a := (x.P, x.S)) hx.s (eg_L rfl (hl.ex e1) (ed1 (evd_var rfl (h2.ex e1)))) rfl) fun H2 e2 => ?_
    have e2 := e1.trans e2
    dsimp only
    refine s_dropD (evd_call (a := (x.P, x.B)) hx.b (eg_L rfl (hl.ex e2) (ed1 (evd_var rfl (h3.ex e2)))) rfl) fun H3 e3 => ?_
    have e3 := e2.trans e3
    dsimp only
    refine s_dropD (d := .none) (fun Ha ea Q k => eg_L (P := x.P) (ds := [dStrs g]) rfl (hl.ex e3) (ed1 (evd_var rfl (h4.ex e3))) Ha ea _ fun vs Hb eb hvs => ⟨(x.P, g), hg, hvs, fun v Hc ec hv => k v Hc (eb.trans ec) hv⟩) fun H4 e4 => ?_
    have e4 := e3.trans e4
    dsimp only
    exact s_dropD (evd_call (a := x.W) ⟨_, hx.w⟩ (eg_D (ed1 (evd_var rfl (h1.ex e4)))) rfl) fun H5 e5 => q .non H5 (e4.trans e5) .non
end

section
variable {P : Program} {w : World} {K : PySem.W.Frag} {mg : Str → Option Value} {base : Heap}
theorem ok_Land_checked_link (T : Tx K mg) : FnOk P w K mg base CX0 3 T.Land_checked_link.a T.Land_checked_link.fd P_Land_checked_link (spx_Land_checked_link K T.C) := by
  refine (T.Land_checked_link.F).ok sc_Land_checked_link (fun vs H Q E h => ?_) (fun cdv A outer s H vs Q E hr h => ?_)
  · obtain ⟨a, _, hA, _⟩ := h
    exact aM_len hA
  · have hu := hu_of hr
    refine ⟨_, (pss_cons (ps_expr (pe_call (ok_require T) (hr.mono (by decide)) (by rfl) T.require.g T.require.F.kp T.require.b .nil pass0 (pa_cons (pe_cmpR (op_eq) (pe_callB (call_lenK (K := K) rfl) (by rfl) T.u_len PySem.boot_len (pa_cons (pv 1) pa_nil)) pe_int (nomark _)) pa_nil)))
      (pss_cons (ps_asg (pv 1) (pg_tupK (K := K) (n := 4) rfl rfl (pgs_cons (pg_name (i := 2) sc_Land_checked_link.nd rfl (by first | exact Or.inl rfl | exact Or.inr rfl)) (pgs_cons (pg_name (i := 3) sc_Land_checked_link.nd rfl (by first | exact Or.inl rfl | exact Or.inr rfl)) (pgs_cons (pg_name (i := 4) sc_Land_checked_link.nd rfl (by first | exact Or.inl rfl | exact Or.inr rfl)) (pgs_cons (pg_name (i := 5) sc_Land_checked_link.nd rfl (by first | exact Or.inl rfl | exact Or.inr rfl)) pgs_nil))))))
      (pss_cons (ps_expr (pe_call (ok_require T) (hr.mono (by decide)) (by rfl) T.require.g T.require.F.kp T.require.b .nil pass0 (pa_cons (pe_and (pe_call (ok_is_name T) (hr.mono (by decide)) (by rfl) T.is_name.g T.is_name.F.kp T.is_name.b .nil pass0 (pa_cons (pv 2) pa_nil)) (pe_one (pe_meth (pv 0) T.cl T.m_are_ends (ok_Land_are_ends T) (hr.mono (by decide)) T.Land_are_ends.b .nil pass0 (pa_cons (pv 3) (pa_cons (pv 4) pa_nil))))) pa_nil)))
      (pss_one (ps_ret (pe_tup (pa_cons (pv 2) (pa_cons (pv 3) (pa_cons (pv 4) (pa_cons (pe_call (ok_checked_times T) (hr.mono (by decide)) (by rfl) T.checked_times.g T.checked_times.F.kp T.checked_times.b .nil pass0 (pa_cons (pv 5) (pa_cons (pe_callB (call_lenK (K := K) rfl) (by rfl) T.u_len PySem.boot_len (pa_cons (pe_fldK (K := K) rfl (pv 0) rfl) pa_nil)) pa_nil))) pa_nil)))))))))), ?_⟩
    obtain ⟨⟨ws, ps, l⟩, ⟨hw3, hL⟩, ⟨vl, rest, rfl, hl, hA⟩, q⟩ := h
    obtain ⟨v1, rfl, h1⟩ := one_inv hA
    have hL : LkOk ws.length ps l := hL
    have hw3 : ws.length ≤ 3 := hw3
    have hlen := hL.len
    have h1 : Dp K H v1 (.tuple [.str l.nm, .str l.one, .str l.oth, .tuple (l.ts.map dP)]) := h1
    refine s_dropD (evd_call (a := ()) trivial (eg_D (ed1 (Ev.dB (Ev.to (ev_eqv (ev_lenT (evd_var rfl h1)) ev_c rfl) (w := .bl true) rfl)))) rfl) fun H1 e1 => ?_
    dsimp only
    refine ⟨v1, rfl, g_four (h1.ex e1) fun a b c d ha hb hc hd => ?_⟩
    dsimp only
    refine s_dropD (evd_call (a := ()) trivial (eg_D (ed1 (Ev.dB (Ev.to (ev_andV (EvD.bl (evd_call (a := l.nm) hL.nm (eg_D (ed1 (evd_var rfl ha))) rfl)) fun _ => EvD.bl (evd_meth (a := (ws, ps, l.one, l.oth)) rfl (LAtt.ex hl e1) (by decide) ⟨hL.one, hL.oth, hL.ne⟩ (ed_cons (evd_var rfl hb) (ed1 (evd_var rfl hc))) rfl rfl)) (w := .bl true) rfl)))) rfl) fun H2 e2 => ?_
    dsimp only
    refine s_retD (evd_tup (ed_cons (evd_var rfl (ha.ex e2)) (ed_cons (evd_var rfl (hb.ex e2)) (ed_cons (evd_var rfl (hc.ex e2)) (ed1 (evd_call (a := (l.ts, (ws.length : Int))) ⟨by rw [hlen], by show l.ts.length ≤ 3; omega, hL.ok⟩ (eg_D (ed_cons (evd_var rfl (hd.ex e2)) (ed1 (EvD.to (Ev.dI (ev_lenT (evd_fld rfl (LAtt.ex hl (e1.trans e2)) T.cl T.n_winds (.inl ⟨rfl, rfl⟩)))) ?_)))) rfl))))) (by simp)) fun v H3 e3 hv => q v H3 ((e1.trans e2).trans e3) hv
    rw [List.length_map]
end

theorem bfPut_eq (u : List (Str × Int)) (p : Str) (t : Int) : bfPut u p t = if ahead u p t = true then dput u p t else u := by
  unfold bfPut ahead
  cases dget u p with
  | none => rfl
  | some x => by_cases h : t < x <;> simp [h]
theorem bfPut_len (u : List (Str × Int)) (p : Str) (t : Int) : (bfPut u p t).length ≤ u.length + 1 := by
  rw [bfPut_eq]
  split
  · exact dput_len _ _ _
  · omega
theorem bfStart_len (b u : List (Str × Int)) (r : Str × Int) : (bfStart b u r).length ≤ u.length + 1 := by
  unfold bfStart
  split
  · exact bfPut_len _ _ _
  · omega
theorem bfLink_len (b u : List (Str × Int)) (e : Edge Str) : (bfLink b u e).length ≤ u.length + 1 := by
  unfold bfLink
  split
  · omega
  · split
    · omega
    · split
      · exact bfPut_len _ _ _
      · omega
theorem bfRounds_len (b : List (Str × Int)) (E : List (Edge Str)) : ∀ (n : Nat) (u : List (Str × Int)), (bfRounds b E n u).length ≤ u.length + n * E.length
  | 0, u => by simp [bfRounds]
  | n + 1, u => by
    have h1 := bfRounds_len b E n u
    have h2 := foldl_len (bfLink_len b) E (bfRounds b E n u)
    have h3 : (n + 1) * E.length = n * E.length + E.length := Nat.succ_mul _ _
    show (bfRound b E _).length ≤ _
    unfold bfRound
    omega
section
variable {P : Program} {w : World} {K : PySem.W.Frag} {mg : Str → Option Value} {base : Heap}
theorem ok_law_fire (T : Tx K mg) : FnOk P w K mg base CX0 3 T.law_fire.a T.law_fire.fd P_law_fire (spx_law_fire K) := by
  refine (T.law_fire.F).ok sc_law_fire (fun vs H Q E h => ?_) (fun cdv A outer s H vs Q E hr h => ?_)
  · obtain ⟨a, _, ⟨vp, rest, rfl, _, hA⟩, _⟩ := h
    rw [List.length_cons, hA.len]
    rfl
  · have hu := hu_of hr
    refine ⟨_, (pss_cons (ps_set (i := 5) sc_law_fire.nd rfl (by first | exact Or.inl rfl | exact Or.inr rfl) pe_dnewK)
      (pss_cons (ps_for PassesOwn.never rfl (pi_listK (K := K) rfl (pv 3)) (pg_tupK (K := K) (n := 2) rfl rfl (pgs_cons (pg_name (i := 6) sc_law_fire.nd rfl (by first | exact Or.inl rfl | exact Or.inr rfl)) (pgs_cons (pg_name (i := 7) sc_law_fire.nd rfl (by first | exact Or.inl rfl | exact Or.inr rfl)) pgs_nil)))
      (pss_one (ps_dput hu (pv 5) (pv 6) (pe_callB (call_min2' rfl) (by rfl) T.u_min (by decide +kernel) (pa_cons (pv 7) (pa_cons (pe_dget2 hu (pv 5) (pv 6) (pv 7) ⟨rfl, rfl, rfl, rfl⟩) pa_nil))) rfl)))
      (pss_cons (ps_set (i := 8) sc_law_fire.nd rfl (by first | exact Or.inl rfl | exact Or.inr rfl) pe_dnewK)
      (pss_cons (ps_for PassesOwn.never rfl (pi_listK (K := K) rfl (pv 2)) (pg_tupK (K := K) (n := 2) rfl rfl (pgs_cons (pg_name (i := 6) sc_law_fire.nd rfl (by first | exact Or.inl rfl | exact Or.inr rfl)) (pgs_cons (pg_name (i := 7) sc_law_fire.nd rfl (by first | exact Or.inl rfl | exact Or.inr rfl)) pgs_nil)))
      (pss_one (ps_if (PW.pt (pw_and (PW.pt (pw_or (pt_cmp (pc_dnotin hu (pv 6) (pv 5))) (pw_or1 (pt_cmpR (op_lt) (pv 7) (pe_dget hu (pv 5) (pv 6) (fun _ _ => rfl)) (nomark _))))) (pw_and1 (PW.pt (pw_or (pt_cmp (pc_dnotin hu (pv 6) (pv 8))) (pw_or1 (pt_cmpR (op_lt) (pv 7) (pe_dget hu (pv 8) (pv 6) (fun _ _ => rfl)) (nomark _)))))))) (pss_one (ps_dput hu (pv 8) (pv 6) (pv 7) rfl))
      pss_nil)))
      (pss_cons (ps_for PassesOwn.never rfl (pi_range1 (by rfl) T.u_range (pa_cons (pe_op op_add (pe_callB (call_lenK (K := K) rfl) (by rfl) T.u_len PySem.boot_len (pa_cons (pe_ix (ix_listK (K := K) rfl) (pv 0) pe_int (fun _ _ => rfl)) pa_nil)) pe_int) pa_nil)) (pg_name (i := 9) sc_law_fire.nd rfl (by first | exact Or.inl rfl | exact Or.inr rfl))
      (pss_one (ps_for PassesOwn.never rfl (pi_tupK (K := K) rfl (pe_ix (ix_listK (K := K) rfl) (pv 0) pe_int (fun _ _ => rfl))) (pg_name (i := 10) sc_law_fire.nd rfl (by first | exact Or.inl rfl | exact Or.inr rfl))
      (pss_one (ps_if (pt_cmp (pc_din hu (pe_ix (ix_tupK (K := K) rfl) (pv 10) pe_int (fun _ _ => rfl)) (pv 8))) (pss_cons (ps_set (i := 11) sc_law_fire.nd rfl (by first | exact Or.inl rfl | exact Or.inr rfl) (pe_call (ok_law_caught T) (hr.mono (by decide)) (by rfl) T.law_caught.g T.law_caught.F.kp T.law_caught.b .nil pass0 (pa_cons (pv 0) (pa_cons (pv 1) (pa_cons (pv 10) (pa_cons (pe_dget hu (pv 8) (pe_ix (ix_tupK (K := K) rfl) (pv 10) pe_int (fun _ _ => rfl)) (fun _ _ => rfl)) (pa_cons (pv 4) pa_nil)))))))
      (pss_one (ps_if (PW.pt (pw_and (pt_cmpR (op_notN') (pv 11) pe_non (nomark _)) (pw_and1 (PW.pt (pw_or (pt_cmp (pc_dnotin hu (pe_ix (ix_tupK (K := K) rfl) (pv 10) pe_int (fun _ _ => rfl)) (pv 5))) (pw_or1 (pt_cmpR (op_lt) (pv 11) (pe_dget hu (pv 5) (pe_ix (ix_tupK (K := K) rfl) (pv 10) pe_int (fun _ _ => rfl)) (fun _ _ => rfl)) (nomark _)))))))) (pss_one (ps_if (PW.pt (pw_or (pt_cmp (pc_dnotin hu (pe_ix (ix_tupK (K := K) rfl) (pv 10) pe_int (fun _ _ => rfl)) (pv 8))) (pw_or1 (pt_cmpR (op_lt) (pv 11) (pe_dget hu (pv 8) (pe_ix (ix_tupK (K := K) rfl) (pv 10) pe_int (fun _ _ => rfl)) (fun _ _ => rfl)) (nomark _))))) (pss_one (ps_dput hu (pv 8) (pe_ix (ix_tupK (K := K) rfl) (pv 10) pe_int (fun _ _ => rfl)) (pv 11) rfl))
      pss_nil))
      pss_nil)))
      pss_nil)))))
      (pss_one (ps_ret (pv 8)))))))), ?_⟩
    obtain ⟨x, hx, ⟨vp, rest, rfl, hp, hA⟩, q⟩ := h
    obtain ⟨v1, v2, v3, v4, rfl, h1, h2, h3, h4⟩ := four_inv hA
    have hx : LFOk x := hx
    cases h4.int_inv
    have hS := hx.s
    have hB := hx.b
    have hl2 := hx.l2
    have hp2 := hx.p2
    refine s_dnew fun pe hpe => ?_
    dsimp only
    refine s_lpL (l := x.B) (enc := dR) imm_dR h3 (q_var rfl) (fun i σ' H' => Ex H H' ∧ H' pe = some (.dK (encK (lm (x.B.take i)))) ∧ ∃ a6 a7 a8 a9 a10 a11, σ' = [some vp, some v1, some v2, some v3, some (.int 0), some (.ref pe), a6, a7, a8, a9, a10, a11]) ⟨Ex.new hpe, upd_same, _, _, _, _, _, _, rfl⟩ (fun _ _ _ k => k.1) (fun i r y σ' H' hi k hy => ?_) fun σ' H' k => ?_
    · obtain ⟨e, kd, a6, a7, a8, a9, a10, a11, rfl⟩ := k
      refine g_pair hy fun a b ha hb => ?_
      refine s_dput kd (ev_min2 (EvD.int (evd_var rfl hb)) (ev_dget2 (ev_var rfl) (EvD.str (evd_var rfl ha)) (EvD.int (evd_var rfl hb)) kd)) (ev_var rfl) (EvD.str (evd_var rfl ha)) ?_ fun H1 e1 => ⟨(e.trans e1).mut hpe, ?_, _, _, _, _, _, _, rfl⟩
      · have := lm_len (x.B.take i)
        rw [List.length_take] at this
        omega
      · rw [take_snoc hi, lm_snoc]
        exact upd_same
    obtain ⟨e, ke, a6, a7, a8, a9, a10, a11, rfl⟩ := k
    rw [List.take_length] at ke
    dsimp only
    refine s_dnew fun pu hpu => ?_
    have hpu0 : H pu = none := fresh_back e hpu
    have hne : pe ≠ pu := fun z => by rw [← z, ke] at hpu; cases hpu
    dsimp only
    refine s_lpL (l := x.S) (enc := dR) imm_dR h2 (q_var rfl) (fun i σ' H' => Ex H H' ∧ H' pe = some (.dK (encK (lm x.B))) ∧ H' pu = some (.dK (encK ((x.S.take i).foldl (bfStart (lm x.B)) []))) ∧ ∃ a6 a7 a9 a10 a11, σ' = [some vp, some v1, some v2, some v3, some (.int 0), some (.ref pe), a6, a7, some (.ref pu), a9, a10, a11]) ⟨e.trans (Ex.new hpu), by rw [upd_ne hne]; exact ke, upd_same, _, _, _, _, _, rfl⟩ (fun _ _ _ k => k.1) (fun i r y σ' H' hi k hy => ?_) fun σ' H' k => ?_
    · obtain ⟨e, ke, kd, a6, a7, a9, a10, a11, rfl⟩ := k
      refine g_pair hy fun a b ha hb => ?_
      have hst : (x.S.take (i + 1)).foldl (bfStart (lm x.B)) [] = bfStart (lm x.B) ((x.S.take i).foldl (bfStart (lm x.B)) []) r := by rw [take_snoc hi, List.foldl_append]; rfl
      have hlen := foldl_len (bfStart_len (lm x.B)) (x.S.take i) []
      rw [List.length_take] at hlen
      simp at hlen
      rw [hst]
      generalize hw : (x.S.take i).foldl (bfStart (lm x.B)) [] = u at kd hlen ⊢
      refine s_if (et_and (et_ahead (b := lm x.B) (pb := pe) (ev_var rfl) (ev_var rfl) (EvD.str (evd_var rfl ha)) (EvD.str (evd_var rfl ha)) (EvD.int (evd_var rfl hb)) ke) fun _ => et_ahead (b := u) (pb := pu) (ev_var rfl) (ev_var rfl) (EvD.str (evd_var rfl ha)) (EvD.str (evd_var rfl ha)) (EvD.int (evd_var rfl hb)) kd) (fun hb2 H3 e3 => ?_) (fun hb2 H3 e3 => ?_)
      · rw [Bool.and_eq_true] at hb2
        refine s_dput (e3 _ _ kd) (EvD.int (evd_var rfl (hb.ex e3))) (ev_var rfl) (EvD.str (evd_var rfl (ha.ex e3))) (by omega) fun H4 e4 => ⟨((e.trans e3).trans e4).mut hpu0, by rw [upd_ne hne]; exact e4 _ _ (e3 _ _ ke), ?_, _, _, _, _, _, rfl⟩
        rw [upd_same]
        unfold bfStart
        rw [if_pos hb2.1, bfPut_eq, if_pos hb2.2]
      · refine ⟨e.trans e3, e3 _ _ ke, ?_, _, _, _, _, _, rfl⟩
        have : bfStart (lm x.B) u r = u := by
          unfold bfStart
          by_cases z : ahead (lm x.B) r.1 r.2 = true
          · rw [z, Bool.true_and] at hb2
            rw [if_pos z, bfPut_eq, if_neg (by rw [hb2]; decide)]
          · rw [if_neg z]
        rw [this]
        exact e3 _ _ kd
    obtain ⟨e, ke, ku, a6, a7, a9, a10, a11, rfl⟩ := k
    rw [List.take_length] at ku
    have hu0 := foldl_len (bfStart_len (lm x.B)) x.S []
    simp at hu0
    generalize hu00 : x.S.foldl (bfStart (lm x.B)) [] = u0 at ku hu0
    have hEl : (fE x (leastN x.P.ls)).length ≤ 10 := by
      unfold fE
      rw [edges_least, List.length_map]
      exact hl2
    have hEg : ∀ i l, x.P.ls[i]? = some l → (fE x (leastN x.P.ls))[i]? = some (edgeOf x.P.ws x.W l (leastR l)) := fun i l hl => by
      unfold fE
      rw [edges_least, List.getElem?_map, hl]
      rfl
    have hEL : (fE x (leastN x.P.ls)).length = x.P.ls.length := by
      unfold fE
      rw [edges_least, List.length_map]
    have hlaw : lawB x = bfRounds (lm x.B) (fE x (leastN x.P.ls)) (x.P.ps.length + 1) u0 := by
      unfold lawB bf
      rw [hu00]
    generalize hE : fE x (leastN x.P.ls) = EE at hEl hEg hEL hlaw
    dsimp only
    refine s_forR1 (n := ((x.P.ps.length + 1 : Nat) : Int)) (fun Ha ea Qa ka => ?_) (by omega) (fun i σ' H' => Ex H H' ∧ H' pe = some (.dK (encK (lm x.B))) ∧ H' pu = some (.dK (encK (bfRounds (lm x.B) EE i u0))) ∧ ∃ a6 a7 a9 a10 a11, σ' = [some vp, some v1, some v2, some v3, some (.int 0), some (.ref pe), a6, a7, some (.ref pu), a9, a10, a11]) (fun Ha ea => ⟨e.trans ea, ea _ _ ke, ea _ _ ku, _, _, _, _, _, rfl⟩) (fun i σ' H' hlt k => ?_) fun σ' H' k => ?_
    · exact ea_cons (ev_is (ev_add (ev_lenT (evd_ixL (K := K) (d := .tuple (x.P.ps.map .str)) (evd_var rfl (hp.dp.ex e)) ev_c (atI_of (by decide) rfl))) ev_c) (by rw [List.length_map]; rfl)) ea_nil Ha ea Qa ka
    · obtain ⟨e, ke, ku, a6, a7, a9, a10, a11, rfl⟩ := k
      have hlt : i < x.P.ps.length + 1 := by omega
      have hil := bfRounds_len (lm x.B) EE i u0
      have him : i * EE.length ≤ 8 * 10 := Nat.mul_le_mul (by omega) hEl
      show tFor _ _ _ _ _ _
      obtain ⟨vk, hk, hkv⟩ := ix_val (K := K) (j := 2) (d := .tuple (x.P.ls.map dL)) hp.dp (atI_of (by decide) rfl)
      refine s_lpT (l := x.P.ls) (enc := dL) hk (hkv 0 _ _ rfl e) (fun j σ' H' => Ex H H' ∧ H' pe = some (.dK (encK (lm x.B))) ∧ H' pu = some (.dK (encK ((EE.take j).foldl (bfLink (lm x.B)) (bfRounds (lm x.B) EE i u0)))) ∧ ∃ a6 a7 a9 a10 a11, σ' = [some vp, some v1, some v2, some v3, some (.int 0), some (.ref pe), a6, a7, some (.ref pu), a9, a10, a11]) ⟨e, ke, ku, _, _, _, _, _, rfl⟩ (fun _ _ _ k => k.1) (fun j l y σ' H' hj k hy => ?_) fun σ' H' k => ?_
      · obtain ⟨e, ke, ku, a6, a7, a9, a10, a11, rfl⟩ := k
        have hy : Dp K H' y (.tuple [.str l.nm, .str l.one, .str l.oth, .tuple (l.ts.map dP)]) := hy
        have hst : (EE.take (j + 1)).foldl (bfLink (lm x.B)) (bfRounds (lm x.B) EE i u0) = bfLink (lm x.B) ((EE.take j).foldl (bfLink (lm x.B)) (bfRounds (lm x.B) EE i u0)) (edgeOf x.P.ws x.W l (leastR l)) := by rw [take_snoc (hEg j l hj), List.foldl_append]; rfl
        have hlen := foldl_len (bfLink_len (lm x.B)) (EE.take j) (bfRounds (lm x.B) EE i u0)
        rw [List.length_take] at hlen
        rw [hst]
        generalize hw : (EE.take j).foldl (bfLink (lm x.B)) (bfRounds (lm x.B) EE i u0) = u at ku hlen ⊢
        have hu2 : u.length < 100000 := by omega
        have at1 : ∀ (Hx : Hp) (σx : L2.St), Ex H' Hx → σx[10]? = some (some y) → Ev (tOp (rIxT K) (tVar 10) (tC (.int 1))) σx Hx (.str l.one) := fun Hx σx ex hs => EvD.str (evd_ixT (evd_var hs (hy.ex ex)) ev_c (atI_of (by decide) rfl))
        have at2 : ∀ (Hx : Hp) (σx : L2.St), Ex H' Hx → σx[10]? = some (some y) → Ev (tOp (rIxT K) (tVar 10) (tC (.int 2))) σx Hx (.str l.oth) := fun Hx σx ex hs => EvD.str (evd_ixT (evd_var hs (hy.ex ex)) ev_c (atI_of (by decide) rfl))
        have hbl : bfLink (lm x.B) u (edgeOf x.P.ws x.W l (leastR l)) = match dget u l.one with
          | none => u
          | some m => (match cgt x.P.ws x.W (leastR l) m with
            | none => u
            | some t => if ahead (lm x.B) l.oth t = true then bfPut u l.oth t else u) := rfl
        rw [hbl]
        dsimp only
        refine s_if (et_B (ev_din (at1 _ _ (Ex.refl _) rfl) (ev_var rfl) ku)) (fun hin H3 e3 => ?_) (fun hin H3 e3 => ?_)
        · obtain ⟨m, hm⟩ := Option.isSome_iff_exists.mp hin
          rw [hm]
          dsimp only
          refine s_asgD (K := K) (evd_call (a := (x.P, x.W, l, m)) ⟨hx.w, hx.w4, hx.ln l (List.mem_of_getElem? hj)⟩ (eg_P rfl (hp.ex (e.trans e3)) (ed_cons (evd_var rfl (h1.ex (e.trans e3))) (ed_cons (evd_var rfl (hy.ex e3)) (ed_cons (Ev.dI (ev_dget (ev_var rfl) (at1 _ _ e3 rfl) (e3 _ _ ku) hm)) (ed1 (Ev.dI (ev_var rfl))))))) rfl) fun v H6 e6 hv => ?_
          have e36 := e3.trans e6
          dsimp only at hv ⊢
          cases hc : cgt x.P.ws x.W (leastR l) m with
          | none =>
            rw [hc] at hv
            exact s_if (b := false) (et_and (a := false) (b := true) (et_test (evd_notN (evd_var rfl hv))) fun hb => by cases hb) (fun hb => by cases hb) (fun _ H7 e7 => ⟨e.trans (e36.trans e7), (e36.trans e7) _ _ ke, (e36.trans e7) _ _ ku, _, _, _, _, _, rfl⟩)
          | some t =>
            rw [hc] at hv
            cases hv.int_inv
            refine s_if (et_and (et_test (evd_notN (evd_var rfl hv))) fun _ => et_ahead (b := lm x.B) (pb := pe) (p := l.oth) (m := t) (ev_var rfl) (ev_var rfl) (at2 _ _ e36 rfl) (at2 _ _ e36 rfl) (ev_var rfl) (e36 _ _ ke)) (fun hb H7 e7 => ?_) (fun hb H7 e7 => ?_)
            · have hah : ahead (lm x.B) l.oth t = true := hb
              have e37 := e36.trans e7
              simp only [hah, if_true]
              rw [bfPut_eq]
              refine s_if (et_ahead (b := u) (pb := pu) (p := l.oth) (m := t) (ev_var rfl) (ev_var rfl) (at2 _ _ e37 rfl) (at2 _ _ e37 rfl) (ev_var rfl) (e37 _ _ ku)) (fun hb8 H8 e8 => ?_) (fun hb8 H8 e8 => ?_)
              · have e38 := e37.trans e8
                refine s_dput (e38 _ _ ku) (ev_var rfl) (ev_var rfl) (at2 _ _ e38 rfl) hu2 fun H9 e9 => ⟨((e.trans e38).trans e9).mut hpu0, by rw [upd_ne hne]; exact (e38.trans e9) _ _ ke, ?_, _, _, _, _, _, rfl⟩
                rw [upd_same, if_pos hb8]
              · have e38 := e37.trans e8
                refine ⟨e.trans e38, e38 _ _ ke, ?_, _, _, _, _, _, rfl⟩
                rw [if_neg (by rw [hb8]; decide)]
                exact e38 _ _ ku
            · have hah : ahead (lm x.B) l.oth t = false := hb
              have e37 := e36.trans e7
              refine ⟨e.trans e37, e37 _ _ ke, ?_, _, _, _, _, _, rfl⟩
              simp only [hah]
              exact e37 _ _ ku
        · have hn : dget u l.one = none := by
            cases z : dget u l.one with
            | none => rfl
            | some m => rw [z] at hin; cases hin
          rw [hn]
          exact ⟨e.trans e3, e3 _ _ ke, e3 _ _ ku, _, _, _, _, _, rfl⟩
      · obtain ⟨e, ke, ku, a6, a7, a9, a10, a11, rfl⟩ := k
        rw [← hEL, List.take_length] at ku
        exact ⟨e, ke, ku, _, _, _, _, _, rfl⟩
    · obtain ⟨e, ke, ku, a6, a7, a9, a10, a11, rfl⟩ := k
      rw [Int.toNat_natCast, ← hlaw] at ku
      dsimp only
      exact s_ret (ev_var rfl) fun H4 e4 => q _ H4 (e.trans e4) ⟨pu, rfl, hpu0, e4 _ _ ku⟩
end

section
variable {P : Program} {w : World} {K : PySem.W.Frag} {mg : Str → Option Value} {base : Heap}
theorem ok_burning (T : Tx K mg) : FnOk P w K mg base CX0 4 T.burning.a T.burning.fd P_burning (spx_burning K T.C) := by
  refine (T.burning.F).ok sc_burning (fun vs H Q E h => ?_) (fun cdv A outer s H vs Q E hr h => ?_)
  · obtain ⟨a, _, hA, _⟩ := h
    exact aL_len hA
  · have hu := hu_of hr
    refine ⟨_, (pss_cons (ps_expr (pe_call (ok_check_fire T) (hr.mono (by decide)) (by rfl) T.check_fire.g T.check_fire.F.kp T.check_fire.b .nil pass0 (pa_cons (pv 0) (pa_cons (pv 1) (pa_cons (pv 2) (pa_cons (pv 3) pa_nil))))))
      (pss_cons (ps_expr (pe_call (ok_check_numbers T) (hr.mono (by decide)) (by rfl) T.check_numbers.g T.check_numbers.F.kp T.check_numbers.b .nil pass0 (pa_cons (pv 0) (pa_cons (pv 4) pa_nil))))
      (pss_one (ps_ret (pe_call (ok_told T) (hr.mono (by decide)) (by rfl) T.told.g T.told.F.kp T.told.b .nil pass0 (pa_cons (pv 0) (pa_cons (pe_call (ok_spread T) (hr.mono (by decide)) (by rfl) T.spread.g T.spread.F.kp T.spread.b .nil pass0 (pa_cons (pv 0) (pa_cons (pv 1) (pa_cons (pv 2) (pa_cons (pv 3) (pa_cons (pv 4) pa_nil)))))) pa_nil))))))), ?_⟩
    obtain ⟨⟨x, nums⟩, ⟨hx, hN⟩, ⟨vl, rest, rfl, hl, hA⟩, q⟩ := h
    obtain ⟨v1, v2, v3, v4, rfl, h1, h2, h3, h4⟩ := four_inv hA
    have hx : FOk x := hx
    have hN : NumsOk x.P nums := hN
    refine s_dropD (evd_call (a := x) hx (eg_L rfl hl (ed_cons (evd_var rfl h1) (ed_cons (evd_var rfl h2) (ed1 (evd_var rfl h3))))) rfl) fun H1 e1 => ?_
    dsimp only
    refine s_dropD (evd_call (a := (x.P, nums)) ⟨hx.p, hN⟩ (eg_L rfl (hl.ex e1) (ed1 (evd_var rfl (h4.ex e1)))) rfl) fun H2 e2 => ?_
    have e2 := e1.trans e2
    dsimp only
    refine s_retR (R := fun H H' v => ∃ f, CertF x nums f ∧ pF K (dTold x.P.ps (dget f)) H H' v) (fun Ha ea Qa k => ?_) fun v Ha H1 e3 e4 hr => ?_
    · have ea2 := e2.trans ea
      refine ⟨vl, rfl, ?_⟩
      refine er_call (a := (x, nums)) ⟨hx, hN⟩ (eg_L rfl (hl.ex ea2) (ed_cons (evd_var rfl (h1.ex ea2)) (ed_cons (evd_var rfl (h2.ex ea2)) (ed_cons (evd_var rfl (h3.ex ea2)) (ed1 (evd_var rfl (h4.ex ea2))))))) Ha (Ex.refl Ha) _ fun v Hb Hc eb ec hv => ?_
      obtain ⟨f, hf, p, rfl, hp, hd⟩ := hv
      exact ⟨(x.P, f), hx.p, ⟨vl, p, rfl, hl.ex ((ea2.trans eb).trans ec), hd⟩, fun u Hd ed hu => k u Hc Hd (eb.trans ec) ed ⟨f, hf, hu⟩⟩
    · obtain ⟨f, hf, p, xs, rfl, hp, h5, h6⟩ := hr
      exact q _ H1 ((e2.trans e3).trans e4) ⟨f, hf, p, xs, rfl, fresh_back (e2.trans e3) hp, h5, h6⟩
end

theorem lt_anti : ∀ a b : List Nat, ltCps a b = false → ltCps b a = false → a = b
  | [], [], _, _ => rfl
  | [], _ :: _, h, _ => by simp [ltCps] at h
  | _ :: _, [], _, h => by simp [ltCps] at h
  | a :: r, b :: t, h1, h2 => by
    simp only [ltCps, Bool.or_eq_false_iff, decide_eq_false_iff_not, Bool.and_eq_false_iff] at h1 h2
    have e : a = b := by omega
    subst e
    have h3 : ltCps r t = false := by
      rcases h1.2 with h | h
      · simp at h
      · exact h
    have h4 : ltCps t r = false := by
      rcases h2.2 with h | h
      · simp at h
      · exact h
    rw [lt_anti r t h3 h4]
def srt (p : Pth) : Str × Str := if ltCps p.oth.cps.toList p.one.cps.toList = false then (p.one, p.oth) else (p.oth, p.one)
theorem str_ext {a b : Str} (h : a.cps.toList = b.cps.toList) : a = b := by
  cases a
  cases b
  simp only [Str.mk.injEq]
  exact Array.ext' h
theorem srt_only {p : Pth} {ys : List Str} (h : ys.Perm [p.one, p.oth]) (hs : sortedS ys = true) : ys = [(srt p).1, (srt p).2] := by
  have hl := h.length_eq
  match ys, hl with
  | [c, d], _ =>
    have hc : c = p.one ∨ c = p.oth := by
      have := h.mem_iff.mp (List.mem_cons_self : c ∈ [c, d])
      simpa using this
    have hcd : (c = p.one ∧ d = p.oth) ∨ (c = p.oth ∧ d = p.one) := by
      rcases hc with rfl | rfl
      · have h2 := (List.perm_cons _).mp h
        have := h2.mem_iff.mp (List.mem_singleton.mpr rfl)
        exact .inl ⟨rfl, List.mem_singleton.mp this⟩
      · have h2 := h.trans (List.Perm.swap _ _ _)
        have h3 := (List.perm_cons _).mp h2
        have := h3.mem_iff.mp (List.mem_singleton.mpr rfl)
        exact .inr ⟨rfl, List.mem_singleton.mp this⟩
    have hs2 : ltCps d.cps.toList c.cps.toList = false := by
      simpa [sortedS, risingS] using hs
    unfold srt
    rcases hcd with ⟨rfl, rfl⟩ | ⟨rfl, rfl⟩
    · rw [if_pos hs2]
    · by_cases z : ltCps p.oth.cps.toList p.one.cps.toList = false
      · have e := str_ext (lt_anti _ _ hs2 z)
        rw [if_pos z, e]
      · rw [if_neg z]
theorem srt_nodup {l : List Pth} (h : l.Pairwise fun p q => ¬ (p.one = q.one ∧ p.oth = q.oth) ∧ ¬ (p.one = q.oth ∧ p.oth = q.one)) : (l.map srt).Nodup := by
  unfold List.Nodup
  rw [List.pairwise_map]
  refine h.imp fun {p q} hpq e => ?_
  unfold srt at e
  split at e <;> split at e <;> injection e with e1 e2
  · exact hpq.1 ⟨e1, e2⟩
  · exact hpq.2 ⟨e1, e2⟩
  · exact hpq.2 ⟨e2, e1⟩
  · exact hpq.1 ⟨e2, e1⟩
theorem srt_ok {P : Parts} (hP : POk P) {p : Pth} (h : p ∈ P.pt) : PyData.strOk (srt p).1 = true ∧ PyData.strOk (srt p).2 = true := by
  have h1 := strOk_name (hP.pn _ (hP.tn p h).one)
  have h2 := strOk_name (hP.pn _ (hP.tn p h).oth)
  unfold srt
  split
  · exact ⟨h1, h2⟩
  · exact ⟨h2, h1⟩
theorem But.fz {l b : Addr} {H H' : Hp} (h : But l H H') (hn : b ≠ l) : FZ H b → FZ H' b := fun ⟨o, ys, e, d⟩ => ⟨o, ys, h b _ hn e, d⟩
section
variable {P : Program} {w : World} {K : PySem.W.Frag} {mg : Str → Option Value} {base : Heap}
theorem ok_Land_init (T : Tx K mg) : FnOk P w K mg base CX0 4 T.ia T.ifd P_Land_init (spx_Land_init K T.C) := by
  refine (T.iF).ok sc_Land_init (fun vs H Q E h => ?_) (fun cdv A outer s H vs Q E hr h => ?_)
  · obtain ⟨P, x, dx, b, rest, _, rfl, _, _, hA, _⟩ := h
    rw [List.length_cons, hA.len]
    rfl
  · have hu := hu_of hr
    refine ⟨_, (pss_cons (ps_expr (pe_call (ok_require T) (hr.mono (by decide)) (by rfl) T.require.g T.require.F.kp T.require.b .nil pass0 (pa_cons (pe_and (pe_chain op_le op_le pe_int (pe_callB (call_lenK (K := K) rfl) (by rfl) T.u_len PySem.boot_len (pa_cons (pv 1) pa_nil)) (pe_globI (by rfl) T.c_MOST_WINDS)) (pe_and (pe_callB (cr_allK (K := K) rfl rfl) (by rfl) T.u_all (by decide +kernel) (pa_cons (pe_lc (own := [("wind", 5)]) rfl sc_Land_init.nd (pi_tupK (K := K) rfl (pv 1)) (blkOk_by (own := [("wind", 5)]) (N := N_Land_init) (sc := (defScope s_Land_init)) (by decide +kernel)) (fun _ _ _ _ _ => (pg_name (i := 5) sc_Land_init.nd rfl (by first | exact Or.inl rfl | exact Or.inr rfl))) (fun _ _ _ _ _ => pts_nil) (fun _ _ _ _ _ => (pe_call (ok_is_name T) (hr.mono (by decide)) (by rfl) T.is_name.g T.is_name.F.kp T.is_name.b .nil pass0 (pa_cons (pv 5) pa_nil)))) pa_nil)) (pe_one (pe_call (ok_are_different T) (hr.mono (by decide)) (by rfl) T.are_different.g T.are_different.F.kp T.are_different.b .nil pass0 (pa_cons (pv 1) pa_nil))))) pa_nil)))
      (pss_cons (ps_expr (pe_call (ok_require T) (hr.mono (by decide)) (by rfl) T.require.g T.require.F.kp T.require.b .nil pass0 (pa_cons (pe_and (pe_chain op_le op_le pe_int (pe_callB (call_lenK (K := K) rfl) (by rfl) T.u_len PySem.boot_len (pa_cons (pv 2) pa_nil)) (pe_globI (by rfl) T.c_MOST_PLACES)) (pe_one (pe_callB (cr_allK (K := K) rfl rfl) (by rfl) T.u_all (by decide +kernel) (pa_cons (pe_lc (own := [("place", 6)]) rfl sc_Land_init.nd (pi_tupK (K := K) rfl (pv 2)) (blkOk_by (own := [("place", 6)]) (N := N_Land_init) (sc := (defScope s_Land_init)) (by decide +kernel)) (fun _ _ _ _ _ => (pg_name (i := 6) sc_Land_init.nd rfl (by first | exact Or.inl rfl | exact Or.inr rfl))) (fun _ _ _ _ _ => pts_nil) (fun _ _ _ _ _ => (pe_call (ok_is_name T) (hr.mono (by decide)) (by rfl) T.is_name.g T.is_name.F.kp T.is_name.b .nil pass0 (pa_cons (pv 6) pa_nil)))) pa_nil)))) pa_nil)))
      (pss_cons (ps_expr (pe_call (ok_require T) (hr.mono (by decide)) (by rfl) T.require.g T.require.F.kp T.require.b .nil pass0 (pa_cons (pe_call (ok_are_different T) (hr.mono (by decide)) (by rfl) T.are_different.g T.are_different.F.kp T.are_different.b .nil pass0 (pa_cons (pv 2) pa_nil)) pa_nil)))
      (pss_cons (ps_fld (pv 0) (pe_callTy (call_tupOfK (K := K) rfl) (by rfl) T.u_tuple (by decide +kernel) (pa_cons (pv 1) pa_nil)) rfl)
      (pss_cons (ps_fld (pv 0) (pe_callTy (call_tupOfK (K := K) rfl) (by rfl) T.u_tuple (by decide +kernel) (pa_cons (pv 2) pa_nil)) rfl)
      (pss_cons (ps_expr (pe_call (ok_require T) (hr.mono (by decide)) (by rfl) T.require.g T.require.F.kp T.require.b .nil pass0 (pa_cons (pe_cmpR (op_le) (pe_callB (call_lenK (K := K) rfl) (by rfl) T.u_len PySem.boot_len (pa_cons (pv 3) pa_nil)) (pe_globI (by rfl) T.c_MOST_LINKS) (nomark _)) pa_nil)))
      (pss_cons (ps_fld (pv 0) (pe_callTy (call_tupOfK (K := K) rfl) (by rfl) T.u_tuple (by decide +kernel) (pa_cons (pe_lc (own := [("link", 7)]) rfl sc_Land_init.nd (pi_tupK (K := K) rfl (pv 3)) (blkOk_by (own := [("link", 7)]) (N := N_Land_init) (sc := (defScope s_Land_init)) (by decide +kernel)) (fun _ _ _ _ _ => (pg_name (i := 7) sc_Land_init.nd rfl (by first | exact Or.inl rfl | exact Or.inr rfl))) (fun _ _ _ _ _ => pts_nil) (fun _ _ _ _ _ => (pe_meth (pv 0) T.cl T.m_checked_link (ok_Land_checked_link T) (hr.mono (by decide)) T.Land_checked_link.b .nil pass0 (pa_cons (pv 7) pa_nil)))) pa_nil)) rfl)
      (pss_cons (ps_expr (pe_call (ok_require T) (hr.mono (by decide)) (by rfl) T.require.g T.require.F.kp T.require.b .nil pass0 (pa_cons (pe_call (ok_are_different T) (hr.mono (by decide)) (by rfl) T.are_different.g T.are_different.F.kp T.are_different.b .nil pass0 (pa_cons (pe_prop (pv 0) T.cl T.prop (ok_Land_link_names T) (hr.mono (by decide)) T.Land_link_names.b .nil pass0 rfl) pa_nil)) pa_nil)))
      (pss_cons (ps_expr (pe_call (ok_require T) (hr.mono (by decide)) (by rfl) T.require.g T.require.F.kp T.require.b .nil pass0 (pa_cons (pe_cmpR (op_le) (pe_callB (call_lenK (K := K) rfl) (by rfl) T.u_len PySem.boot_len (pa_cons (pv 4) pa_nil)) (pe_globI (by rfl) T.c_MOST_PATHS) (nomark _)) pa_nil)))
      (pss_cons (ps_fld (pv 0) (pe_callTy (call_tupOfK (K := K) rfl) (by rfl) T.u_tuple (by decide +kernel) (pa_cons (pe_lc (own := [("path", 8)]) rfl sc_Land_init.nd (pi_tupK (K := K) rfl (pv 4)) (blkOk_by (own := [("path", 8)]) (N := N_Land_init) (sc := (defScope s_Land_init)) (by decide +kernel)) (fun _ _ _ _ _ => (pg_name (i := 8) sc_Land_init.nd rfl (by first | exact Or.inl rfl | exact Or.inr rfl))) (fun _ _ _ _ _ => pts_nil) (fun _ _ _ _ _ => (pe_meth (pv 0) T.cl T.m_checked_path (ok_Land_checked_path T) (hr.mono (by decide)) T.Land_checked_path.b .nil pass0 (pa_cons (pv 8) pa_nil)))) pa_nil)) rfl)
      (pss_one (ps_expr (pe_call (ok_require T) (hr.mono (by decide)) (by rfl) T.require.g T.require.F.kp T.require.b .nil pass0 (pa_cons (pe_call (ok_are_different T) (hr.mono (by decide)) (by rfl) T.are_different.g T.are_different.F.kp T.are_different.b .nil pass0 (pa_cons (pe_lc (own := [("path", 8)]) rfl sc_Land_init.nd (pi_tupK (K := K) rfl (pe_fldK (K := K) rfl (pv 0) rfl)) (blkOk_by (own := [("path", 8)]) (N := N_Land_init) (sc := (defScope s_Land_init)) (by decide +kernel)) (fun _ _ _ _ _ => (pg_name (i := 8) sc_Land_init.nd rfl (by first | exact Or.inl rfl | exact Or.inr rfl))) (fun _ _ _ _ _ => pts_nil) (fun _ _ _ _ _ => (pe_callTy (call_tupOfK (K := K) rfl) (by rfl) T.u_tuple (by decide +kernel) (pa_cons (pe_callB (cr_sortTK (K := K) rfl) (by rfl) T.u_sorted (by decide +kernel) (pa_cons (pe_slice (sl_tupK (K := K) rfl) (pv 8) po_none (po_some pe_int)) pa_nil)) pa_nil)))) pa_nil)) pa_nil)))))))))))))), ?_⟩
    obtain ⟨P, x, dx, b, rest, hP, rfl, hx, hz, hA, q⟩ := h
    obtain ⟨v1, v2, v3, v4, ev, h1, h2, h3, h4⟩ := four_inv hA
    cases ev
    have h2 : Dp K H v2 (.tuple (P.ps.map .str)) := h2
    have w1 := hP.w1
    have w4 := hP.w4
    have p1 := hP.p1
    have p2 := hP.p2
    have l2 := hP.l2
    have t2 := hP.t2
    have hbx : b ≠ x := by
      intro z
      obtain ⟨o, ys, e, _⟩ := hz
      rw [z, hx] at e
      cases e
    -- all names are names
    have names : ∀ (Hn : Hp) (σ : L2.St) (i j : Nat) (v : V) (l : List Str) (vs : List Nat), σ[i]? = some (some v) → Dp K Hn v (.tuple (l.map .str)) → l.length ≤ 40000 → (∀ z ∈ l, NameOk z) → (∀ a, wipe ((wipe σ vs).set j (some a)) vs = wipe σ vs) → (∀ a, ((wipe σ vs).set j (some a))[j]? = some (some a)) →
        Ev (tCB (rAll K) (tCons (tLc (iTup K (tVar i)) (gName j) tYes (tCall (spx_is_name K) [] E0 (tCons (tVar j) tNil)) vs) tNil)) σ Hn (.bl true) := fun Hn σ i j v l vs hi hv hl hok hw hj =>
      Ev.to (ev_all (bs := l.map fun _ => true) (EvF.toD (EvF.to (evf_aT (l := l) (enc := .str) (gv := fun _ => .bool true) gm_name (evd_var hi hv) hl (fun _ _ => imm_bool _) fun k z y H2 hk ey hy => ⟨Ex.refl _, hw y, evd_call (a := z) (hok z (List.mem_of_getElem? hk)) (eg_D (ed1 (evd_var (hj y) hy))) rfl⟩) (by rw [List.map_map]; rfl)))) (by rw [List.all_map]; congr 1; rw [List.all_eq_true]; intro _ _; rfl)
    have req : ∀ (Hn : Hp) (σ : L2.St) (te : TE), Ev te σ Hn (.bl true) → EvD K (tCall (spx_require K) [] E0 (tCons te tNil)) σ Hn .none := fun Hn σ te h => evd_call (a := ()) trivial (eg_D (ed1 (Ev.dB h))) rfl
    have diff : ∀ (Hn : Hp) (σ : L2.St) (te : TE) (l : List Str), EvD K te σ Hn (.tuple (l.map .str)) → l.Nodup → l.length ≤ 64 → Ev (tCall (spx_are_different K) [] E0 (tCons te tNil)) σ Hn (.bl true) := fun Hn σ te l h hn h64 => EvD.bl (evd_call (a := (.inl l : List Str ⊕ List (Str × Str))) (show l.Nodup ∧ l.length ≤ 64 from ⟨hn, h64⟩) (eg_D (ed1 h)) rfl)
    refine s_dropD (req _ _ _ (Ev.to (ev_andV (ev_chLE ev_c (ev_lenT (evd_var rfl h1)) ev_c ⟨by rw [List.length_map]; omega, by rw [List.length_map]; omega⟩) fun _ => ev_andV (names _ _ 1 5 _ P.ws _ rfl h1 (by omega) hP.wn (fun _ => rfl) (fun _ => rfl)) fun _ => diff _ _ _ P.ws (evd_var rfl h1) hP.wd (by omega)) rfl)) fun H1 e1 => ?_
    dsimp only
    refine s_dropD (req _ _ _ (Ev.to (ev_andV (ev_chLE ev_c (ev_lenT (evd_var rfl (h2.ex e1))) ev_c ⟨by rw [List.length_map]; omega, by rw [List.length_map]; omega⟩) fun _ => names _ _ 2 6 _ P.ps _ rfl (h2.ex e1) (by omega) hP.pn (fun _ => rfl) (fun _ => rfl)) rfl)) fun H2 e2 => ?_
    have e2 := e1.trans e2
    dsimp only
    refine s_dropD (req _ _ _ (diff _ _ _ P.ps (evd_var rfl (h2.ex e2)) hP.pd (by omega))) fun H3 e3 => ?_
    have e3 := e2.trans e3
    dsimp only
    obtain ⟨a1, x1, ea1, hq1, hx1⟩ := h1.tup_inv
    cases ea1
    obtain ⟨a2, x2, rfl, hq2, hx2⟩ := h2.tup_inv
    refine ⟨_, rfl, b, x1, rfl, .inr ⟨ex_t e3 hq1, ⟨_, rfl, x, T.C, dx, [], rfl, e3 _ _ hx, T.cl, T.n_winds, by decide, ?_⟩⟩⟩
    have b4 : But x H (upd H3 x (.ins T.C dx (putF ("winds" : Str) (.ref b) []))) := (But.of_ex e3).upd
    have k4 := b4.kt hx rfl
    have q4 : (upd H3 x (.ins T.C dx (putF ("winds" : Str) (.ref b) []))) x = some (.ins T.C dx (putF ("winds" : Str) (.ref b) [])) := upd_same
    generalize hH4 : upd H3 x (.ins T.C dx (putF ("winds" : Str) (.ref b) [])) = H4 at b4 k4 q4
    dsimp only
    refine ⟨_, rfl, a2, x2, rfl, .inr ⟨kt_t k4 hq2, ⟨_, rfl, x, T.C, dx, _, rfl, q4, T.cl, T.n_places, by simp [putF], ?_⟩⟩⟩
    have b5 : But x H (upd H4 x (.ins T.C dx [(("winds" : Str), .ref b), (("places" : Str), .ref a2)])) := b4.upd
    have k5 := b5.kt hx rfl
    have q5 : (upd H4 x (.ins T.C dx [(("winds" : Str), .ref b), (("places" : Str), .ref a2)])) x = some (.ins T.C dx [(("winds" : Str), .ref b), (("places" : Str), .ref a2)]) := upd_same
    have eH5 : upd H4 x (.ins T.C dx (putF ("places" : Str) (.ref a2) (putF ("winds" : Str) (.ref b) []))) = upd H4 x (.ins T.C dx [(("winds" : Str), .ref b), (("places" : Str), .ref a2)]) := rfl
    rw [eH5]
    generalize hH5 : upd H4 x (.ins T.C dx [(("winds" : Str), .ref b), (("places" : Str), .ref a2)]) = H5 at b5 k5 q5
    have L5 : LAtt K T.C H5 (.ref x) P.ws P.ps none := ⟨x, dx, _, rfl, q5, by
      intro m hm
      simp only [meths, List.mem_cons, List.mem_nil_iff, or_false] at hm
      rcases hm with rfl | rfl | rfl | rfl | rfl <;> rfl, ⟨b, rfl, h1.kt k5 (by simp [imm, imm_strs]), b5.fz hbx hz⟩, ⟨.ref a2, rfl, h2.kt k5 (by simp [imm, imm_strs])⟩, fun ls e => by cases e⟩
    have h35 : Dp K H5 v3 (.tuple (P.ls.map dL)) := h3.kt k5 (by simp [imm, immAll_map imm_dL])
    dsimp only
    refine s_dropD (req _ _ _ (Ev.to (ev_le (ev_lenT (evd_var rfl h35)) ev_c) (w := .bl true) (by rw [List.length_map]; simp; omega))) fun H6 e6 => ?_
    have L6 := L5.ex e6
    dsimp only
    refine evd_tupL (EvF.toD (evf_aT (l := P.ls) (enc := dL) (gv := dL) gm_name (evd_var rfl (h35.ex e6)) (by omega) (fun l _ => imm_dL l) fun i l y H7 hi ey hy => ⟨Ex.refl _, rfl, evd_meth (a := (P.ws, P.ps, l)) rfl (L6.ex ey) (by decide) ⟨w4, hP.ln l (List.mem_of_getElem? hi)⟩ (ed1 (evd_var rfl hy)) rfl rfl⟩)) H6 (Ex.refl _) _ fun y H7 e7 hy => ⟨_, rfl, x, T.C, dx, _, rfl, e7 _ _ (e6 _ _ q5), T.cl, T.n_links, by simp, ?_⟩
    have q7 := e7 _ _ (e6 _ _ q5)
    have b8 : But x H (upd H7 x (.ins T.C dx [(("winds" : Str), .ref b), (("places" : Str), .ref a2), (("links" : Str), y)])) := ((b5.ex e6).ex e7).upd
    have k8 := b8.kt hx rfl
    have q8 : (upd H7 x (.ins T.C dx [(("winds" : Str), .ref b), (("places" : Str), .ref a2), (("links" : Str), y)])) x = some (.ins T.C dx [(("winds" : Str), .ref b), (("places" : Str), .ref a2), (("links" : Str), y)]) := upd_same
    have hy8 : Dp K (upd H7 x (.ins T.C dx [(("winds" : Str), .ref b), (("places" : Str), .ref a2), (("links" : Str), y)])) y (.tuple (P.ls.map dL)) := hy.kt (kt_mut q7 rfl) (by simp [imm, immAll_map imm_dL])
    have eH8 : upd H7 x (.ins T.C dx (putF ("links" : Str) y [(("winds" : Str), .ref b), (("places" : Str), .ref a2)])) = upd H7 x (.ins T.C dx [(("winds" : Str), .ref b), (("places" : Str), .ref a2), (("links" : Str), y)]) := rfl
    rw [eH8]
    generalize hH8 : upd H7 x (.ins T.C dx [(("winds" : Str), .ref b), (("places" : Str), .ref a2), (("links" : Str), y)]) = H8 at b8 k8 q8 hy8
    have L8 : LAtt K T.C H8 (.ref x) P.ws P.ps (some P.ls) := ⟨x, dx, _, rfl, q8, by
      intro m hm
      simp only [meths, List.mem_cons, List.mem_nil_iff, or_false] at hm
      rcases hm with rfl | rfl | rfl | rfl | rfl <;> rfl, ⟨b, rfl, h1.kt k8 (by simp [imm, imm_strs]), b8.fz hbx hz⟩, ⟨.ref a2, rfl, h2.kt k8 (by simp [imm, imm_strs])⟩, fun ls e => by cases e; exact ⟨y, rfl, hy8⟩⟩
    dsimp only
    refine s_dropD (req _ _ _ (diff _ _ _ (P.ls.map Lk.nm) (fun Hn en Qn kn => ⟨.ref x, rfl, x, dx, _, rfl, en _ _ q8, (P.ws, P.ps, P.ls), by show P.ls.length ≤ 64; omega, ⟨.ref x, [], rfl, L8.ex en, .nil⟩, fun v H' e hv => kn v H' e hv⟩) hP.ld (by rw [List.length_map]; omega))) fun H9 e9 => ?_
    have h49 : Dp K H9 v4 (.tuple (P.pt.map dT)) := (h4.kt k8 (by simp [imm, immAll_map imm_dT])).ex e9
    dsimp only
    refine s_dropD (req _ _ _ (Ev.to (ev_le (ev_lenT (evd_var rfl h49)) ev_c) (w := .bl true) (by rw [List.length_map]; simp; omega))) fun H10 e10 => ?_
    have e10' := e9.trans e10
    have L10 := (L8.ex e10').weak
    dsimp only
    refine evd_tupL (EvF.toD (evf_aT (l := P.pt) (enc := dT) (gv := dT) gm_name (evd_var rfl (h49.ex e10)) (by omega) (fun l _ => imm_dT l) fun i l y H7 hi ey hy => ⟨Ex.refl _, rfl, evd_meth (a := (P.ws, P.ps, l)) rfl (L10.ex ey) (by decide) (hP.tn l (List.mem_of_getElem? hi)) (ed1 (evd_var rfl hy)) rfl rfl⟩)) H10 (Ex.refl _) _ fun z H11 e11 hzt => ⟨_, rfl, x, T.C, dx, _, rfl, e11 _ _ (e10' _ _ q8), T.cl, T.n_paths, by simp, ?_⟩
    have q11 := e11 _ _ (e10' _ _ q8)
    have b12 : But x H (upd H11 x (.ins T.C dx [(("winds" : Str), .ref b), (("places" : Str), .ref a2), (("links" : Str), y), (("paths" : Str), z)])) := ((b8.ex e10').ex e11).upd
    have k12 := b12.kt hx rfl
    have q12 : (upd H11 x (.ins T.C dx [(("winds" : Str), .ref b), (("places" : Str), .ref a2), (("links" : Str), y), (("paths" : Str), z)])) x = some (.ins T.C dx [(("winds" : Str), .ref b), (("places" : Str), .ref a2), (("links" : Str), y), (("paths" : Str), z)]) := upd_same
    have hy12 : Dp K (upd H11 x (.ins T.C dx [(("winds" : Str), .ref b), (("places" : Str), .ref a2), (("links" : Str), y), (("paths" : Str), z)])) y (.tuple (P.ls.map dL)) := ((hy8.ex e10').ex e11).kt (kt_mut q11 rfl) (by simp [imm, immAll_map imm_dL])
    have hz12 : Dp K (upd H11 x (.ins T.C dx [(("winds" : Str), .ref b), (("places" : Str), .ref a2), (("links" : Str), y), (("paths" : Str), z)])) z (.tuple (P.pt.map dT)) := hzt.kt (kt_mut q11 rfl) (by simp [imm, immAll_map imm_dT])
    have eH12 : upd H11 x (.ins T.C dx (putF ("paths" : Str) z [(("winds" : Str), .ref b), (("places" : Str), .ref a2), (("links" : Str), y)])) = upd H11 x (.ins T.C dx [(("winds" : Str), .ref b), (("places" : Str), .ref a2), (("links" : Str), y), (("paths" : Str), z)]) := rfl
    rw [eH12]
    generalize hH12 : upd H11 x (.ins T.C dx [(("winds" : Str), .ref b), (("places" : Str), .ref a2), (("links" : Str), y), (("paths" : Str), z)]) = H12 at b12 k12 q12 hy12 hz12
    have L12 : LandAt K T.C H12 (.ref x) P := ⟨x, dx, _, rfl, q12, by
      intro m hm
      simp only [meths, List.mem_cons, List.mem_nil_iff, or_false] at hm
      rcases hm with rfl | rfl | rfl | rfl | rfl <;> rfl, ⟨b, rfl, h1.kt k12 (by simp [imm, imm_strs]), b12.fz hbx hz⟩, ⟨.ref a2, rfl, h2.kt k12 (by simp [imm, imm_strs])⟩, fun ls e => by cases e; exact ⟨y, rfl, hy12⟩⟩
    dsimp only
    refine s_dropD (req _ _ _ (EvD.bl (evd_call (a := (.inr (P.pt.map srt) : List Str ⊕ List (Str × Str))) (show (P.pt.map srt).Nodup ∧ ∀ r ∈ P.pt.map srt, PyData.strOk r.1 = true ∧ PyData.strOk r.2 = true from ⟨srt_nodup hP.td, fun r hr => by
      obtain ⟨p, hp, rfl⟩ := List.mem_map.mp hr
      exact srt_ok hP hp⟩) (eg_D (ed1 (EvF.toD (EvF.to (evf_aT (l := P.pt) (enc := dT) (gv := fun p => dSS (srt p)) gm_name (fun Hn en Qn kn => ⟨.ref x, rfl, x, T.C, dx, _, z, rfl, en _ _ q12, T.cl, T.n_paths, rfl, kn z Hn (Ex.refl _) (hz12.ex en)⟩) (by omega) (fun p _ => by simp [dSS, imm, immAll]) fun i p u H13 hi eu hu' => ⟨Ex.refl _, rfl, ?_⟩) ?_)))) rfl))) fun H14 e14 => q H14 (b12.ex e14) (L12.ex e14)
    · have hu' : Dp K H13 u (.tuple [.str p.one, .str p.oth, .int p.mi]) := hu'
      have hsl : EvD K (tSl (rSlT K) (tVar 8) tNoPart (tPart (tC (.int 2)))) ((wipe [some (.ref x), some (.ref b), some (.ref a2), some v3, some v4, none, none, none, none] [8]).set 8 (some u)) H13 (.tuple ([p.one, p.oth].map .str)) := evd_slT (ds := [.str p.one, .str p.oth, .int p.mi]) (evd_var rfl hu') eo_none (eo_some ev_c) (by show ¬ (HT.sIx 3 0 none = 0 ∧ HT.sIx 3 3 (some 2) = 3); decide)
      refine evd_tupL (EvF.toD (ds := [.str (srt p).1, .str (srt p).2]) fun Hn en Qn kn => hsl Hn en _ fun t Hm em ht => ?_)
      obtain ⟨c, xs, rfl, hq, hxs⟩ := ht.tup_inv
      cases hxs.strs_inv
      refine ⟨c, [p.one, p.oth], rfl, hq, by simp, fun ys l hperm hs hl => kn l _ _ (fresh_back em hl) (em.trans (Ex.new hl)) upd_same ?_⟩
      rw [srt_only hperm hs]
      exact dpa_strs _
    · rw [List.map_map]
      rfl
end

section
variable {P : Program} {w : World} {K : PySem.W.Frag} {mg : Str → Option Value} {base : Heap}
theorem ok_law_kept (T : Tx K mg) : FnOk P w K mg base CX0 4 T.law_kept.a T.law_kept.fd P_law_kept (spx_law_kept K) := by
  refine (T.law_kept.F).ok sc_law_kept (fun vs H Q E h => ?_) (fun cdv A outer s H vs Q E hr h => ?_)
  · obtain ⟨a, _, ⟨vp, rest, rfl, _, hA⟩, _⟩ := h
    rw [List.length_cons, hA.len]
    rfl
  · have hu := hu_of hr
    refine ⟨_, (pss_cons (ps_set (i := 5) sc_law_kept.nd rfl (by first | exact Or.inl rfl | exact Or.inr rfl) (pe_call (ok_law_fire T) (hr.mono (by decide)) (by rfl) T.law_fire.g T.law_fire.F.kp T.law_fire.b .nil pass0 (pa_cons (pv 0) (pa_cons (pv 1) (pa_cons (pv 2) (pa_cons (pv 3) (pa_cons pe_int pa_nil)))))))
      (pss_one (ps_ret (pe_not (pe_callB (cr_anyK (K := K) rfl rfl) (by rfl) T.u_any (by decide +kernel) (pa_cons (pe_lc (own := [("_law_goal", 6)]) rfl sc_law_kept.nd (pi_listK (K := K) rfl (pv 4)) (blkOk_by (own := [("_law_goal", 6)]) (N := N_law_kept) (sc := (defScope s_law_kept)) (by decide +kernel)) (fun _ _ _ _ _ => (pg_name (i := 6) sc_law_kept.nd rfl (by first | exact Or.inl rfl | exact Or.inr rfl))) (fun _ _ _ _ _ => pts_nil) (fun _ _ _ _ _ => (pe_cmp (pc_din hu (pv 6) (pv 5))))) pa_nil)))))), ?_⟩
    obtain ⟨⟨x, goals⟩, ⟨hx, hn⟩, ⟨vp, rest, rfl, hp, hA⟩, q⟩ := h
    obtain ⟨v1, v2, v3, v4, rfl, h1, h2, h3, h4⟩ := four_inv hA
    have hx : LFOk x := hx
    have hn : goals.length ≤ 100 := hn
    have h4 : Dp K H v4 (.list (goals.map .str)) := h4
    refine s_asgR (er_call (a := x) hx (eg_P rfl hp (ed_cons (evd_var rfl h1) (ed_cons (evd_var rfl h2) (ed_cons (evd_var rfl h3) (ed1 (Ev.dI ev_c))))))) fun v Ha H1 e1 e2 hv => ?_
    obtain ⟨p, rfl, hpn, hd⟩ := hv
    have e3 := e1.trans e2
    dsimp only
    refine s_retD (Ev.dB (ev_notV (Ev.to (ev_any (bs := goals.map fun g => (dget (lawB x) g).isSome) (EvF.toD (EvF.to (evf_aL (l := goals) (enc := .str) (gv := fun g => .bool (dget (lawB x) g).isSome) gm_name (evd_var rfl (h4.ex e3)) (by omega) (fun x _ => imm_bool _) fun i g y H2 hi ey hy => ⟨Ex.refl _, rfl, Ev.dB (ev_din (EvD.str (evd_var rfl hy)) (ev_var rfl) (ey _ _ hd))⟩) (by rw [List.map_map]; rfl)))) (by rw [List.any_map]; rfl)))) fun v H3 e4 hv => q v H3 (e3.trans e4) hv
end

theorem nums_least {P : Parts} (hP : POk P) : NumsOk P (leastN P.ls) := by
  refine ⟨List.length_map _, fun i row l h1 h2 => ?_⟩
  unfold leastN at h1
  rw [List.getElem?_map, h2] at h1
  have h1 : leastR l = row := Option.some.inj h1
  subst h1
  refine ⟨List.length_map _, fun j o p h3 h4 => ?_⟩
  unfold leastR at h3
  rw [List.getElem?_map, h4] at h3
  have h3 : p.map (·.1) = o := Option.some.inj h3
  subst h3
  cases p with
  | none => exact .inl ⟨rfl, rfl⟩
  | some r =>
    obtain ⟨_, l2, _⟩ := (hP.ln l (List.mem_of_getElem? h2)).ok _ (List.mem_of_getElem? h4) r rfl
    exact .inr ⟨r.1, r, rfl, rfl, Int.le_refl _, l2⟩
section
variable {P : Program} {w : World} {K : PySem.W.Frag} {mg : Str → Option Value} {base : Heap}
theorem ok_fastest (T : Tx K mg) : FnOk P w K mg base CX0 5 T.fastest.a T.fastest.fd P_fastest (spx_fastest K T.C) := by
  refine (T.fastest.F).ok sc_fastest (fun vs H Q E h => ?_) (fun cdv A outer s H vs Q E hr h => ?_)
  · obtain ⟨a, _, hA, _⟩ := h
    exact aL_len hA
  · have hu := hu_of hr
    refine ⟨_, (pss_one (ps_ret (pe_call (ok_burning T) (hr.mono (by decide)) (by rfl) T.burning.g T.burning.F.kp T.burning.b .nil pass0 (pa_cons (pv 0) (pa_cons (pv 1) (pa_cons (pv 2) (pa_cons (pv 3) (pa_cons (pe_call (ok_least_numbers T) (hr.mono (by decide)) (by rfl) T.least_numbers.g T.least_numbers.F.kp T.least_numbers.b .nil pass0 (pa_cons (pv 0) pa_nil)) pa_nil)))))))), ?_⟩
    obtain ⟨x, hx, ⟨vl, rest, rfl, hl, hA⟩, q⟩ := h
    obtain ⟨v1, v2, v3, rfl, h1, h2, h3⟩ := three_inv hA
    have hx : FOk x := hx
    refine s_retR (er_call (a := (x, leastN x.P.ls)) ⟨hx, nums_least hx.p⟩ (eg_L rfl hl (ed_cons (evd_var rfl h1) (ed_cons (evd_var rfl h2) (ed_cons (evd_var rfl h3) (ed1 (evd_call (a := x.P) hx.p (eg_L rfl hl ed_nil) rfl))))))) fun v Ha H1 e3 e4 hr => ?_
    obtain ⟨f, hf, p, xs, rfl, hp, h5, h6⟩ := hr
    exact q _ H1 (e3.trans e4) ⟨f, hf, p, xs, rfl, fresh_back e3 hp, h5, h6⟩
end

def vO : Option Int → V
  | none => .non
  | some i => .int i
def encT (l : List Str) (g : Str → Option Int) : List (Key × V) := l.map fun p => (Sum.inr p, vO (g p))
theorem told_pairs {K : PySem.W.Frag} {H : Hp} (g : Str → Option Int) : ∀ (l : List Str) (xs : List V), DpAll K H xs (dTold l g) → ∃ ps : List Addr, xs = ps.map V.ref ∧ Paired (fun p (kv : Key × V) => SqT K H p [kV kv.1, kv.2]) ps (encT l g)
  | [], xs, h => by cases h; exact ⟨[], rfl, .nil⟩
  | z :: l, xs, h => by
    cases h with
    | cons h1 h2 =>
      obtain ⟨ps, e, hp⟩ := told_pairs g l _ h2
      obtain ⟨a, ys, rfl, hq, hy⟩ := h1.tup_inv
      obtain ⟨u, v, rfl, hu, hv⟩ := two_inv hy
      refine ⟨a :: ps, by rw [e]; rfl, .cons ?_ hp⟩
      rw [hu.str_inv] at hq
      have ev : v = vO (g z) := by
        cases e2 : g z with
        | none => rw [e2] at hv; exact hv.non_inv
        | some i => rw [e2] at hv; exact hv.int_inv
      rw [ev] at hq
      exact hq
theorem merge_get (g : Str → Option Int) (p : Str) : ∀ (l : List Str) (acc : List (Key × V)), (p ∈ l ∨ valV acc (Sum.inr p : Key) = some (vO (g p))) → valV (mergeK acc (encT l g)) (Sum.inr p : Key) = some (vO (g p))
  | [], acc, h => by
    rcases h with h | h
    · cases h
    · exact h
  | z :: l, acc, h => by
    show valV (mergeK (putK acc (Sum.inr z) (vO (g z))) (encT l g)) _ = _
    refine merge_get g p l _ ?_
    rw [valV_put]
    by_cases e : p = z
    · subst e
      exact .inr (by rw [if_pos rfl])
    · rcases h with h | h
      · rcases List.mem_cons.mp h with h | h
        · exact absurd h e
        · exact .inl h
      · exact .inr (by rw [if_neg (by intro q; exact e (Sum.inr.inj q))]; exact h)
section
variable {P : Program} {w : World} {K : PySem.W.Frag} {mg : Str → Option Value} {base : Heap}
theorem ok_never_burn (T : Tx K mg) : FnOk P w K mg base CX0 6 T.never_burn.a T.never_burn.fd P_never_burn (spx_never_burn K T.C) := by
  refine (T.never_burn.F).ok sc_never_burn (fun vs H Q E h => ?_) (fun cdv A outer s H vs Q E hr h => ?_)
  · obtain ⟨a, _, hA, _⟩ := h
    exact aL_len hA
  · have hu := hu_of hr
    refine ⟨_, (pss_cons (ps_set (i := 5) sc_never_burn.nd rfl (by first | exact Or.inl rfl | exact Or.inr rfl) (pe_callTy (call_dictP rfl) (by rfl) T.u_dict (by decide +kernel) (pa_cons (pe_call (ok_fastest T) (hr.mono (by decide)) (by rfl) T.fastest.g T.fastest.F.kp T.fastest.b .nil pass0 (pa_cons (pv 0) (pa_cons (pv 1) (pa_cons (pv 2) (pa_cons (pv 3) pa_nil))))) pa_nil)))
      (pss_one (ps_ret (pe_callB (cr_allK (K := K) rfl rfl) (by rfl) T.u_all (by decide +kernel) (pa_cons (pe_lc (own := [("goal", 6)]) rfl sc_never_burn.nd (pi_listK (K := K) rfl (pv 4)) (blkOk_by (own := [("goal", 6)]) (N := N_never_burn) (sc := (defScope s_never_burn)) (by decide +kernel)) (fun _ _ _ _ _ => (pg_name (i := 6) sc_never_burn.nd rfl (by first | exact Or.inl rfl | exact Or.inr rfl))) (fun _ _ _ _ _ => pts_nil) (fun _ _ _ _ _ => (pe_cmpR (op_isN') (pe_dget hu (pv 5) (pv 6) (fun _ _ => rfl)) pe_non (nomark _)))) pa_nil))))), ?_⟩
    obtain ⟨⟨x, goals⟩, ⟨hx, hn, hg⟩, ⟨vl, rest, rfl, hl, hA⟩, q⟩ := h
    obtain ⟨v1, v2, v3, v4, rfl, h1, h2, h3, h4⟩ := four_inv hA
    have hx : FOk x := hx
    have hg : ∀ z ∈ goals, z ∈ x.P.ps := hg
    have hn : goals.length ≤ 100 := hn
    have h4 : Dp K H v4 (.list (goals.map .str)) := h4
    refine er_call (a := x) hx (eg_L rfl hl (ed_cons (evd_var rfl h1) (ed_cons (evd_var rfl h2) (ed1 (evd_var rfl h3))))) H (Ex.refl H) _ fun v Ha H1 e1 e2 hv => ?_
    obtain ⟨f, hf, p, xs, rfl, hp, h5, h6⟩ := hv
    obtain ⟨ps, rfl, hps⟩ := told_pairs (dget f) x.P.ps xs h6
    refine ⟨p, ps, encT x.P.ps (dget f), rfl, SqL.of h5, hps, fun pd hpd => ?_⟩
    have e3 : Ex H (upd H1 pd (.dK (mergeK [] (encT x.P.ps (dget f))))) := (e1.trans e2).trans (Ex.new hpd)
    dsimp only
    refine s_retD (d := .bool (goals.all fun g => (dget f g).isNone)) (Ev.dB (Ev.to (ev_all (bs := goals.map fun g => (dget f g).isNone) (EvF.toD (EvF.to (evf_aL (l := goals) (enc := .str) (gv := fun g => .bool (dget f g).isNone) gm_name (evd_var rfl (h4.ex e3)) (by omega) (fun x _ => imm_bool _) fun i g y H2 hi ey hy => ⟨Ex.refl _, rfl, ?_⟩) (by rw [List.map_map]; rfl)))) (by rw [List.all_map]; rfl))) fun v H3 e4 hv => q v H3 (e3.trans e4) ⟨f, hf, hv⟩
    have hgp := hg g (List.mem_of_getElem? hi)
    have hval := merge_get (dget f) g x.P.ps [] (.inl hgp)
    refine Ev.dB (Ev.to (ev_isN (x := vO (dget f g)) fun H4 e5 Q2 k => ?_) ?_)
    · cases hy.str_inv
      refine ⟨_, rfl, .str g, rfl, pd, vO (dget f g), rfl, ?_, k H4 (Ex.refl _)⟩
      have hat := e5 _ _ (ey _ _ (upd_same : (upd H1 pd (.dK (mergeK [] (encT x.P.ps (dget f))))) pd = _))
      rw [← hval]
      exact DGet.k (k := Sum.inr g) hat
    · cases dget f g <;> simp [vO]
end

section
variable {P : Program} {w : World} {K : PySem.W.Frag} {mg : Str → Option Value} {base : Heap}
theorem ok_law_made (T : Tx K mg) : FnOk P w K mg base CX0 6 T.law_made.a T.law_made.fd P_law_made (spx_law_made K T.C) := by
  refine (T.law_made.F).ok sc_law_made (fun vs H Q E h => ?_) (fun cdv A outer s H vs Q E hr h => ?_)
  · obtain ⟨a, _, ⟨vp, rest, rfl, _, hA⟩, _⟩ := h
    rw [List.length_cons, hA.len]
    rfl
  · have hu := hu_of hr
    refine ⟨_, (pss_one (ps_ret (pe_makeK0 T.mkr (ok_Land_init T) (hr.mono (by decide)) (by rfl) T.mC T.kb pass0 (pk_cons (pe_ix (ix_listK (K := K) rfl) (pv 0) pe_int (fun _ _ => rfl)) (pk_cons (pe_ix (ix_listK (K := K) rfl) (pv 0) pe_int (fun _ _ => rfl)) (pk_cons (pe_ix (ix_listK (K := K) rfl) (pv 0) pe_int (fun _ _ => rfl)) (pk_cons (pe_ix (ix_listK (K := K) rfl) (pv 0) pe_int (fun _ _ => rfl)) pk_nil))))))), ?_⟩
    obtain ⟨P, hP, ⟨vp, rest, rfl, hp, hA⟩, q⟩ := h
    cases hA
    have hP : POk P := hP
    obtain ⟨a, xs, b, rfl, hq, hx, h0, hz⟩ := hp
    obtain ⟨w1, w2, w3, w4, rfl, h1, h2, h3, h4⟩ := four_inv hx
    cases h0
    refine ⟨_, rfl, a, _, 0, .ref b, rfl, rfl, hq, atI_of (by decide) rfl, ?_⟩
    refine ⟨_, rfl, a, _, 1, w2, rfl, rfl, hq, atI_of (by decide) rfl, ?_⟩
    refine ⟨_, rfl, a, _, 2, w3, rfl, rfl, hq, atI_of (by decide) rfl, ?_⟩
    refine ⟨_, rfl, a, _, 3, w4, rfl, rfl, hq, atI_of (by decide) rfl, ?_⟩
    refine ⟨rfl, rfl, fun x dx hx0 hdx hne => ?_⟩
    have e1 : Ex H (upd H dx (.own x)) := Ex.new hdx
    have hx1 : (upd H dx (.own x)) x = none := by rw [upd_ne hne.symm]; exact hx0
    have e2 : Ex H (upd (upd H dx (.own x)) x (.ins T.C dx [])) := e1.trans (Ex.new hx1)
    refine ⟨P, x, dx, b, [w2, w3, w4], hP, rfl, upd_same, hz.ex e2, hx.ex e2, fun H' hk hl => ⟨rfl, q _ H' (fun c o ho => ?_) hl⟩⟩
    have hc : c ≠ x := fun z => by rw [z, hx0] at ho; cases ho
    exact hk c o hc (e2 c o ho)
end

section
variable {P : Program} {w : World} {K : PySem.W.Frag} {mg : Str → Option Value} {base : Heap}
theorem ok_keeps (T : Tx K mg) : FnOk P w K mg base CX0 7 T.keeps.a T.keeps.fd P_keeps (spx_keeps K T.C) := by
  refine (T.keeps.F).ok sc_keeps (fun vs H Q E h => ?_) (fun cdv A outer s H vs Q E hr h => ?_)
  · obtain ⟨a, _, hA, _⟩ := h
    exact aL_len hA
  · have hu := hu_of hr
    refine ⟨_, (pss_cons (ps_expr (pe_call (ok_check_question T) (hr.mono (by decide)) (by rfl) T.check_question.g T.check_question.F.kp T.check_question.b .nil pass0 (pa_cons (pv 0) (pa_cons (pv 1) (pa_cons (pv 2) (pa_cons (pv 3) (pa_cons (pv 4) pa_nil)))))))
      (pss_one (ps_ret (pe_call (ok_never_burn T) (hr.mono (by decide)) (by rfl) T.never_burn.g T.never_burn.F.kp T.never_burn.b .nil pass0 (pa_cons (pv 0) (pa_cons (pv 1) (pa_cons (pv 2) (pa_cons (pv 3) (pa_cons (pv 4) pa_nil))))))))), ?_⟩
    obtain ⟨⟨x, g⟩, ⟨hx, hn, hg⟩, ⟨vl, rest, rfl, hl, hA⟩, q⟩ := h
    obtain ⟨v1, v2, v3, v4, rfl, h1, h2, h3, h4⟩ := four_inv hA
    have hx : FOk x := hx
    have hg : ∀ z ∈ g, z ∈ x.P.ps := hg
    refine s_dropD (evd_call (a := (x, g)) ⟨hx, hg⟩ (eg_L rfl hl (ed_cons (evd_var rfl h1) (ed_cons (evd_var rfl h2) (ed_cons (evd_var rfl h3) (ed1 (evd_var rfl h4)))))) rfl) fun H1 e1 => ?_
    dsimp only
    refine s_retR (er_call (a := (x, g)) ⟨hx, hn, hg⟩ (eg_L rfl (hl.ex e1) (ed_cons (evd_var rfl (h1.ex e1)) (ed_cons (evd_var rfl (h2.ex e1)) (ed_cons (evd_var rfl (h3.ex e1)) (ed1 (evd_var rfl (h4.ex e1)))))))) fun v Ha H2 e3 e4 hr => ?_
    exact q _ H2 ((e1.trans e3).trans e4) hr
end

/-! the law's own comparisons -/
theorem closed_slow {S b : List (Str × Int)} {E E2 : List (Edge Str)} {d : Str → Option Int} (C : Closed S b E d) (hE : Faster E E2) : Closed S b E2 d := by
  refine ⟨C.st, fun e2 he2 m t h1 h2 h3 => ?_⟩
  obtain ⟨e, he, es, ed, ec⟩ := hE e2 he2
  obtain ⟨t0, l0, c0⟩ := ec m m t (Int.le_refl _) h2
  obtain ⟨s, ls, hs⟩ := C.ed e he m t0 (by rw [es]; exact h1) c0 (by rw [ed]; exact ahead_le h3 l0)
  exact ⟨s, by omega, by rw [← ed]; exact hs⟩
theorem btw_nums {P P2 : Parts} (hB : BOk P P2) : NumsOk P (leastN P2.ls) := by
  refine ⟨by unfold leastN; rw [List.length_map, hB.len], fun i row l h1 h2 => ?_⟩
  unfold leastN at h1
  obtain ⟨m, hm, rfl⟩ := get_map h1
  have hb := hB.ls i l m h2 hm
  refine ⟨by unfold leastR; rw [List.length_map, hb.len], fun j o p h3 h4 => ?_⟩
  unfold leastR at h3
  obtain ⟨q, hq, rfl⟩ := get_map h3
  rcases hb.ts j p q h4 hq with ⟨rfl, rfl⟩ | ⟨r, n, rfl, rfl, l1, l2⟩
  · exact .inl ⟨rfl, rfl⟩
  · exact .inr ⟨n, r, rfl, rfl, l1, l2⟩
theorem btw_edges {P P2 : Parts} (hB : BOk P P2) (W : List (Int × Str)) : edges P2.ws W P2.ls (leastN P2.ls) = edges P.ws W P.ls (leastN P2.ls) := by
  unfold edges
  apply List.ext_getElem?
  intro i
  rw [List.getElem?_map, List.getElem?_map]
  cases h : (P2.ls.zip (leastN P2.ls))[i]? with
  | none =>
    have h' : (P.ls.zip (leastN P2.ls))[i]? = none := by
      rw [List.getElem?_eq_none_iff, List.length_zip] at h ⊢
      rw [← hB.len]
      exact h
    rw [h']
    rfl
  | some z =>
    obtain ⟨z1, z2⟩ := zip_get h
    have hlt : i < P.ls.length := by
      have := (List.getElem?_eq_some_iff.mp z1).1
      have := hB.len
      omega
    obtain ⟨l, hl, _⟩ := get_lt hlt
    rw [get_zip hl z2]
    have hb := hB.ls i l z.1 hl z1
    show some (edgeOf P2.ws W z.1 z.2) = some (edgeOf P.ws W l z.2)
    unfold edgeOf
    rw [hb.one, hb.oth, hB.ws]
theorem btw_faster {P P2 : Parts} (hP : POk P) (hB : BOk P P2) (W : List (Int × Str)) : Faster (edges P.ws W P.ls (leastN P.ls)) (edges P.ws W P.ls (leastN P2.ls)) := by
  intro e2 he2
  obtain ⟨i, hi⟩ := List.mem_iff_getElem?.mp he2
  unfold edges at hi
  obtain ⟨z, hz, rfl⟩ := get_map hi
  obtain ⟨z1, z2⟩ := zip_get hz
  have z2 : (leastN P2.ls)[i]? = some z.2 := z2
  unfold leastN at z2
  obtain ⟨m, hm, hme⟩ := get_map z2
  have hb := hB.ls i z.1 m z1 hm
  refine ⟨edgeOf P.ws W z.1 (leastR z.1), ?_, rfl, rfl, fun m0 m1 t' hle h => ?_⟩
  · rw [edges_least]
    exact List.mem_map.mpr ⟨z.1, List.mem_of_getElem? z1, rfl⟩
  · refine cgt_faster (row' := z.2) (fun j n' hj => ?_) hle h
    rw [hme] at hj
    unfold leastR at hj ⊢
    rw [List.getElem?_map] at hj ⊢
    cases hq : m.ts[j]? with
    | none => rw [hq] at hj; cases hj
    | some q =>
      rw [hq] at hj
      have hj : q.map (·.1) = some n' := hj
      have hlt : j < z.1.ts.length := by
        have := (List.getElem?_eq_some_iff.mp hq).1
        have := hb.len
        omega
      obtain ⟨p, hp, _⟩ := get_lt hlt
      rcases hb.ts j p q hp hq with ⟨rfl, rfl⟩ | ⟨r, n, rfl, rfl, l1, l2⟩
      · cases hj
      · cases hj
        exact ⟨r.1, l1, by rw [hp]; rfl⟩
theorem FOk.lf {x : FA} (h : FOk x) : LFOk x := ⟨h.w, h.p.l2, h.p.p2, by have := h.p.w4; omega, fun l hl => (h.p.ln l hl).len, h.s.len, h.b.len⟩
theorem LFOk.btw {x : FA} {P2 : Parts} (h : FOk x) (hB : BOk x.P P2) : LFOk ⟨P2, x.W, x.S, x.B⟩ := by
  have hl := h.lf
  refine ⟨by show WOk P2.ws x.W; rw [hB.ws]; exact h.w, by show P2.ls.length ≤ 10; rw [hB.len]; exact hl.l2, by show P2.ps.length ≤ 7; rw [hB.ps]; exact hl.p2, by show P2.ws.length ≤ 3; rw [hB.ws]; exact hl.w4, fun l hl2 => ?_, h.s.len, h.b.len⟩
  obtain ⟨i, hi⟩ := List.mem_iff_getElem?.mp hl2
  have hi : P2.ls[i]? = some l := hi
  have hlt : i < x.P.ls.length := by
    have := (List.getElem?_eq_some_iff.mp hi).1
    have := hB.len
    show i < x.P.ls.length
    omega
  obtain ⟨l0, h0, hm0⟩ := get_lt hlt
  have hb := hB.ls i l0 l h0 hi
  show l.ts.length = P2.ws.length
  rw [hb.len, hB.ws]
  exact hl.ln l0 hm0
theorem cert_len {x : FA} {nums : List (List (Option Int))} {f : List (Str × Int)} (hx : FOk x) (h : CertF x nums f) : f.length ≤ x.P.ps.length + 1 := by
  have := h.su.len hx.s.pl (edges_dst fun l hl => (hx.p.ln l hl).oth)
  omega
/-- the law's fire is the search's -/
theorem law_same {x : FA} {f : List (Str × Int)} (hx : FOk x) (h : CertF x (leastN x.P.ls) f) (p : Str) : dget (lawB x) p = dget f p := bf_eq (edges_mono _ _ _ _) h (cert_len hx h) p
theorem law_same2 {x : FA} {P2 : Parts} {f : List (Str × Int)} (hx : FOk x) (hB : BOk x.P P2) (h : CertF x (leastN P2.ls) f) (p : Str) : dget (lawB ⟨P2, x.W, x.S, x.B⟩) p = dget f p := by
  unfold lawB fE
  show dget (bf x.S (lm x.B) (edges P2.ws x.W P2.ls (leastN P2.ls)) (P2.ps.length + 1)) p = _
  rw [btw_edges hB, hB.ps]
  exact bf_eq (edges_mono _ _ _ _) h (cert_len hx h) p
theorem law_slow {x : FA} {P2 : Parts} {f : List (Str × Int)} (hx : FOk x) (hB : BOk x.P P2) (h : CertF x (leastN x.P.ls) f) {p : Str} (hp : dget f p = none) : dget (lawB ⟨P2, x.W, x.S, x.B⟩) p = none := by
  cases e : dget (lawB ⟨P2, x.W, x.S, x.B⟩) p with
  | none => rfl
  | some m =>
    unfold lawB fE at e
    have e : dget (bf x.S (lm x.B) (edges P2.ws x.W P2.ls (leastN P2.ls)) (P2.ps.length + 1)) p = some m := e
    rw [btw_edges hB] at e
    obtain ⟨m0, _, h0⟩ := bf_below (closed_slow h.cl (btw_faster hx.p hB x.W)) (edges_mono _ _ _ _) _ p m e
    rw [hp] at h0
    cases h0
theorem law_more {x : FA} {B2 : List (Str × Int)} {f f3 : List (Str × Int)} (h : CertF x (leastN x.P.ls) f) (h3 : CertF ⟨x.P, x.W, x.S, x.B ++ B2⟩ (leastN x.P.ls) f3) {p : Str} (hp : dget f p = none) : dget f3 p = none := by
  cases e : dget f3 p with
  | none => rfl
  | some m =>
    obtain ⟨m0, _, h0⟩ := compare h.cl (fun _ z => z) (fun p m z => ahead_more z) (edges_mono _ _ _ _).faster h3.su p m e
    rw [hp] at h0
    cases h0
theorem sh_told {ps : List Str} (h : ∀ z ∈ ps, PyData.strOk z = true) (g : Str → Option Int) : Sh 3 (.list (dTold ps g)) := sh_lst (shA_map fun z hz => sh_tup (shA_cons (sh_str (h z hz)) (shA_cons (sh_dO _) (shA_nil _))))
section
variable {P : Program} {w : World} {K : PySem.W.Frag} {mg : Str → Option Value} {base : Heap}
theorem ok_law (T : Tx K mg) : FnOk P w K mg base CX0 8 T.law.a T.law.fd P_law (spx_law K) := by
  refine (T.law.F).ok sc_law (fun vs H Q E h => ?_) (fun cdv A outer s H vs Q E hr h => ?_)
  · obtain ⟨a, _, hA, _⟩ := h
    exact hA.len
  · have hu := hu_of hr
    refine ⟨_, (pss_cons (ps_set (i := 1) sc_law.nd rfl (by first | exact Or.inl rfl | exact Or.inr rfl) (pe_call (ok_law_numbers T) (hr.mono (by decide)) (by rfl) T.law_numbers.g T.law_numbers.F.kp T.law_numbers.b .nil pass0 (pa_cons (pv 0) (pa_cons pe_int pa_nil))))
      (pss_cons (ps_set (i := 2) sc_law.nd rfl (by first | exact Or.inl rfl | exact Or.inr rfl) (pe_call (ok_law_parts T) (hr.mono (by decide)) (by rfl) T.law_parts.g T.law_parts.F.kp T.law_parts.b .nil pass0 (pa_cons (pv 1) (pa_cons pe_int pa_nil))))
      (pss_cons (ps_set (i := 3) sc_law.nd rfl (by first | exact Or.inl rfl | exact Or.inr rfl) (pe_call (ok_law_weather T) (hr.mono (by decide)) (by rfl) T.law_weather.g T.law_weather.F.kp T.law_weather.b .nil pass0 (pa_cons (pv 1) (pa_cons pe_int (pa_cons (pv 2) pa_nil)))))
      (pss_cons (ps_set (i := 4) sc_law.nd rfl (by first | exact Or.inl rfl | exact Or.inr rfl) (pe_call (ok_law_rows T) (hr.mono (by decide)) (by rfl) T.law_rows.g T.law_rows.F.kp T.law_rows.b .nil pass0 (pa_cons (pv 1) (pa_cons pe_int (pa_cons (pe_op op_add pe_int (pe_op op_mod (pe_callTy call_int1' (by rfl) T.u_int (by decide +kernel) (pa_cons (pe_ix (ix_listK (K := K) rfl) (pv 1) pe_int (fun _ _ => rfl)) pa_nil)) pe_int)) (pa_cons (pv 2) (pa_cons pe_int pa_nil)))))))
      (pss_cons (ps_set (i := 5) sc_law.nd rfl (by first | exact Or.inl rfl | exact Or.inr rfl) (pe_call (ok_law_rows T) (hr.mono (by decide)) (by rfl) T.law_rows.g T.law_rows.F.kp T.law_rows.b .nil pass0 (pa_cons (pv 1) (pa_cons pe_int (pa_cons (pe_op op_mod (pe_callTy call_int1' (by rfl) T.u_int (by decide +kernel) (pa_cons (pe_ix (ix_listK (K := K) rfl) (pv 1) pe_int (fun _ _ => rfl)) pa_nil)) pe_int) (pa_cons (pv 2) (pa_cons pe_int pa_nil)))))))
      (pss_cons (ps_set (i := 6) sc_law.nd rfl (by first | exact Or.inl rfl | exact Or.inr rfl) (pe_call (ok_law_some T) (hr.mono (by decide)) (by rfl) T.law_some.g T.law_some.F.kp T.law_some.b .nil pass0 (pa_cons (pv 1) (pa_cons pe_int (pa_cons (pv 2) (pa_cons (pe_ix (ix_listK (K := K) rfl) (pe_lst (pa_cons pe_int (pa_cons pe_int (pa_cons pe_int pa_nil)))) (pe_op op_mod (pe_callTy call_int1' (by rfl) T.u_int (by decide +kernel) (pa_cons (pe_ix (ix_listK (K := K) rfl) (pv 1) pe_int (fun _ _ => rfl)) pa_nil)) pe_int) (fun _ _ => rfl)) pa_nil))))))
      (pss_cons (ps_set (i := 7) sc_law.nd rfl (by first | exact Or.inl rfl | exact Or.inr rfl) (pe_call (ok_law_made T) (hr.mono (by decide)) (by rfl) T.law_made.g T.law_made.F.kp T.law_made.b .nil pass0 (pa_cons (pv 2) pa_nil)))
      (pss_cons (ps_set (i := 8) sc_law.nd rfl (by first | exact Or.inl rfl | exact Or.inr rfl) (pe_call (ok_keeps T) (hr.mono (by decide)) (by rfl) T.keeps.g T.keeps.F.kp T.keeps.b .nil pass0 (pa_cons (pv 7) (pa_cons (pe_callTy (call_listSK (K := K) rfl) (by rfl) T.u_list (by decide +kernel) (pa_cons (pv 3) pa_nil)) (pa_cons (pe_callTy (call_listSK (K := K) rfl) (by rfl) T.u_list (by decide +kernel) (pa_cons (pv 4) pa_nil)) (pa_cons (pe_callTy (call_listSK (K := K) rfl) (by rfl) T.u_list (by decide +kernel) (pa_cons (pv 5) pa_nil)) (pa_cons (pe_callTy (call_listSK (K := K) rfl) (by rfl) T.u_list (by decide +kernel) (pa_cons (pv 6) pa_nil)) pa_nil)))))))
      (pss_cons (ps_if (PW.pt (pw_or (pt_not (pt_val (pe_callB call_isi (by rfl) T.u_isinstance (by decide +kernel) (pa_cons (pv 8) (pa_cons (pe_bltn (v := .ty "bool") (by rfl) T.u_bool (by decide +kernel) rfl) pa_nil))))) (pw_or1 (pt_cmpR (op_ne) (pv 8) (pe_call (ok_law_kept T) (hr.mono (by decide)) (by rfl) T.law_kept.g T.law_kept.F.kp T.law_kept.b .nil pass0 (pa_cons (pv 2) (pa_cons (pv 3) (pa_cons (pv 4) (pa_cons (pv 5) (pa_cons (pv 6) pa_nil)))))) (nomark _))))) (pss_one (ps_ret pe_bl))
      pss_nil)
      (pss_cons (ps_if (pt_not (pt_val (pv 8))) (pss_one (ps_ret pe_bl))
      pss_nil)
      (pss_cons (ps_set (i := 9) sc_law.nd rfl (by first | exact Or.inl rfl | exact Or.inr rfl) (pe_call (ok_law_between T) (hr.mono (by decide)) (by rfl) T.law_between.g T.law_between.F.kp T.law_between.b .nil pass0 (pa_cons (pv 1) (pa_cons pe_int (pa_cons (pv 2) pa_nil)))))
      (pss_cons (ps_set (i := 10) sc_law.nd rfl (by first | exact Or.inl rfl | exact Or.inr rfl) (pe_call (ok_law_fire T) (hr.mono (by decide)) (by rfl) T.law_fire.g T.law_fire.F.kp T.law_fire.b .nil pass0 (pa_cons (pv 9) (pa_cons (pv 3) (pa_cons (pv 4) (pa_cons (pv 5) (pa_cons pe_int pa_nil)))))))
      (pss_cons (ps_if (pt_val (pe_callB (cr_anyK (K := K) rfl rfl) (by rfl) T.u_any (by decide +kernel) (pa_cons (pe_lc (own := [("_law_goal", 11)]) rfl sc_law.nd (pi_listK (K := K) rfl (pv 6)) (blkOk_by (own := [("_law_goal", 11)]) (N := N_law) (sc := (defScope s_law)) (by decide +kernel)) (fun _ _ _ _ _ => (pg_name (i := 11) sc_law.nd rfl (by first | exact Or.inl rfl | exact Or.inr rfl))) (fun _ _ _ _ _ => pts_nil) (fun _ _ _ _ _ => (pe_cmp (pc_din hu (pv 11) (pv 10))))) pa_nil))) (pss_one (ps_ret pe_bl))
      pss_nil)
      (pss_cons (ps_setLc (i := 12) (own := [("_law_link", 13)]) rfl sc_law.nd rfl rfl (sw_true rfl rfl rfl (by decide +kernel)) (pi_tupK (K := K) rfl (pe_ix (ix_listK (K := K) rfl) (pv 9) pe_int (fun _ _ => rfl))) (blkOk_by (own := [("_law_link", 13)]) (N := N_law) (sc := (defScope s_law)) (by decide +kernel)) (fun _ _ _ _ _ => (pg_name (i := 13) sc_law.nd rfl (by first | exact Or.inl rfl | exact Or.inr rfl))) (fun _ _ _ _ _ => pts_nil) (fun _ _ _ _ _ => (pe_callTy (call_tupOfK (K := K) rfl) (by rfl) T.u_tuple (by decide +kernel) (pa_cons (pe_lc (own := [("_law_pair", 14)]) rfl sc_law.nd (pi_tupK (K := K) rfl (pe_ix (ix_tupK (K := K) rfl) (pv 13) pe_int (fun _ _ => rfl))) (blkOk_by (by kernel_rfl)) (fun _ _ _ _ _ => (pg_name (i := 14) sc_law.nd rfl (by first | exact Or.inl rfl | exact Or.inr rfl))) (fun _ _ _ _ _ => pts_nil) (fun _ _ _ _ _ => (pe_ifExp (pt_cmpR (op_isN') (pv 14) pe_non (nomark _)) pe_non (pe_ix (ix_tupK (K := K) rfl) (pv 14) pe_int (fun _ _ => rfl))))) pa_nil))))
      (pss_cons (ps_if (pt_cmpR (op_neDK (K := K) (hu64 hr) rfl) (pe_call (ok_burning T) (hr.mono (by decide)) (by rfl) T.burning.g T.burning.F.kp T.burning.b .nil pass0 (pa_cons (pv 7) (pa_cons (pv 3) (pa_cons (pv 4) (pa_cons (pv 5) (pa_cons (pe_callTy (call_tupOfK (K := K) rfl) (by rfl) T.u_tuple (by decide +kernel) (pa_cons (pv 12) pa_nil)) pa_nil)))))) (pe_call (ok_law_told T) (hr.mono (by decide)) (by rfl) T.law_told.g T.law_told.F.kp T.law_told.b .nil pass0 (pa_cons (pv 2) (pa_cons (pv 10) pa_nil))) (nomark _)) (pss_one (ps_ret pe_bl))
      pss_nil)
      (pss_one (ps_ret (pe_cmpR (op_isBl) (pe_call (ok_keeps T) (hr.mono (by decide)) (by rfl) T.keeps.g T.keeps.F.kp T.keeps.b .nil pass0 (pa_cons (pv 7) (pa_cons (pv 3) (pa_cons (pv 4) (pa_cons (pe_op op_cat (pv 5) (pe_call (ok_law_rows T) (hr.mono (by decide)) (by rfl) T.law_rows.g T.law_rows.F.kp T.law_rows.b .nil pass0 (pa_cons (pv 1) (pa_cons pe_int (pa_cons pe_int (pa_cons (pv 2) (pa_cons pe_int pa_nil))))))) (pa_cons (pv 6) pa_nil)))))) pe_bl (nomark _))))))))))))))))))), ?_⟩
    obtain ⟨sc, _, hA, q⟩ := h
    obtain ⟨v0, rfl, h0⟩ := one_inv hA
    have h0 : Dp K H v0 (.list (dInts sc)) := h0
    refine s_asgR (er_call (a := (sc, 190)) rfl (eg_D (ed_cons (evd_var rfl h0) (ed1 (Ev.dI ev_c))))) fun vn Ha H1 ea eb hv => ?_
    obtain ⟨ns, hN, hv⟩ := hv
    have hn := hv.toD
    have e1 := ea.trans eb
    clear hv
    try dsimp only
    refine s_asgR (er_call (a := ns) hN (eg_D (ed_cons (evd_var rfl hn) (ed1 (Ev.dI ev_c))))) fun vp Ha H2 ea eb hp => ?_
    obtain ⟨P, hP, hp⟩ := hp
    have f := ea.trans eb
    have hn := hn.ex f
    have e2 := e1.trans f
    try dsimp only
    refine s_asgR (er_call (a := (ns, P)) ⟨hN, hP⟩ (eg_D (ed_cons (evd_var rfl hn) (ed_cons (Ev.dI ev_c) (ed1 (evd_var rfl hp.dp)))))) fun vw Ha H3 ea eb hw => ?_
    obtain ⟨W, hW, hw⟩ := hw
    have hw : Dp K H3 vw (.list (W.map dW)) := hw
    have f := ea.trans eb
    have hn := hn.ex f
    have hp := hp.ex f
    have e3 := e2.trans f
    obtain ⟨na, _, _, hna⟩ := num_at hN (i := 118) (by decide) (by decide)
    obtain ⟨a0, a1⟩ := mod_in (a := na) (b := 3) (by decide)
    try dsimp only
    refine s_asgR (er_call (a := (ns, 120, 1 + na % 3, P, 10)) ⟨hN, (by show (0 : Int) ≤ 120; decide), (by show 0 ≤ 1 + na % 3; omega), (by show 1 + na % 3 ≤ 20; omega), (by show 120 + 2 * (1 + na % 3) ≤ 190; omega), hP, (by show (0 : Int) < 10; decide)⟩ (eg_D (ed_cons (evd_var rfl hn) (ed_cons (Ev.dI ev_c) (ed_cons (Ev.dI (ev_add ev_c (ev_mod (ev_int1 (ev_num rfl hn ev_c hna)) ev_c (by decide)))) (ed_cons (evd_var rfl hp.dp) (ed1 (Ev.dI ev_c)))))))) fun vs Ha H4 ea eb hs => ?_
    obtain ⟨S, hS, hSl, hs⟩ := hs
    have hS : ROk P.ps S := hS
    have hs : Dp K H4 vs (.list (S.map dR)) := hs.toD
    have f := ea.trans eb
    have hn := hn.ex f
    have hp := hp.ex f
    have hw := hw.ex f
    have e4 := e3.trans f
    obtain ⟨nb, _, _, hnb⟩ := num_at hN (i := 119) (by decide) (by decide)
    obtain ⟨b0, b1⟩ := mod_in (a := nb) (b := 5) (by decide)
    try dsimp only
    refine s_asgR (er_call (a := (ns, 127, nb % 5, P, 25)) ⟨hN, (by show (0 : Int) ≤ 127; decide), b0, (by show nb % 5 ≤ 20; omega), (by show 127 + 2 * (nb % 5) ≤ 190; omega), hP, (by show (0 : Int) < 25; decide)⟩ (eg_D (ed_cons (evd_var rfl hn) (ed_cons (Ev.dI ev_c) (ed_cons (Ev.dI (ev_mod (ev_int1 (ev_num rfl hn ev_c hnb)) ev_c (by decide))) (ed_cons (evd_var rfl hp.dp) (ed1 (Ev.dI ev_c)))))))) fun vb Ha H5 ea eb hb => ?_
    obtain ⟨B, hB, hBl, pbk, xbk, rfl, _, hbk1, hbk2⟩ := hb
    have hB : ROk P.ps B := hB
    have hBl : B.length = (nb % 5).toNat := hBl
    have f := ea.trans eb
    have hn := hn.ex f
    have hp := hp.ex f
    have hw := hw.ex f
    have hs := hs.ex f
    have hb : Dp K H5 (.ref pbk) (.list (B.map dR)) := .lst (SqL.of hbk1) hbk2
    have e5 := e4.trans f
    obtain ⟨nc, _, _, hnc⟩ := num_at hN (i := 188) (by decide) (by decide)
    obtain ⟨c0, c1⟩ := mod_in (a := nc) (b := 3) (by decide)
    obtain ⟨st, hst, hst0⟩ : ∃ st : Int, L2.atI [PyData.int 3, .int 3, .int 1] (nc % 3) = some (.int st) ∧ 0 < st := by
      have : nc % 3 = 0 ∨ nc % 3 = 1 ∨ nc % 3 = 2 := by omega
      rcases this with z | z | z
      · exact ⟨3, by rw [z]; exact atI_of (by decide) rfl, by decide⟩
      · exact ⟨3, by rw [z]; exact atI_of (by decide) rfl, by decide⟩
      · exact ⟨1, by rw [z]; exact atI_of (by decide) rfl, by decide⟩
    try dsimp only
    refine s_asgR (er_call (a := (ns, 136, P, st)) ⟨hN, (by show (0 : Int) ≤ 136; decide), (by show (136 : Int) ≤ 150; decide), hP, hst0⟩ (eg_D (ed_cons (evd_var rfl hn) (ed_cons (Ev.dI ev_c) (ed_cons (evd_var rfl hp.dp) (ed1 (evd_ixL (EvF.toD (evf_lst (ds := [.int 3, .int 3, .int 1]) (ed_cons (Ev.dI ev_c) (ed_cons (Ev.dI ev_c) (ed1 (Ev.dI ev_c)))) (by simp))) (ev_mod (ev_int1 (ev_num rfl hn ev_c hnc)) ev_c (by decide)) hst))))))) fun vg Ha H6 ea eb hg => ?_
    obtain ⟨goals, hgp, hgl, hg⟩ := hg
    have hgp : ∀ g ∈ goals, g ∈ P.ps := hgp
    have hg : Dp K H6 vg (.list (goals.map .str)) := hg.toD
    have f := ea.trans eb
    have hn := hn.ex f
    have hp := hp.ex f
    have hw := hw.ex f
    have hs := hs.ex f
    have hb := hb.ex f
    have hbk1 := f _ _ hbk1
    have hbk2 := hbk2.ex f
    have e6 := e5.trans f
    try dsimp only
    refine s_asgR (er_call (a := P) hP (eg_P rfl hp ed_nil)) fun vl Ha H7 ea eb hl => ?_
    have hl : LandAt K T.C H7 vl P := hl
    have f := ea.trans eb
    have hn := hn.ex f
    have hp := hp.ex f
    have hw := hw.ex f
    have hs := hs.ex f
    have hb := hb.ex f
    have hbk1 := f _ _ hbk1
    have hbk2 := hbk2.ex f
    have hg := hg.ex f
    have e7 := e6.trans f
    let x : FA := ⟨P, W, S, B⟩
    have hx : FOk x := ⟨hP, hW, hS, hB⟩
    try dsimp only
    refine s_asgR (er_call (a := (x, goals)) ⟨hx, (by show goals.length ≤ 100; omega), hgp⟩ (eg_L rfl hl (ed_cons (EvF.toD (evf_listOf (evd_var rfl hw))) (ed_cons (EvF.toD (evf_listOf (evd_var rfl hs))) (ed_cons (EvF.toD (evf_listOf (evd_var rfl hb))) (ed1 (EvF.toD (evf_listOf (evd_var rfl hg))))))))) fun va Ha H8 ea eb ha => ?_
    obtain ⟨fr, hfr, ha⟩ := ha
    have hfr : CertF x (leastN P.ls) fr := hfr
    have ha : Dp K H8 va (.bool (goals.all fun g => (dget fr g).isNone)) := ha
    cases ha.bl_inv
    have f := ea.trans eb
    have hn := hn.ex f
    have hp := hp.ex f
    have hw := hw.ex f
    have hs := hs.ex f
    have hb := hb.ex f
    have hbk1 := f _ _ hbk1
    have hbk2 := hbk2.ex f
    have hg := hg.ex f
    have hl := hl.ex f
    have e8 := e7.trans f
    have hkept : (!(goals.any fun g => (dget (lawB x) g).isSome)) = goals.all fun g => (dget fr g).isNone := by
      rw [List.not_any_eq_all_not]
      congr 1
      funext g
      rw [law_same hx hfr g]
      cases dget fr g <;> rfl
    generalize hact : (goals.all fun g => (dget fr g).isNone) = act at hkept
    try dsimp only
    refine s_if (b := false) (et_or (a := false) (et_not (a := true) (et_B (fun Hn en Qn kn => ⟨_, rfl, .bl act, .ty "bool", .type "bool", .type "bool", true, rfl, .ty _, .base (.bl act), rfl, kn Hn (Ex.refl _)⟩))) fun _ => et_test (Ev.to (ev_nev (ev_var (v := .bl act) rfl) (EvD.bl (evd_call (a := (x, goals)) ⟨hx.lf, (by show goals.length ≤ 100; omega)⟩ (eg_P rfl hp (ed_cons (evd_var rfl hw) (ed_cons (evd_var rfl hs) (ed_cons (evd_var rfl hb) (ed1 (evd_var rfl hg)))))) rfl)) rfl) (by rw [hkept]; simp))) (fun hb => by cases hb) (fun _ H9 f => ?_)
    have hn := hn.ex f
    have hp := hp.ex f
    have hw := hw.ex f
    have hs := hs.ex f
    have hb := hb.ex f
    have hbk1 := f _ _ hbk1
    have hbk2 := hbk2.ex f
    have hg := hg.ex f
    have hl := hl.ex f
    have e9 := e8.trans f
    try unfold tNext
    try dsimp only
    refine s_if (et_not (et_B (ev_var (v := .bl act) rfl))) (fun hb H10 f => ?_) (fun hna H10 f => ?_)
    · exact s_retD (Ev.dB ev_c) fun v H11 e11 hv => q v H11 ((e9.trans f).trans e11) hv
    have hall : ∀ g ∈ goals, dget fr g = none := by
      have : act = true := by simpa using hna
      rw [this, List.all_eq_true] at hact
      exact fun g hg => by simpa using hact g hg
    have hn := hn.ex f
    have hp := hp.ex f
    have hw := hw.ex f
    have hs := hs.ex f
    have hb := hb.ex f
    have hbk1 := f _ _ hbk1
    have hbk2 := hbk2.ex f
    have hg := hg.ex f
    have hl := hl.ex f
    have e10 := e9.trans f
    try unfold tNext
    try dsimp only
    change tSeq _ _ _ [some v0, some vn, some vp, some vw, some vs, some (.ref pbk), some vg, some vl, some (.bl act), none, none, none, none, none, none] _
    refine s_asgR (er_call (a := (ns, P)) ⟨hN, hP⟩ (fun Ha ea Qa ka => ⟨vn, rfl, vp, rfl, ka _ _ (Ex.refl _) ⟨vn, .int 145, vp, rfl, .cons (hn.ex ea) (.cons (.int _) .nil), hp.ex ea⟩⟩)) fun vo Ha H11 ea eb ho => ?_
    obtain ⟨P2, hB2, ho⟩ := ho
    have hB2 : BOk P P2 := hB2
    have f := ea.trans eb
    have hn := hn.ex f
    have hp := hp.ex f
    have hw := hw.ex f
    have hs := hs.ex f
    have hb := hb.ex f
    have hbk1 := f _ _ hbk1
    have hbk2 := hbk2.ex f
    have hg := hg.ex f
    have hl := hl.ex f
    have e11 := e10.trans f
    let x2 : FA := ⟨P2, W, S, B⟩
    have hx2 : LFOk x2 := LFOk.btw (x := x) hx hB2
    try dsimp only
    refine s_asgR (er_call (a := x2) hx2 (eg_P rfl ho (ed_cons (evd_var rfl hw) (ed_cons (evd_var rfl hs) (ed_cons (evd_var rfl hb) (ed1 (Ev.dI ev_c))))))) fun vbn Ha H12 ea eb hbn => ?_
    obtain ⟨pbn, rfl, _, hbn⟩ := hbn
    have f := ea.trans eb
    have hn := hn.ex f
    have hp := hp.ex f
    have hw := hw.ex f
    have hs := hs.ex f
    have hb := hb.ex f
    have hbk1 := f _ _ hbk1
    have hbk2 := hbk2.ex f
    have hg := hg.ex f
    have hl := hl.ex f
    have ho := ho.ex f
    have e12 := e11.trans f
    have hany : (goals.any fun g => (dget (lawB x2) g).isSome) = false := by
      rw [List.any_eq_false]
      intro g hgm
      rw [law_slow (x := x) hx hB2 hfr (hall g hgm)]
      decide
    try dsimp only
    refine s_if (b := false) (et_B (Ev.to (ev_any (bs := goals.map fun g => (dget (lawB x2) g).isSome) (EvF.toD (EvF.to (evf_aL (l := goals) (enc := .str) (gv := fun g => .bool (dget (lawB x2) g).isSome) gm_name (evd_var rfl hg) (by omega) (fun x _ => imm_bool _) fun i g y Hn hi ey hy => ⟨Ex.refl _, rfl, Ev.dB (ev_din (EvD.str (evd_var rfl hy)) (ev_var rfl) (ey _ _ hbn))⟩) (by rw [List.map_map]; rfl)))) (by rw [List.any_map]; show V.bl (goals.any fun g => (dget (lawB x2) g).isSome) = _; rw [hany]))) (fun hb => by cases hb) (fun _ H13 f => ?_)
    have hn := hn.ex f
    have hp := hp.ex f
    have hw := hw.ex f
    have hs := hs.ex f
    have hb := hb.ex f
    have hbk1 := f _ _ hbk1
    have hbk2 := hbk2.ex f
    have hg := hg.ex f
    have hl := hl.ex f
    have ho := ho.ex f
    have hbn := f _ _ hbn
    have e13 := e12.trans f
    have hl2' := hx2.l2
    have hw4' := hx2.w4
    try unfold tNext
    try dsimp only
    change tSeq _ _ _ [some v0, some vn, some vp, some vw, some vs, some (.ref pbk), some vg, some vl, some (.bl act), some vo, some (.ref pbn), none, none, none, none] _
    refine s_asgF (K := K) (evf_aT (l := P2.ls) (enc := dL) (gv := fun l => dNs (leastR l)) gm_name (evd_p2 rfl ho.dp) (Nat.le_trans hl2' (by decide)) (fun l _ => imm_dNs _)
      fun i l y Hn hi ey hy => ⟨Ex.refl _, rfl, evd_tupL (EvF.toD (EvF.to (evf_aT (l := l.ts) (enc := dP) (gv := fun p => dO (p.map (·.1))) gm_name (evd_ixT (ds := [.str l.nm, .str l.one, .str l.oth, .tuple (l.ts.map dP)]) (d := .tuple (l.ts.map dP)) (evd_var rfl hy) ev_c (atI_of (by decide) rfl)) ?_ (fun p _ => imm_dO _)
        fun j p z Hm hj em hz => ⟨Ex.refl _, rfl, ?_⟩) ?_))⟩) fun pf xf H14 hpf f hxf haf => ?_
    · have h1 := hx2.ln l (List.mem_of_getElem? hi)
      have h2 : x2.P.ws.length ≤ 3 := hw4'
      omega
    · cases p with
      | none => exact evd_if (et_test (evd_isN (evd_var rfl hz))) (fun _ => Ev.dN ev_c) (fun hb => by cases hb)
      | some r => exact evd_if (et_test (evd_isN (evd_var rfl hz))) (fun hb => by cases hb) (fun _ => evd_ixT (ds := [.int r.1, .int r.2]) (evd_var rfl hz) ev_c (atI_of (by decide) rfl))
    · unfold leastR
      rw [List.map_map]
      rfl
    have hfh : Dp K H14 (.ref pf) (.list ((leastN P2.ls).map dNs)) := by
      unfold leastN
      rw [List.map_map]
      exact .lst (SqL.of hxf) haf
    have hn := hn.ex f
    have hp := hp.ex f
    have hw := hw.ex f
    have hs := hs.ex f
    have hb := hb.ex f
    have hbk1 := f _ _ hbk1
    have hbk2 := hbk2.ex f
    have hg := hg.ex f
    have hl := hl.ex f
    have hbn := f _ _ hbn
    have e14 := e13.trans f
    have sok : ∀ z ∈ P.ps, PyData.strOk z = true := fun z hz => strOk_name (hP.pn z hz)
    have hsame : ∀ f2, CertF x (leastN P2.ls) f2 → dTold P.ps (dget f2) = dTold P.ps (dget (lawB x2)) := fun f2 hf2 => by
      unfold dTold
      apply List.map_congr_left
      intro p _
      rw [law_same2 (x := x) hx hB2 hf2 p]
    try dsimp only
    have htold : ∀ σ : L2.St, σ[2]? = some (some vp) → σ[10]? = some (some (.ref pbn)) → EvD K (tCall (spx_law_told K) [] E0 (tCons (tVar 2) (tCons (tVar 10) tNil))) σ H14 (.list (dTold P.ps (dget (lawB x2)))) := fun σ z1 z2 => by
      refine EvF.toD (evf_call (a := (P, lawB x2)) hP.p2 ?_ rfl)
      intro Ha ea Qa ka
      exact ⟨vp, z1, .ref pbn, z2, ka _ _ (Ex.refl _) ⟨vp, pbn, rfl, hp.dp.ex ea, ea _ _ hbn⟩⟩
    refine s_if (b := false) (et_test (Ev.to (ev_neD (d := .list (dTold P.ps (dget (lawB x2)))) (e := .list (dTold P.ps (dget (lawB x2)))) (fun Hn en Qn kn => er_call (a := (x, leastN P2.ls)) ⟨hx, btw_nums hB2⟩ (eg_L rfl hl (ed_cons (evd_var rfl hw) (ed_cons (evd_var rfl hs) (ed_cons (evd_var rfl hb) (ed1 (evd_tupL (evd_var rfl hfh))))))) Hn en _ fun v Ha Hm ea em hv => ?_) (htold _ rfl rfl) ((sh_told sok _).ok (by decide)) ((sh_told sok _).ok (by decide))) ?_)) (fun hb => by cases hb) (fun _ H15 f => ?_)
    · obtain ⟨f2, hf2, hv⟩ := hv
      have hf2 : CertF x (leastN P2.ls) f2 := hf2
      have hv : Dp K Hm v (.list (dTold P.ps (dget f2))) := hv.toD
      rw [hsame f2 hf2] at hv
      exact kn v Hm (ea.trans em) hv
    · have hr : PyData.eqv (.list (dTold P.ps (dget (lawB x2)))) (.list (dTold P.ps (dget (lawB x2)))) = true := SeqAt.eqv_refl _ (sh_told sok _).1
      rw [hr]
      rfl
    have hn := hn.ex f
    have hp := hp.ex f
    have hw := hw.ex f
    have hs := hs.ex f
    have hbk1 := f _ _ hbk1
    have hbk2 := hbk2.ex f
    have hg := hg.ex f
    have hl := hl.ex f
    have e15 := e14.trans f
    have hbl : xbk.length ≤ 4 := by
      have h1 := hbk2.len
      rw [List.length_map] at h1
      omega
    dsimp only
    refine s_retD (K := K) (d := .bool true) (fun Ha ea Qa ka => ⟨vl, rfl, vw, rfl, vs, rfl, .ref pbk, rfl, ?_⟩) fun v H16 f hv => q v H16 (e15.trans f) hv
    refine er_call (a := (ns, 180, 1, P, 25)) ⟨hN, (by show (0 : Int) ≤ 180; decide), (by show (0 : Int) ≤ 1; decide), (by show (1 : Int) ≤ 20; decide), (by show (180 : Int) + 2 * 1 ≤ 190; decide), hP, (by show (0 : Int) < 25; decide)⟩ (eg_D (ed_cons (evd_var rfl (hn.ex ea)) (ed_cons (Ev.dI ev_c) (ed_cons (Ev.dI ev_c) (ed_cons (evd_var rfl (hp.dp.ex ea)) (ed1 (Ev.dI ev_c))))))) Ha (Ex.refl _) _ fun v2 Hb Hc eb ec hv2 => ?_
    obtain ⟨B2, hB3, hB2l, p2, y2, rfl, _, hp21, hp22⟩ := hv2
    have hB3 : ROk P.ps B2 := hB3
    have hB2l : B2.length = 1 := hB2l
    have ebc := eb.trans ec
    have eac := ea.trans ebc
    have hy2 : y2.length = 1 := by
      have h1 := hp22.len
      rw [List.length_map] at h1
      omega
    refine ⟨pbk, p2, xbk, y2, rfl, rfl, eac _ _ hbk1, hp21, sz_of (by omega), fun pc hpc => ⟨vg, rfl, ?_⟩⟩
    have en := Ex.new (o := .lst (xbk ++ y2)) hpc
    have eacn := eac.trans en
    let x3 : FA := ⟨P, W, S, B ++ B2⟩
    have hx3 : FOk x3 := ⟨hP, hW, hS, ⟨by show (B ++ B2).length ≤ 1000; rw [List.length_append, hBl, hB2l]; omega, fun r hr => (List.mem_append.mp hr).elim (hB.pl r) (hB3.pl r), fun r hr => (List.mem_append.mp hr).elim (hB.nn r) (hB3.nn r)⟩⟩
    refine ⟨(x3, goals), ⟨hx3, (by show goals.length ≤ 100; omega), hgp⟩, ⟨vl, _, rfl, hl.ex eacn, .cons (hw.ex eacn) (.cons (hs.ex eacn) (.cons (.lst (SqL.of upd_same) ?_) (.cons (hg.ex eacn) .nil)))⟩, fun v Hz ez hv => ?_⟩
    · show DpAll K _ (xbk ++ y2) ((B ++ B2).map dR)
      rw [List.map_append]
      exact (hbk2.ex eacn).app (hp22.ex en)
    · obtain ⟨f3, hf3, hv⟩ := hv
      have hf3 : CertF x3 (leastN P.ls) f3 := hf3
      have hv : Dp K Hz v (.bool (goals.all fun g => (dget f3 g).isNone)) := hv
      have hall3 : (goals.all fun g => (dget f3 g).isNone) = true := by
        rw [List.all_eq_true]
        intro g hgm
        rw [law_more (x := x) hfr hf3 (hall g hgm)]
        rfl
      rw [hall3] at hv
      exact ⟨true, true, hv.bl_inv, rfl, ka _ _ ((ebc.trans en).trans ez) (.bl true)⟩
end

end Ef

namespace Ef
open PySem PySem.Spec PyProof.Rows L2
theorem run (w : World) : HandSHeadRun.RunEq R (PySem.W.view R.prog [60]) hookZ ob 6000 loose w := by
  intro os
  kernel_rfl
end Ef

/-! The end: what the head tells, put together; the row. -/
namespace Ef
open PySem PySem.Spec PyProof.Rows L2 Evl
section
variable {K : PySem.W.Frag} {f : Addr} {fd : FuncData}
theorem kb_init (F : FunD K "__init__" "Land.__init__" (defArgs s_Land_init) (defBody s_Land_init) (defScope s_Land_init) [] [] f fd) : KBn K fd P_Land_init 1 ["winds", "places", "links", "paths"] (fun us ws => us ++ ws) (fun vs zs => vs ++ zs) := by
  obtain ⟨oc, od, dV, kV, doc, pm, an, cdv, ct, osl, rfl, lk, hcd, hD, hK⟩ := F.ex
  refine ⟨fun s us ws _ hu hw => ?_, fun r1 r2 => r1.append r2⟩
  rcases hD with ⟨_, rfl⟩ | ⟨e, _⟩
  · refine .of_eq ?_
    match us, ws, hu, hw with
    | [a], [b, c, d, e], _, _ => rfl
  · exact absurd rfl e

theorem b_check_winds (F : FunD K "check_winds" "check_winds" (defArgs s_check_winds) (defBody s_check_winds) (defScope s_check_winds) [] [] f fd) : Binds K fd P_check_winds [] := F.bindsN fun _ _ _ _ _ _ us hl => match us, hl with | [_, _], _ => rfl
theorem b_check_changes (F : FunD K "check_changes" "check_changes" (defArgs s_check_changes) (defBody s_check_changes) (defScope s_check_changes) [] [] f fd) : Binds K fd P_check_changes [] := F.bindsN fun _ _ _ _ _ _ us hl => match us, hl with | [_], _ => rfl
theorem b_blowing (F : FunD K "blowing" "blowing" (defArgs s_blowing) (defBody s_blowing) (defScope s_blowing) [] [] f fd) : Binds K fd P_blowing [] := F.bindsN fun _ _ _ _ _ _ us hl => match us, hl with | [_, _], _ => rfl
theorem b_chances (F : FunD K "chances" "chances" (defArgs s_chances) (defBody s_chances) (defScope s_chances) [] [] f fd) : Binds K fd P_chances [] := F.bindsN fun _ _ _ _ _ _ us hl => match us, hl with | [_, _], _ => rfl
theorem b_least_numbers (F : FunD K "least_numbers" "least_numbers" (defArgs s_least_numbers) (defBody s_least_numbers) (defScope s_least_numbers) [] [] f fd) : Binds K fd P_least_numbers [] := F.bindsN fun _ _ _ _ _ _ us hl => match us, hl with | [_], _ => rfl
theorem b_is_number (F : FunD K "is_number" "is_number" (defArgs s_is_number) (defBody s_is_number) (defScope s_is_number) [] [] f fd) : Binds K fd P_is_number [] := F.bindsN fun _ _ _ _ _ _ us hl => match us, hl with | [_, _], _ => rfl
theorem b_check_numbers (F : FunD K "check_numbers" "check_numbers" (defArgs s_check_numbers) (defBody s_check_numbers) (defScope s_check_numbers) [] [] f fd) : Binds K fd P_check_numbers [] := F.bindsN fun _ _ _ _ _ _ us hl => match us, hl with | [_, _], _ => rfl
theorem b_check_rows (F : FunD K "check_rows" "check_rows" (defArgs s_check_rows) (defBody s_check_rows) (defScope s_check_rows) [] [] f fd) : Binds K fd P_check_rows [] := F.bindsN fun _ _ _ _ _ _ us hl => match us, hl with | [_, _], _ => rfl
theorem b_least_minutes (F : FunD K "least_minutes" "least_minutes" (defArgs s_least_minutes) (defBody s_least_minutes) (defScope s_least_minutes) [] [] f fd) : Binds K fd P_least_minutes [] := F.bindsN fun _ _ _ _ _ _ us hl => match us, hl with | [_], _ => rfl
theorem b_caught (F : FunD K "caught" "caught" (defArgs s_caught) (defBody s_caught) (defScope s_caught) [] [] f fd) : Binds K fd P_caught [] := F.bindsN fun _ _ _ _ _ _ us hl => match us, hl with | [_, _, _, _], _ => rfl
theorem b_spread (F : FunD K "spread" "spread" (defArgs s_spread) (defBody s_spread) (defScope s_spread) [] [] f fd) : Binds K fd P_spread [] := F.bindsN fun _ _ _ _ _ _ us hl => match us, hl with | [_, _, _, _, _], _ => rfl
theorem b_check_fire (F : FunD K "check_fire" "check_fire" (defArgs s_check_fire) (defBody s_check_fire) (defScope s_check_fire) [] [] f fd) : Binds K fd P_check_fire [] := F.bindsN fun _ _ _ _ _ _ us hl => match us, hl with | [_, _, _, _], _ => rfl
theorem b_told (F : FunD K "told" "told" (defArgs s_told) (defBody s_told) (defScope s_told) [] [] f fd) : Binds K fd P_told [] := F.bindsN fun _ _ _ _ _ _ us hl => match us, hl with | [_, _], _ => rfl
theorem b_burning (F : FunD K "burning" "burning" (defArgs s_burning) (defBody s_burning) (defScope s_burning) [] [] f fd) : Binds K fd P_burning [] := F.bindsN fun _ _ _ _ _ _ us hl => match us, hl with | [_, _, _, _, _], _ => rfl
theorem b_fastest (F : FunD K "fastest" "fastest" (defArgs s_fastest) (defBody s_fastest) (defScope s_fastest) [] [] f fd) : Binds K fd P_fastest [] := F.bindsN fun _ _ _ _ _ _ us hl => match us, hl with | [_, _, _, _], _ => rfl
theorem b_never_burn (F : FunD K "never_burn" "never_burn" (defArgs s_never_burn) (defBody s_never_burn) (defScope s_never_burn) [] [] f fd) : Binds K fd P_never_burn [] := F.bindsN fun _ _ _ _ _ _ us hl => match us, hl with | [_, _, _, _, _], _ => rfl
theorem b_check_question (F : FunD K "check_question" "check_question" (defArgs s_check_question) (defBody s_check_question) (defScope s_check_question) [] [] f fd) : Binds K fd P_check_question [] := F.bindsN fun _ _ _ _ _ _ us hl => match us, hl with | [_, _, _, _, _], _ => rfl
theorem b_keeps (F : FunD K "keeps" "keeps" (defArgs s_keeps) (defBody s_keeps) (defScope s_keeps) [] [] f fd) : Binds K fd P_keeps [] := F.bindsN fun _ _ _ _ _ _ us hl => match us, hl with | [_, _, _, _, _], _ => rfl
theorem b_is_name (F : FunD K "is_name" "is_name" (defArgs s_is_name) (defBody s_is_name) (defScope s_is_name) [] [] f fd) : Binds K fd P_is_name [] := F.bindsN fun _ _ _ _ _ _ us hl => match us, hl with | [_], _ => rfl
theorem b_are_different (F : FunD K "are_different" "are_different" (defArgs s_are_different) (defBody s_are_different) (defScope s_are_different) [] [] f fd) : Binds K fd P_are_different [] := F.bindsN fun _ _ _ _ _ _ us hl => match us, hl with | [_], _ => rfl
theorem b_require (F : FunD K "require" "require" (defArgs s_require) (defBody s_require) (defScope s_require) [] [] f fd) : Binds K fd P_require [] := F.bindsN fun _ _ _ _ _ _ us hl => match us, hl with | [_], _ => rfl
theorem b_checked_times (F : FunD K "checked_times" "checked_times" (defArgs s_checked_times) (defBody s_checked_times) (defScope s_checked_times) [] [] f fd) : Binds K fd P_checked_times [] := F.bindsN fun _ _ _ _ _ _ us hl => match us, hl with | [_, _], _ => rfl
theorem b_Land_are_ends (F : FunD K "are_ends" "Land.are_ends" (defArgs s_Land_are_ends) (defBody s_Land_are_ends) (defScope s_Land_are_ends) [] [] f fd) : Binds K fd P_Land_are_ends [] := F.bindsN fun _ _ _ _ _ _ us hl => match us, hl with | [_, _, _], _ => rfl
theorem b_Land_checked_link (F : FunD K "checked_link" "Land.checked_link" (defArgs s_Land_checked_link) (defBody s_Land_checked_link) (defScope s_Land_checked_link) [] [] f fd) : Binds K fd P_Land_checked_link [] := F.bindsN fun _ _ _ _ _ _ us hl => match us, hl with | [_, _], _ => rfl
theorem b_Land_checked_path (F : FunD K "checked_path" "Land.checked_path" (defArgs s_Land_checked_path) (defBody s_Land_checked_path) (defScope s_Land_checked_path) [] [] f fd) : Binds K fd P_Land_checked_path [] := F.bindsN fun _ _ _ _ _ _ us hl => match us, hl with | [_, _], _ => rfl
theorem b_Land_link_names (F : FunD K "link_names" "Land.link_names" (defArgs s_Land_link_names) (defBody s_Land_link_names) (defScope s_Land_link_names) [] [] f fd) : Binds K fd P_Land_link_names [] := F.bindsN fun _ _ _ _ _ _ us hl => match us, hl with | [_], _ => rfl
theorem b_Land_check_place (F : FunD K "check_place" "Land.check_place" (defArgs s_Land_check_place) (defBody s_Land_check_place) (defScope s_Land_check_place) [] [] f fd) : Binds K fd P_Land_check_place [] := F.bindsN fun _ _ _ _ _ _ us hl => match us, hl with | [_, _], _ => rfl
theorem b_Land_check_wind (F : FunD K "check_wind" "Land.check_wind" (defArgs s_Land_check_wind) (defBody s_Land_check_wind) (defScope s_Land_check_wind) [] [] f fd) : Binds K fd P_Land_check_wind [] := F.bindsN fun _ _ _ _ _ _ us hl => match us, hl with | [_, _], _ => rfl
theorem b_law_row (F : FunD K "_law_row" "_law_row" (defArgs s_law_row) (defBody s_law_row) (defScope s_law_row) [] [] f fd) : Binds K fd P_law_row [] := F.bindsN fun _ _ _ _ _ _ us hl => match us, hl with | [_, _], _ => rfl
theorem b_law_numbers (F : FunD K "_law_numbers" "_law_numbers" (defArgs s_law_numbers) (defBody s_law_numbers) (defScope s_law_numbers) [] [] f fd) : Binds K fd P_law_numbers [] := F.bindsN fun _ _ _ _ _ _ us hl => match us, hl with | [_, _], _ => rfl
theorem b_law_parts (F : FunD K "_law_parts" "_law_parts" (defArgs s_law_parts) (defBody s_law_parts) (defScope s_law_parts) [] [] f fd) : Binds K fd P_law_parts [] := F.bindsN fun _ _ _ _ _ _ us hl => match us, hl with | [_, _], _ => rfl
theorem b_law_weather (F : FunD K "_law_weather" "_law_weather" (defArgs s_law_weather) (defBody s_law_weather) (defScope s_law_weather) [] [] f fd) : Binds K fd P_law_weather [] := F.bindsN fun _ _ _ _ _ _ us hl => match us, hl with | [_, _, _], _ => rfl
theorem b_law_wind (F : FunD K "_law_wind" "_law_wind" (defArgs s_law_wind) (defBody s_law_wind) (defScope s_law_wind) [] [] f fd) : Binds K fd P_law_wind [] := F.bindsN fun _ _ _ _ _ _ us hl => match us, hl with | [_, _, _], _ => rfl
theorem b_law_caught (F : FunD K "_law_caught" "_law_caught" (defArgs s_law_caught) (defBody s_law_caught) (defScope s_law_caught) [] [] f fd) : Binds K fd P_law_caught [] := F.bindsN fun _ _ _ _ _ _ us hl => match us, hl with | [_, _, _, _, _], _ => rfl
theorem b_law_fire (F : FunD K "_law_fire" "_law_fire" (defArgs s_law_fire) (defBody s_law_fire) (defScope s_law_fire) [] [] f fd) : Binds K fd P_law_fire [] := F.bindsN fun _ _ _ _ _ _ us hl => match us, hl with | [_, _, _, _, _], _ => rfl
theorem b_law_rows (F : FunD K "_law_rows" "_law_rows" (defArgs s_law_rows) (defBody s_law_rows) (defScope s_law_rows) [] [] f fd) : Binds K fd P_law_rows [] := F.bindsN fun _ _ _ _ _ _ us hl => match us, hl with | [_, _, _, _, _], _ => rfl
theorem b_law_names (F : FunD K "_law_names" "_law_names" (defArgs s_law_names) (defBody s_law_names) (defScope s_law_names) [] [] f fd) : Binds K fd P_law_names [] := F.bindsN fun _ _ _ _ _ _ us hl => match us, hl with | [_, _], _ => rfl
theorem b_law_made (F : FunD K "_law_made" "_law_made" (defArgs s_law_made) (defBody s_law_made) (defScope s_law_made) [] [] f fd) : Binds K fd P_law_made [] := F.bindsN fun _ _ _ _ _ _ us hl => match us, hl with | [_], _ => rfl
theorem b_law_some (F : FunD K "_law_some" "_law_some" (defArgs s_law_some) (defBody s_law_some) (defScope s_law_some) [] [] f fd) : Binds K fd P_law_some [] := F.bindsN fun _ _ _ _ _ _ us hl => match us, hl with | [_, _, _, _], _ => rfl
theorem b_law_told (F : FunD K "_law_told" "_law_told" (defArgs s_law_told) (defBody s_law_told) (defScope s_law_told) [] [] f fd) : Binds K fd P_law_told [] := F.bindsN fun _ _ _ _ _ _ us hl => match us, hl with | [_, _], _ => rfl
theorem b_law_kept (F : FunD K "_law_kept" "_law_kept" (defArgs s_law_kept) (defBody s_law_kept) (defScope s_law_kept) [] [] f fd) : Binds K fd P_law_kept [] := F.bindsN fun _ _ _ _ _ _ us hl => match us, hl with | [_, _, _, _, _], _ => rfl
theorem b_law_between (F : FunD K "_law_between" "_law_between" (defArgs s_law_between) (defBody s_law_between) (defScope s_law_between) [] [] f fd) : Binds K fd P_law_between [] := F.bindsN fun _ _ _ _ _ _ us hl => match us, hl with | [_, _, _], _ => rfl
theorem b_law (F : FunD K "law" "law" (defArgs s_law) (defBody s_law) (defScope s_law) [] [] f fd) : Binds K fd P_law [] := F.bindsN fun _ _ _ _ _ _ us hl => match us, hl with | [_], _ => rfl
end
theorem mkTx {K : PySem.W.Frag} {h : Heap} {mg : Str → Option Value} {fl : Addr} (X : K.In h) (G : h.Ns mainGlobals mg) (c : SaysZ K) (hlaw : mg ("law" : Str) = some (.ref fl)) : ∃ T : Tx K mg, T.law.a = fl ∧ ∀ (s : Shared) (v : Value), BindsTo s T.law.fd ⟨[v], []⟩ [(("_law_script" : Str), v)] := by
  obtain ⟨fd_check_places, F_check_places⟩ := c.def_ 0 (d := d_check_places) rfl
  obtain ⟨fd_check_winds, F_check_winds⟩ := c.def_ 1 (d := d_check_winds) rfl
  obtain ⟨fd_check_changes, F_check_changes⟩ := c.def_ 2 (d := d_check_changes) rfl
  obtain ⟨fd_blowing, F_blowing⟩ := c.def_ 3 (d := d_blowing) rfl
  obtain ⟨fd_chances, F_chances⟩ := c.def_ 4 (d := d_chances) rfl
  obtain ⟨fd_least_numbers, F_least_numbers⟩ := c.def_ 5 (d := d_least_numbers) rfl
  obtain ⟨fd_is_number, F_is_number⟩ := c.def_ 6 (d := d_is_number) rfl
  obtain ⟨fd_check_numbers, F_check_numbers⟩ := c.def_ 7 (d := d_check_numbers) rfl
  obtain ⟨fd_check_rows, F_check_rows⟩ := c.def_ 8 (d := d_check_rows) rfl
  obtain ⟨fd_least_minutes, F_least_minutes⟩ := c.def_ 9 (d := d_least_minutes) rfl
  obtain ⟨fd_caught, F_caught⟩ := c.def_ 10 (d := d_caught) rfl
  obtain ⟨fd_spread, F_spread⟩ := c.def_ 11 (d := d_spread) rfl
  obtain ⟨fd_check_fire, F_check_fire⟩ := c.def_ 12 (d := d_check_fire) rfl
  obtain ⟨fd_told, F_told⟩ := c.def_ 13 (d := d_told) rfl
  obtain ⟨fd_burning, F_burning⟩ := c.def_ 14 (d := d_burning) rfl
  obtain ⟨fd_fastest, F_fastest⟩ := c.def_ 15 (d := d_fastest) rfl
  obtain ⟨fd_never_burn, F_never_burn⟩ := c.def_ 16 (d := d_never_burn) rfl
  obtain ⟨fd_check_question, F_check_question⟩ := c.def_ 17 (d := d_check_question) rfl
  obtain ⟨fd_keeps, F_keeps⟩ := c.def_ 18 (d := d_keeps) rfl
  obtain ⟨fd_is_name, F_is_name⟩ := c.def_ 19 (d := d_is_name) rfl
  obtain ⟨fd_are_different, F_are_different⟩ := c.def_ 20 (d := d_are_different) rfl
  obtain ⟨fd_require, F_require⟩ := c.def_ 21 (d := d_require) rfl
  obtain ⟨fd_checked_times, F_checked_times⟩ := c.def_ 22 (d := d_checked_times) rfl
  obtain ⟨fd_Land_init, F_Land_init⟩ := c.def_ 23 (d := d_Land_init) rfl
  obtain ⟨fd_Land_are_ends, F_Land_are_ends⟩ := c.def_ 24 (d := d_Land_are_ends) rfl
  obtain ⟨fd_Land_checked_link, F_Land_checked_link⟩ := c.def_ 25 (d := d_Land_checked_link) rfl
  obtain ⟨fd_Land_checked_path, F_Land_checked_path⟩ := c.def_ 26 (d := d_Land_checked_path) rfl
  obtain ⟨fd_Land_link_names, F_Land_link_names⟩ := c.def_ 27 (d := d_Land_link_names) rfl
  obtain ⟨fd_Land_check_place, F_Land_check_place⟩ := c.def_ 28 (d := d_Land_check_place) rfl
  obtain ⟨fd_Land_check_wind, F_Land_check_wind⟩ := c.def_ 29 (d := d_Land_check_wind) rfl
  obtain ⟨fd_law_row, F_law_row⟩ := c.def_ 30 (d := d_law_row) rfl
  obtain ⟨fd_law_numbers, F_law_numbers⟩ := c.def_ 31 (d := d_law_numbers) rfl
  obtain ⟨fd_law_parts, F_law_parts⟩ := c.def_ 32 (d := d_law_parts) rfl
  obtain ⟨fd_law_weather, F_law_weather⟩ := c.def_ 33 (d := d_law_weather) rfl
  obtain ⟨fd_law_wind, F_law_wind⟩ := c.def_ 34 (d := d_law_wind) rfl
  obtain ⟨fd_law_caught, F_law_caught⟩ := c.def_ 35 (d := d_law_caught) rfl
  obtain ⟨fd_law_fire, F_law_fire⟩ := c.def_ 36 (d := d_law_fire) rfl
  obtain ⟨fd_law_rows, F_law_rows⟩ := c.def_ 37 (d := d_law_rows) rfl
  obtain ⟨fd_law_names, F_law_names⟩ := c.def_ 38 (d := d_law_names) rfl
  obtain ⟨fd_law_made, F_law_made⟩ := c.def_ 39 (d := d_law_made) rfl
  obtain ⟨fd_law_some, F_law_some⟩ := c.def_ 40 (d := d_law_some) rfl
  obtain ⟨fd_law_told, F_law_told⟩ := c.def_ 41 (d := d_law_told) rfl
  obtain ⟨fd_law_kept, F_law_kept⟩ := c.def_ 42 (d := d_law_kept) rfl
  obtain ⟨fd_law_between, F_law_between⟩ := c.def_ 43 (d := d_law_between) rfl
  obtain ⟨fd_law, F_law⟩ := c.def_ 44 (d := d_law) rfl
  have el := hlaw.symm.trans (He.glo_ok X G (c.fact 37 (f := .glo "law") rfl))
  refine ⟨{
    check_places := ⟨_, fd_check_places, He5.fun_of (st := s_check_places) F_check_places, He.glo_ok X G (c.fact 0 (f := .glo "check_places") rfl)⟩,
    check_winds := ⟨⟨_, fd_check_winds, He5.fun_of (st := s_check_winds) F_check_winds, b_check_winds F_check_winds⟩, He.glo_ok X G (c.fact 1 (f := .glo "check_winds") rfl)⟩,
    check_changes := ⟨⟨_, fd_check_changes, He5.fun_of (st := s_check_changes) F_check_changes, b_check_changes F_check_changes⟩, He.glo_ok X G (c.fact 2 (f := .glo "check_changes") rfl)⟩,
    blowing := ⟨⟨_, fd_blowing, He5.fun_of (st := s_blowing) F_blowing, b_blowing F_blowing⟩, He.glo_ok X G (c.fact 3 (f := .glo "blowing") rfl)⟩,
    chances := ⟨⟨_, fd_chances, He5.fun_of (st := s_chances) F_chances, b_chances F_chances⟩, He.glo_ok X G (c.fact 4 (f := .glo "chances") rfl)⟩,
    least_numbers := ⟨⟨_, fd_least_numbers, He5.fun_of (st := s_least_numbers) F_least_numbers, b_least_numbers F_least_numbers⟩, He.glo_ok X G (c.fact 5 (f := .glo "least_numbers") rfl)⟩,
    is_number := ⟨⟨_, fd_is_number, He5.fun_of (st := s_is_number) F_is_number, b_is_number F_is_number⟩, He.glo_ok X G (c.fact 6 (f := .glo "is_number") rfl)⟩,
    check_numbers := ⟨⟨_, fd_check_numbers, He5.fun_of (st := s_check_numbers) F_check_numbers, b_check_numbers F_check_numbers⟩, He.glo_ok X G (c.fact 7 (f := .glo "check_numbers") rfl)⟩,
    check_rows := ⟨⟨_, fd_check_rows, He5.fun_of (st := s_check_rows) F_check_rows, b_check_rows F_check_rows⟩, He.glo_ok X G (c.fact 8 (f := .glo "check_rows") rfl)⟩,
    least_minutes := ⟨⟨_, fd_least_minutes, He5.fun_of (st := s_least_minutes) F_least_minutes, b_least_minutes F_least_minutes⟩, He.glo_ok X G (c.fact 9 (f := .glo "least_minutes") rfl)⟩,
    caught := ⟨⟨_, fd_caught, He5.fun_of (st := s_caught) F_caught, b_caught F_caught⟩, He.glo_ok X G (c.fact 10 (f := .glo "caught") rfl)⟩,
    spread := ⟨⟨_, fd_spread, He5.fun_of (st := s_spread) F_spread, b_spread F_spread⟩, He.glo_ok X G (c.fact 11 (f := .glo "spread") rfl)⟩,
    check_fire := ⟨⟨_, fd_check_fire, He5.fun_of (st := s_check_fire) F_check_fire, b_check_fire F_check_fire⟩, He.glo_ok X G (c.fact 12 (f := .glo "check_fire") rfl)⟩,
    told := ⟨⟨_, fd_told, He5.fun_of (st := s_told) F_told, b_told F_told⟩, He.glo_ok X G (c.fact 13 (f := .glo "told") rfl)⟩,
    burning := ⟨⟨_, fd_burning, He5.fun_of (st := s_burning) F_burning, b_burning F_burning⟩, He.glo_ok X G (c.fact 14 (f := .glo "burning") rfl)⟩,
    fastest := ⟨⟨_, fd_fastest, He5.fun_of (st := s_fastest) F_fastest, b_fastest F_fastest⟩, He.glo_ok X G (c.fact 15 (f := .glo "fastest") rfl)⟩,
    never_burn := ⟨⟨_, fd_never_burn, He5.fun_of (st := s_never_burn) F_never_burn, b_never_burn F_never_burn⟩, He.glo_ok X G (c.fact 16 (f := .glo "never_burn") rfl)⟩,
    check_question := ⟨⟨_, fd_check_question, He5.fun_of (st := s_check_question) F_check_question, b_check_question F_check_question⟩, He.glo_ok X G (c.fact 17 (f := .glo "check_question") rfl)⟩,
    keeps := ⟨⟨_, fd_keeps, He5.fun_of (st := s_keeps) F_keeps, b_keeps F_keeps⟩, He.glo_ok X G (c.fact 18 (f := .glo "keeps") rfl)⟩,
    is_name := ⟨⟨_, fd_is_name, He5.fun_of (st := s_is_name) F_is_name, b_is_name F_is_name⟩, He.glo_ok X G (c.fact 19 (f := .glo "is_name") rfl)⟩,
    are_different := ⟨⟨_, fd_are_different, He5.fun_of (st := s_are_different) F_are_different, b_are_different F_are_different⟩, He.glo_ok X G (c.fact 20 (f := .glo "are_different") rfl)⟩,
    require := ⟨⟨_, fd_require, He5.fun_of (st := s_require) F_require, b_require F_require⟩, He.glo_ok X G (c.fact 21 (f := .glo "require") rfl)⟩,
    checked_times := ⟨⟨_, fd_checked_times, He5.fun_of (st := s_checked_times) F_checked_times, b_checked_times F_checked_times⟩, He.glo_ok X G (c.fact 22 (f := .glo "checked_times") rfl)⟩,
    ia := He.fAd K ("Land", some "__init__"), ifd := fd_Land_init, iF := He5.fun_of (st := s_Land_init) F_Land_init,
    Land_are_ends := ⟨_, fd_Land_are_ends, He5.fun_of (st := s_Land_are_ends) F_Land_are_ends, b_Land_are_ends F_Land_are_ends⟩,
    Land_checked_link := ⟨_, fd_Land_checked_link, He5.fun_of (st := s_Land_checked_link) F_Land_checked_link, b_Land_checked_link F_Land_checked_link⟩,
    Land_checked_path := ⟨_, fd_Land_checked_path, He5.fun_of (st := s_Land_checked_path) F_Land_checked_path, b_Land_checked_path F_Land_checked_path⟩,
    Land_link_names := ⟨_, fd_Land_link_names, He5.fun_of (st := s_Land_link_names) F_Land_link_names, b_Land_link_names F_Land_link_names⟩,
    Land_check_place := ⟨_, fd_Land_check_place, He5.fun_of (st := s_Land_check_place) F_Land_check_place, b_Land_check_place F_Land_check_place⟩,
    Land_check_wind := ⟨_, fd_Land_check_wind, He5.fun_of (st := s_Land_check_wind) F_Land_check_wind, b_Land_check_wind F_Land_check_wind⟩,
    law_row := ⟨⟨_, fd_law_row, He5.fun_of (st := s_law_row) F_law_row, b_law_row F_law_row⟩, He.glo_ok X G (c.fact 23 (f := .glo "_law_row") rfl)⟩,
    law_numbers := ⟨⟨_, fd_law_numbers, He5.fun_of (st := s_law_numbers) F_law_numbers, b_law_numbers F_law_numbers⟩, He.glo_ok X G (c.fact 24 (f := .glo "_law_numbers") rfl)⟩,
    law_parts := ⟨⟨_, fd_law_parts, He5.fun_of (st := s_law_parts) F_law_parts, b_law_parts F_law_parts⟩, He.glo_ok X G (c.fact 25 (f := .glo "_law_parts") rfl)⟩,
    law_weather := ⟨⟨_, fd_law_weather, He5.fun_of (st := s_law_weather) F_law_weather, b_law_weather F_law_weather⟩, He.glo_ok X G (c.fact 26 (f := .glo "_law_weather") rfl)⟩,
    law_wind := ⟨⟨_, fd_law_wind, He5.fun_of (st := s_law_wind) F_law_wind, b_law_wind F_law_wind⟩, He.glo_ok X G (c.fact 27 (f := .glo "_law_wind") rfl)⟩,
    law_caught := ⟨⟨_, fd_law_caught, He5.fun_of (st := s_law_caught) F_law_caught, b_law_caught F_law_caught⟩, He.glo_ok X G (c.fact 28 (f := .glo "_law_caught") rfl)⟩,
    law_fire := ⟨⟨_, fd_law_fire, He5.fun_of (st := s_law_fire) F_law_fire, b_law_fire F_law_fire⟩, He.glo_ok X G (c.fact 29 (f := .glo "_law_fire") rfl)⟩,
    law_rows := ⟨⟨_, fd_law_rows, He5.fun_of (st := s_law_rows) F_law_rows, b_law_rows F_law_rows⟩, He.glo_ok X G (c.fact 30 (f := .glo "_law_rows") rfl)⟩,
    law_names := ⟨⟨_, fd_law_names, He5.fun_of (st := s_law_names) F_law_names, b_law_names F_law_names⟩, He.glo_ok X G (c.fact 31 (f := .glo "_law_names") rfl)⟩,
    law_made := ⟨⟨_, fd_law_made, He5.fun_of (st := s_law_made) F_law_made, b_law_made F_law_made⟩, He.glo_ok X G (c.fact 32 (f := .glo "_law_made") rfl)⟩,
    law_some := ⟨⟨_, fd_law_some, He5.fun_of (st := s_law_some) F_law_some, b_law_some F_law_some⟩, He.glo_ok X G (c.fact 33 (f := .glo "_law_some") rfl)⟩,
    law_told := ⟨⟨_, fd_law_told, He5.fun_of (st := s_law_told) F_law_told, b_law_told F_law_told⟩, He.glo_ok X G (c.fact 34 (f := .glo "_law_told") rfl)⟩,
    law_kept := ⟨⟨_, fd_law_kept, He5.fun_of (st := s_law_kept) F_law_kept, b_law_kept F_law_kept⟩, He.glo_ok X G (c.fact 35 (f := .glo "_law_kept") rfl)⟩,
    law_between := ⟨⟨_, fd_law_between, He5.fun_of (st := s_law_between) F_law_between, b_law_between F_law_between⟩, He.glo_ok X G (c.fact 36 (f := .glo "_law_between") rfl)⟩,
    law := ⟨⟨_, fd_law, He5.fun_of (st := s_law) F_law, b_law F_law⟩, He.glo_ok X G (c.fact 37 (f := .glo "law") rfl)⟩,
    C := He.ga K "Land", mC := He.glo_ok X G (c.fact 38 (f := .glo "Land") rfl), cl := He.cls_ok (c.fact 39 (f := .cls "Land") rfl), mkr := He.mkr_ok (c.fact 40 (f := .mkr "Land") rfl), kb := kb_init F_Land_init,
    m_are_ends := He.meth_ok (c.fact 41 (f := .meth "Land" "are_ends") rfl),
    m_checked_link := He.meth_ok (c.fact 42 (f := .meth "Land" "checked_link") rfl),
    m_checked_path := He.meth_ok (c.fact 43 (f := .meth "Land" "checked_path") rfl),
    m_check_place := He.meth_ok (c.fact 44 (f := .meth "Land" "check_place") rfl),
    m_check_wind := He.meth_ok (c.fact 45 (f := .meth "Land" "check_wind") rfl),
    pa := propA K "Land" "link_names", prop := c.prop,
    n_winds := He.noat_ok (c.fact 46 (f := .noat "Land" "winds") rfl),
    n_places := He.noat_ok (c.fact 47 (f := .noat "Land" "places") rfl),
    n_links := He.noat_ok (c.fact 48 (f := .noat "Land" "links") rfl),
    n_paths := He.noat_ok (c.fact 49 (f := .noat "Land" "paths") rfl),
    u_len := He.free_ok X G (c.fact 50 (f := .free "len") rfl),
    u_min := He.free_ok X G (c.fact 51 (f := .free "min") rfl),
    u_max := He.free_ok X G (c.fact 52 (f := .free "max") rfl),
    u_abs := He.free_ok X G (c.fact 53 (f := .free "abs") rfl),
    u_int := He.free_ok X G (c.fact 54 (f := .free "int") rfl),
    u_any := He.free_ok X G (c.fact 55 (f := .free "any") rfl),
    u_all := He.free_ok X G (c.fact 56 (f := .free "all") rfl),
    u_zip := He.free_ok X G (c.fact 57 (f := .free "zip") rfl),
    u_enumerate := He.free_ok X G (c.fact 58 (f := .free "enumerate") rfl),
    u_range := He.free_ok X G (c.fact 59 (f := .free "range") rfl),
    u_tuple := He.free_ok X G (c.fact 60 (f := .free "tuple") rfl),
    u_list := He.free_ok X G (c.fact 61 (f := .free "list") rfl),
    u_dict := He.free_ok X G (c.fact 62 (f := .free "dict") rfl),
    u_sorted := He.free_ok X G (c.fact 63 (f := .free "sorted") rfl),
    u_isinstance := He.free_ok X G (c.fact 64 (f := .free "isinstance") rfl),
    u_bool := He.free_ok X G (c.fact 65 (f := .free "bool") rfl),
    c_MOST_CHANGES := He.int_ok X G (c.fact 66 (f := .int "MOST_CHANGES" 40) rfl),
    c_MOST_MINUTE := He.int_ok X G (c.fact 67 (f := .int "MOST_MINUTE" 100000) rfl),
    c_MOST_NAME_CHARS := He.int_ok X G (c.fact 68 (f := .int "MOST_NAME_CHARS" 12) rfl),
    c_MOST_WINDS := He.int_ok X G (c.fact 69 (f := .int "MOST_WINDS" 4) rfl),
    c_MOST_PLACES := He.int_ok X G (c.fact 70 (f := .int "MOST_PLACES" 24) rfl),
    c_MOST_LINKS := He.int_ok X G (c.fact 71 (f := .int "MOST_LINKS" 60) rfl),
    c_MOST_PATHS := He.int_ok X G (c.fact 72 (f := .int "MOST_PATHS" 60) rfl),
    c_MOST_MINUTES := He.int_ok X G (c.fact 73 (f := .int "MOST_MINUTES" 1000) rfl),
    c_NAME_CHARS := He.str_ok X G (c.fact 74 (f := .str "NAME_CHARS" "abcdefghijklmnopqrstuvwxyz0123456789") rfl) }, ?_, ?_⟩
  · exact (Value.ref.inj (Option.some.inj el)).symm
  · exact fun s v => FunD.bindsA (ps := ["_law_script"]) F_law (fun _ _ _ _ _ _ us hl => match us, hl with | [_], _ => rfl) s [v] rfl
end Ef
open PySem PySem.W PySem.Calls PyProof.Rows
theorem PySem.Challenge.cw_everyfire_k39_whole_kept_goals_holds : PySem.Challenge.rw_everyfire_k39_whole_kept_goals.Holds := by
  w_on; o_law
  refine HandSHeadRun.head_any (r := OpenLaw.row PySem.Challenge.rw_everyfire_k39_whole_kept_goals) (q := view (OpenLaw.row PySem.Challenge.rw_everyfire_k39_whole_kept_goals).prog [60]) (H := Ef.hookZ) (ob := Ef.ob) (M := 6000) (loose := Ef.loose) (d := HandSHeadRun.topDef (OpenLaw.row PySem.Challenge.rw_everyfire_k39_whole_kept_goals).prog 60) (kwd := []) Ef.ob_eq
    (by kernel_rfl) (fun s => by kernel_rfl) Ef.run (by kernel_rfl) (by kernel_rfl) (by kernel_rfl) (by rfl) (by first | assumption | decide +kernel) (by decide +kernel) ⟨rfl, rfl, rfl, rfl, rfl, by decide +kernel⟩ ?hw ?hc
  case hw => w_witness2
  case hc =>
    refine L2.walk_ofE (l := PySem.Challenge.rw_everyfire_k39_whole_kept_goals) (n := 63) (k := 8) (x := "_law_script") (CX := L2.CX0) rfl (by decide) (by kernel_rfl) ⟨rfl, by decide, by decide⟩ ?F (fun _ _ _ _ z => z)
    intro w mg fa h Y G hmg0
    obtain ⟨K, KX, c⟩ := Y
    have hmg : mg ("law" : PySem.Str) = some (.ref fa) := by
      have e : (HandSHeadRun.topDef (OpenLaw.row PySem.Challenge.rw_everyfire_k39_whole_kept_goals).prog 60).name = ("law" : PySem.Str) := by kernel_rfl
      rw [← e]
      exact hmg0
    obtain ⟨T, ea, hb⟩ := Ef.mkTx KX G c hmg
    refine ⟨K, T.law.fd, Ef.spx_law K, KX, hb, fun H a ns _ _ hS => ⟨ns, trivial, .cons (.lst hS (Ef.dpa_ints ns)) .nil, fun v H' _ hv => L2.Dp.bl_inv hv⟩, fun base _ _ => ?_⟩
    rw [← ea]
    exact Ef.ok_law T
