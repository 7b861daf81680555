import PyProof.Rows.All
import Wide.All
import OpenK.AllK
import Wide.FinOn
import HandS.ForMost
import HandS.IsInst
import HandS.Walk
import HandS.Slots
import HandS.SlotsOwn
import HandS.Star
import HandS.DictComp
import HandS.SortKw
import HandS.Deep
import HandS.Style
import HandS.Strs
import HandS.TupAny
import HandS.Wide
import KE.SortData
import KE.GoesNew
import KE.GoesDict
import KE.GoesMore
import HandS.Iter
import PyProof.DictUpdate
import PyProof.TupleOfSeq
import KE.KOwnIter
import HandS.IterNext
import HandS.OwnIter
import OpenK.KMeth
import PyProof.InstEq
import HandS.TupSets
import KE.SortLaws
import PyProof.P3In
import PyProof.P3Eq
import HandS.FStrTup
import PyProof.ReprHeadsTuple
import HandS.Ends
import PySem.Challenge.RW_unbooked_k11_whole_tables
set_option Elab.async false
set_option maxRecDepth 100000
set_option linter.all false
set_option maxHeartbeats 4000000
/-! The paths of least cost, in plain Lean: what paths_from reckons, and that it is right. No program here. -/
namespace Kp
variable {α : Type} [DecidableEq α]

/-- a table as one reads it: ways with their costs -/
abbrev Ways (α : Type) := List (α × α × Int)
/-- what a dict of paths holds, in its order -/
abbrev Found (α : Type) := List (α × (Int × List α))

/-- p goes from u to v along ways of cs, at the cost d -/
inductive PathTo (cs : Ways α) (u : α) : α → Int → List α → Prop
  | start : PathTo cs u u 0 [u]
  | step {v x : α} {d c : Int} {p : List α} : PathTo cs u v d p → (v, x, c) ∈ cs → PathTo cs u x (d + c) (p ++ [x])

/-- all costs are from 1 on -/
def Pos1 (cs : Ways α) : Prop := ∀ w ∈ cs, 1 ≤ w.2.2

section
variable {cs : Ways α} {u v x : α} {d c : Int} {p : List α}
theorem PathTo.nonneg (hp : Pos1 cs) (h : PathTo cs u v d p) : 0 ≤ d := by
  induction h with
  | start => exact Int.le_refl 0
  | step _ hm ih => have := hp _ hm; simp only at this; omega
theorem PathTo.zero (hp : Pos1 cs) (h : PathTo cs u v d p) (hd : d = 0) : u = v := by
  cases h with
  | start => rfl
  | step h hm => have := hp _ hm; have := h.nonneg hp; simp only at *; omega
theorem PathTo.ne_nil (h : PathTo cs u v d p) : p ≠ [] := by
  cases h with
  | start => simp
  | step h hm => simp
theorem PathTo.head (h : PathTo cs u v d p) : p.head? = some u := by
  induction h with
  | start => rfl
  | @step v x d c p h _ ih =>
    cases p with
    | nil => simp at ih
    | cons a t => simpa using ih
theorem PathTo.last (h : PathTo cs u v d p) : p.getLast? = some v := by
  cases h with
  | start => rfl
  | step h hm => simp
theorem PathTo.mem_last (h : PathTo cs u v d p) : v ∈ p := by
  cases h with
  | start => simp
  | step h hm => simp
theorem PathTo.append {d' : Int} {p' : List α} (h : PathTo cs u v d p) (h' : PathTo cs v x d' p') : ∃ q, PathTo cs u x (d + d') q := by
  induction h' with
  | start => exact ⟨p, by simpa using h⟩
  | @step w y d2 c2 p2 _ hm ih =>
    obtain ⟨q, hq⟩ := ih
    exact ⟨_, by have := PathTo.step hq hm; rwa [Int.add_assoc] at this⟩
theorem PathTo.one (hm : (u, x, c) ∈ cs) : PathTo cs u x c [u, x] := by
  have := PathTo.step (PathTo.start (cs := cs) (u := u)) hm
  rw [Int.zero_add] at this
  exact this
theorem PathTo.mono {cs' : Ways α} (hs : ∀ w ∈ cs, ∃ c', (w.1, w.2.1, c') ∈ cs' ∧ c' ≤ w.2.2) (h : PathTo cs u v d p) : ∃ d', PathTo cs' u v d' p ∧ d' ≤ d := by
  induction h with
  | start => exact ⟨0, .start, Int.le_refl 0⟩
  | step _ hm ih =>
    obtain ⟨d', h', hd⟩ := ih
    obtain ⟨c', hc, hle⟩ := hs _ hm
    refine ⟨d' + c', .step h' hc, ?_⟩
    simp only at hle; omega
/-- the table in which each way leads the other way -/
def turn (cs : Ways α) : Ways α := cs.map fun w => (w.2.1, w.1, w.2.2)
theorem mem_turn {a b : α} : (a, b, c) ∈ turn cs ↔ (b, a, c) ∈ cs := by
  unfold turn
  rw [List.mem_map]
  constructor
  · rintro ⟨⟨x, y, z⟩, h, e⟩
    simp only [Prod.mk.injEq] at e
    obtain ⟨rfl, rfl, rfl⟩ := e
    exact h
  · intro h
    exact ⟨(b, a, c), h, rfl⟩
theorem PathTo.turned (h : PathTo cs u v d p) : ∃ q, PathTo (turn cs) v u d q := by
  induction h with
  | start => exact ⟨_, .start⟩
  | @step w y d c p _ hm ih =>
    obtain ⟨q, hq⟩ := ih
    obtain ⟨q', hq'⟩ := PathTo.append (PathTo.one (mem_turn.mpr hm)) hq
    exact ⟨q', by rwa [Int.add_comm] at hq'⟩
/-- the part of a path up to a name on it -/
theorem PathTo.upto (hp : Pos1 cs) (h : PathTo cs u v d p) (hx : x ∈ p) : ∃ d' p', PathTo cs u x d' p' ∧ p' <+: p ∧ d' ≤ d := by
  induction h with
  | start =>
    have e : x = u := by simpa using hx
    subst e
    exact ⟨0, [x], .start, List.prefix_refl _, Int.le_refl 0⟩
  | @step w y d c p h hm ih =>
    rcases List.mem_append.mp hx with hx | hx
    · obtain ⟨d', p', h', hpre, hle⟩ := ih hx
      refine ⟨d', p', h', hpre.trans (List.prefix_append _ _), ?_⟩
      have := hp _ hm; simp only at this; omega
    · have e : x = y := by simpa using hx
      subst e
      exact ⟨_, _, .step h hm, List.prefix_refl _, Int.le_refl _⟩
/-- each path has one without a name twice that is as cheap -/
theorem PathTo.simple (hp : Pos1 cs) (h : PathTo cs u v d p) : ∃ d' p', PathTo cs u v d' p' ∧ p'.Nodup ∧ d' ≤ d := by
  induction h with
  | start => exact ⟨0, [u], .start, by simp, Int.le_refl 0⟩
  | @step w y d c p h hm ih =>
    obtain ⟨d', p', h', hn, hle⟩ := ih
    have h1 := hp _ hm
    simp only at h1
    by_cases hy : y ∈ p'
    · obtain ⟨d2, p2, h2, hpre, hle2⟩ := h'.upto hp hy
      exact ⟨d2, p2, h2, hpre.sublist.nodup hn, by omega⟩
    · refine ⟨d' + c, p' ++ [y], .step h' hm, ?_, by omega⟩
      rw [List.nodup_append]
      refine ⟨hn, by simp, ?_⟩
      intro a ha b hb e
      have e2 : b = y := by simpa using hb
      subst e e2
      exact hy ha
theorem nodup_le {β : Type} [DecidableEq β] : ∀ {l m : List β}, l.Nodup → (∀ a ∈ l, a ∈ m) → l.length ≤ m.length
  | [], _, _, _ => Nat.zero_le _
  | a :: l, m, hn, hs => by
    have ha : a ∈ m := hs a (by simp)
    have h1 := nodup_le (l := l) (m := m.erase a) (List.nodup_cons.mp hn).2 fun b hb => by
      have hne : b ≠ a := fun e => (List.nodup_cons.mp hn).1 (e ▸ hb)
      exact (List.mem_erase_of_ne hne).mpr (hs b (by simp [hb]))
    rw [List.length_erase_of_mem ha] at h1
    have h2 : 0 < m.length := List.length_pos_of_mem ha
    simp only [List.length_cons]
    omega
theorem PathTo.tail_mem (h : PathTo cs u v d p) : ∀ a ∈ p.tail, a ∈ cs.map (·.2.1) := by
  induction h with
  | start => simp
  | @step w y d c p h hm ih =>
    intro a ha
    rw [List.tail_append_of_ne_nil h.ne_nil] at ha
    rcases List.mem_append.mp ha with ha | ha
    · exact ih a ha
    · have e : a = y := by simpa using ha
      subst e
      exact List.mem_map.mpr ⟨_, hm, rfl⟩
theorem PathTo.length_le (h : PathTo cs u v d p) (hn : p.Nodup) : p.length ≤ cs.length + 1 := by
  have h1 := nodup_le (l := p.tail) (m := cs.map (·.2.1)) (by
    cases p with
    | nil => simp
    | cons a t => exact (List.nodup_cons.mp hn).2) h.tail_mem
  rw [List.length_map, List.length_tail] at h1
  have h2 : 0 < p.length := List.length_pos_iff.mpr h.ne_nil
  omega
end

/-! ### what the program does -/
def look (f : Found α) (v : α) : Option (Int × List α) := (f.find? fun kv => decide (kv.1 = v)).map (·.2)
/-- d[k] = v on a dict's items -/
def put (f : Found α) (v : α) (e : Int × List α) : Found α := if (look f v).isSome then f.map fun kv => if kv.1 = v then (v, e) else kv else f ++ [(v, e)]
theorem look_nil (v : α) : look ([] : Found α) v = none := rfl
theorem look_cons (k : α) (e : Int × List α) (f : Found α) (v : α) : look ((k, e) :: f) v = if k = v then some e else look f v := by
  unfold look
  rw [List.find?_cons]
  by_cases h : k = v
  · simp [h]
  · simp [h]
theorem look_append (f g : Found α) (v : α) : look (f ++ g) v = (look f v).or (look g v) := by
  induction f with
  | nil => simp [look_nil]
  | cons kv f ih =>
    obtain ⟨k, e⟩ := kv
    rw [List.cons_append, look_cons, look_cons, ih]
    split <;> simp
theorem look_map (f : Found α) (v : α) (e : Int × List α) (w : α) : look (f.map fun kv => if kv.1 = v then (v, e) else kv) w = if w = v then (look f w).map (fun _ => e) else look f w := by
  induction f with
  | nil => simp [look_nil]
  | cons kv f ih =>
    obtain ⟨k, e0⟩ := kv
    rw [List.map_cons]
    by_cases h1 : k = v
    · rw [if_pos h1, look_cons, look_cons, ih]
      by_cases h2 : w = v
      · subst h1 h2; simp
      · have h3 : ¬ v = w := fun e => h2 e.symm
        subst h1
        simp [h2, h3]
    · rw [if_neg h1, look_cons, look_cons, ih]
      by_cases h2 : w = v
      · subst h2; simp [h1]
      · simp [h2]
theorem look_put (f : Found α) (v : α) (e : Int × List α) (w : α) : look (put f v e) w = if w = v then some e else look f w := by
  unfold put
  by_cases h : (look f v).isSome
  · rw [if_pos h, look_map]
    by_cases h2 : w = v
    · subst h2
      obtain ⟨y, hy⟩ := Option.isSome_iff_exists.mp h
      simp [hy]
    · simp [h2]
  · rw [if_neg h, look_append, look_cons, look_nil]
    have hn : look f v = none := by simpa using h
    by_cases h2 : w = v
    · subst h2; simp [hn]
    · have h3 : ¬ v = w := fun e => h2 e.symm
      simp [h2, h3]

/-- one way is tried -/
def relax (f : Found α) (w : α × α × Int) : Found α :=
  match look f w.1 with
  | none => f
  | some (own, names) =>
    match look f w.2.1 with
    | none => put f w.2.1 (own + w.2.2, names ++ [w.2.1])
    | some (d, _) => if own + w.2.2 < d then put f w.2.1 (own + w.2.2, names ++ [w.2.1]) else f
def round (cs : Ways α) (f : Found α) : Found α := cs.foldl relax f
def rounds (cs : Ways α) : Nat → Found α → Found α
  | 0, f => f
  | n + 1, f => round cs (rounds cs n f)
/-- what paths_from gives -/
def paths (cs : Ways α) (u : α) : Found α := rounds cs (cs.length + 1) [(u, (0, [u]))]
def dist (cs : Ways α) (u v : α) : Option Int := (look (paths cs u) v).map (·.1)
def path (cs : Ways α) (u v : α) : Option (List α) := (look (paths cs u) v).map (·.2)

/-! ### it is right -/
structure Good (cs : Ways α) (u : α) (f : Found α) : Prop where
  at0 : look f u = some (0, [u])
  path : ∀ v d p, look f v = some (d, p) → PathTo cs u v d p ∧ p.Nodup
  low : ∀ v d p, look f v = some (d, p) → ∀ x ∈ p, ∃ d' p', look f x = some (d', p') ∧ d' ≤ d
/-- g knows all that f knows, at no higher cost -/
def Low (f g : Found α) : Prop := ∀ v d p, look f v = some (d, p) → ∃ d' p', look g v = some (d', p') ∧ d' ≤ d
theorem Low.refl (f : Found α) : Low f f := fun v d p h => ⟨d, p, h, Int.le_refl d⟩
theorem Low.trans {f g h : Found α} (a : Low f g) (b : Low g h) : Low f h := fun v d p e => by
  obtain ⟨d1, p1, e1, l1⟩ := a v d p e
  obtain ⟨d2, p2, e2, l2⟩ := b v d1 p1 e1
  exact ⟨d2, p2, e2, by omega⟩

section
variable {cs : Ways α} {u : α} {f : Found α} {w : α × α × Int}
/-- the three ways through one try -/
theorem relax_cases (f : Found α) (w : α × α × Int) : (relax f w = f ∧ ∀ own names, look f w.1 = some (own, names) → ∃ d p, look f w.2.1 = some (d, p) ∧ d ≤ own + w.2.2) ∨
    ∃ own names, look f w.1 = some (own, names) ∧ relax f w = put f w.2.1 (own + w.2.2, names ++ [w.2.1]) ∧ ∀ d p, look f w.2.1 = some (d, p) → own + w.2.2 < d := by
  unfold relax
  cases h1 : look f w.1 with
  | none => exact .inl ⟨rfl, fun _ _ h => by cases h⟩
  | some a =>
    obtain ⟨own, names⟩ := a
    cases h2 : look f w.2.1 with
    | none => exact .inr ⟨own, names, rfl, rfl, fun _ _ h => by cases h⟩
    | some b =>
      obtain ⟨d, p⟩ := b
      by_cases h3 : own + w.2.2 < d
      · refine .inr ⟨own, names, rfl, by simp [h3], fun d' p' h => ?_⟩
        cases h
        exact h3
      · refine .inl ⟨by simp [h3], fun own' names' h => ?_⟩
        cases h
        exact ⟨d, p, rfl, by omega⟩
theorem relax_low (f : Found α) (w : α × α × Int) : Low f (relax f w) := by
  rcases relax_cases f w with ⟨e, _⟩ | ⟨own, names, h1, e, h2⟩
  · rw [e]; exact .refl f
  · rw [e]
    intro v d p h
    rw [look_put]
    by_cases hv : v = w.2.1
    · subst hv
      rw [if_pos rfl]
      exact ⟨_, _, rfl, Int.le_of_lt (h2 d p h)⟩
    · rw [if_neg hv]
      exact ⟨d, p, h, Int.le_refl d⟩
theorem relax_good (hp : Pos1 cs) (hw : w ∈ cs) (g : Good cs u f) : Good cs u (relax f w) := by
  rcases relax_cases f w with ⟨e, _⟩ | ⟨own, names, h1, e, h2⟩
  · rw [e]; exact g
  · rw [e]
    have hpos := hp w hw
    obtain ⟨hP, hN⟩ := g.path _ _ _ h1
    have hx : w.2.1 ∉ names := fun hm => by
      obtain ⟨d', p', e', l'⟩ := g.low _ _ _ h1 _ hm
      have := h2 d' p' e'
      omega
    have hu : u ≠ w.2.1 := fun e => by
      have := h2 0 [u] (by rw [← e]; exact g.at0)
      have := hP.nonneg hp
      omega
    refine ⟨?_, fun v d p h => ?_, fun v d p h x hm => ?_⟩
    · rw [look_put, if_neg hu]; exact g.at0
    · rw [look_put] at h
      by_cases hv : v = w.2.1
      · rw [if_pos hv] at h
        cases h
        subst hv
        refine ⟨.step hP hw, ?_⟩
        rw [List.nodup_append]
        refine ⟨hN, by simp, ?_⟩
        intro a ha b hb e
        have e2 : b = w.2.1 := by simpa using hb
        rw [e, e2] at ha
        exact hx ha
      · rw [if_neg hv] at h
        exact g.path v d p h
    · have key : ∀ x d', (∃ d2 p2, look f x = some (d2, p2) ∧ d2 ≤ d') → ∃ d2 p2, look (put f w.2.1 (own + w.2.2, names ++ [w.2.1])) x = some (d2, p2) ∧ d2 ≤ d' := by
        rintro x d' ⟨d2, p2, e2, l2⟩
        rw [look_put]
        by_cases hxe : x = w.2.1
        · subst hxe
          rw [if_pos rfl]
          have := h2 d2 p2 e2
          exact ⟨_, _, rfl, by omega⟩
        · rw [if_neg hxe]
          exact ⟨d2, p2, e2, l2⟩
      rw [look_put] at h
      by_cases hv : v = w.2.1
      · rw [if_pos hv] at h
        cases h
        rcases List.mem_append.mp hm with hm | hm
        · obtain ⟨d2, p2, e2, l2⟩ := g.low _ _ _ h1 x hm
          exact key x _ ⟨d2, p2, e2, by omega⟩
        · have e2 : x = w.2.1 := by simpa using hm
          subst e2
          rw [look_put, if_pos rfl]
          exact ⟨_, _, rfl, Int.le_refl _⟩
      · rw [if_neg hv] at h
        exact key x d (g.low v d p h x hm)
theorem fold_low : ∀ (l : Ways α) (f : Found α), Low f (l.foldl relax f)
  | [], f => .refl f
  | w :: l, f => (relax_low f w).trans (fold_low l _)
theorem fold_good (hp : Pos1 cs) : ∀ (l : Ways α) (f : Found α), (∀ w ∈ l, w ∈ cs) → Good cs u f → Good cs u (l.foldl relax f)
  | [], f, _, g => g
  | w :: l, f, h, g => fold_good hp l _ (fun w' hw => h w' (by simp [hw])) (relax_good hp (h w (by simp)) g)
/-- behind a round each way of a known name has been tried -/
theorem fold_tried : ∀ (l : Ways α) (f : Found α) (w : α × α × Int), w ∈ l → ∀ d p, look f w.1 = some (d, p) → ∃ d' p', look (l.foldl relax f) w.2.1 = some (d', p') ∧ d' ≤ d + w.2.2
  | [], _, _, hw, _, _, _ => by cases hw
  | w0 :: l, f, w, hw, d, p, h => by
    rcases List.mem_cons.mp hw with rfl | hw
    · have h1 : ∃ d' p', look (relax f w) w.2.1 = some (d', p') ∧ d' ≤ d + w.2.2 := by
        rcases relax_cases f w with ⟨e, h2⟩ | ⟨own, names, h1, e, h2⟩
        · rw [e]; exact h2 d p h
        · rw [h1] at h
          cases h
          rw [e, look_put, if_pos rfl]
          exact ⟨_, _, rfl, Int.le_refl _⟩
      obtain ⟨d1, p1, e1, l1⟩ := h1
      obtain ⟨d2, p2, e2, l2⟩ := fold_low l (relax f w) _ _ _ e1
      exact ⟨d2, p2, e2, by omega⟩
    · obtain ⟨d1, p1, e1, l1⟩ := relax_low f w0 _ _ _ h
      obtain ⟨d2, p2, e2, l2⟩ := fold_tried l (relax f w0) w hw _ _ e1
      exact ⟨d2, p2, e2, by omega⟩
theorem good0 : Good cs u [(u, (0, [u]))] where
  at0 := by rw [look_cons, if_pos rfl]
  path := fun v d p h => by
    rw [look_cons] at h
    by_cases e : u = v
    · rw [if_pos e] at h
      cases h
      subst e
      exact ⟨.start, by simp⟩
    · rw [if_neg e] at h; cases h
  low := fun v d p h x hm => by
    rw [look_cons] at h
    by_cases e : u = v
    · rw [if_pos e] at h
      cases h
      subst e
      have e2 : x = u := by simpa using hm
      subst e2
      exact ⟨0, [x], by rw [look_cons, if_pos rfl], Int.le_refl 0⟩
    · rw [if_neg e] at h; cases h
theorem rounds_good (hp : Pos1 cs) : ∀ n, Good cs u (rounds cs n [(u, (0, [u]))])
  | 0 => good0
  | n + 1 => fold_good hp cs _ (fun _ h => h) (rounds_good hp n)
theorem rounds_low : ∀ (n m : Nat) (f : Found α), Low (rounds cs n f) (rounds cs (n + m) f)
  | n, 0, f => .refl _
  | n, m + 1, f => (rounds_low n m f).trans (fold_low cs _)
theorem rounds_reach {v : α} {d : Int} {p : List α} (h : PathTo cs u v d p) : ∃ d' p', look (rounds cs (p.length - 1) [(u, (0, [u]))]) v = some (d', p') ∧ d' ≤ d := by
  induction h with
  | start => exact ⟨0, [u], good0 (cs := cs).at0, Int.le_refl 0⟩
  | @step v x d c p h hm ih =>
    obtain ⟨d', p', e, l⟩ := ih
    obtain ⟨d2, p2, e2, l2⟩ := fold_tried cs _ _ hm _ _ e
    have hl : 0 < p.length := List.length_pos_iff.mpr h.ne_nil
    have hlen : (p ++ [x]).length - 1 = (p.length - 1) + 1 := by simp; omega
    rw [hlen]
    exact ⟨d2, p2, e2, by simp only at l2; omega⟩
end

/-- r is the least cost of a path from u to v; none if there is none -/
def IsDist (cs : Ways α) (u v : α) : Option Int → Prop
  | none => ∀ d p, ¬ PathTo cs u v d p
  | some d => (∃ p, PathTo cs u v d p) ∧ ∀ d' p', PathTo cs u v d' p' → d ≤ d'
section
variable {cs : Ways α} {u v x : α}
theorem IsDist.one {r r' : Option Int} (h : IsDist cs u v r) (h' : IsDist cs u v r') : r = r' := by
  cases r with
  | none =>
    cases r' with
    | none => rfl
    | some d => obtain ⟨⟨p, hp⟩, _⟩ := h'; exact (h d p hp).elim
  | some d =>
    cases r' with
    | none => obtain ⟨⟨p, hp⟩, _⟩ := h; exact (h' d p hp).elim
    | some d' =>
      obtain ⟨⟨p, hp⟩, hl⟩ := h
      obtain ⟨⟨p', hp'⟩, hl'⟩ := h'
      have h1 := hl _ _ hp'
      have h2 := hl' _ _ hp
      have e : d = d' := by omega
      rw [e]
/-- THE THEOREM: what paths_from gives are the least costs, with paths -/
theorem paths_ok (hp : Pos1 cs) : (∀ d p, look (paths cs u) v = some (d, p) → PathTo cs u v d p ∧ p.Nodup ∧ ∀ d' p', PathTo cs u v d' p' → d ≤ d') ∧ (look (paths cs u) v = none → ∀ d p, ¬ PathTo cs u v d p) := by
  have reach : ∀ d' p', PathTo cs u v d' p' → ∃ d2 p2, look (paths cs u) v = some (d2, p2) ∧ d2 ≤ d' := fun d' p' h' => by
    obtain ⟨d1, p1, h1, hn, hle⟩ := h'.simple hp
    obtain ⟨d2, p2, e2, l2⟩ := rounds_reach h1
    have hlen := h1.length_le hn
    obtain ⟨d3, p3, e3, l3⟩ := rounds_low (cs := cs) (p1.length - 1) (cs.length + 1 - (p1.length - 1)) [(u, (0, [u]))] _ _ _ e2
    have e : p1.length - 1 + (cs.length + 1 - (p1.length - 1)) = cs.length + 1 := by omega
    rw [e] at e3
    exact ⟨d3, p3, e3, by omega⟩
  refine ⟨fun d p h => ?_, fun h d p h' => ?_⟩
  · obtain ⟨h1, h2⟩ := (rounds_good hp (cs.length + 1)).path v d p h
    refine ⟨h1, h2, fun d' p' h' => ?_⟩
    obtain ⟨d2, p2, e2, l2⟩ := reach d' p' h'
    rw [h] at e2
    cases e2
    exact l2
  · obtain ⟨d2, p2, e2, _⟩ := reach d p h'
    rw [h] at e2
    cases e2
theorem dist_ok (hp : Pos1 cs) : IsDist cs u v (dist cs u v) := by
  obtain ⟨h1, h2⟩ := paths_ok (u := u) (v := v) hp
  unfold dist
  cases h : look (paths cs u) v with
  | none => exact h2 h
  | some a =>
    obtain ⟨d, p⟩ := a
    obtain ⟨a1, _, a3⟩ := h1 d p h
    exact ⟨⟨p, a1⟩, a3⟩
theorem pos_turn (hp : Pos1 cs) : Pos1 (turn cs) := fun w hw => by
  obtain ⟨a, b, c⟩ := w
  exact hp (b, a, c) (mem_turn.mp hw)
theorem turn_turn : turn (turn cs) = cs := by
  unfold turn
  rw [List.map_map]
  have e : ((fun w : α × α × Int => (w.2.1, w.1, w.2.2)) ∘ fun w : α × α × Int => (w.2.1, w.1, w.2.2)) = id := by
    funext w; rfl
  rw [e, List.map_id]
theorem IsDist.turned {r : Option Int} (h : IsDist cs u v r) : IsDist (turn cs) v u r := by
  cases r with
  | none =>
    intro d p h'
    obtain ⟨q, hq⟩ := h'.turned
    rw [turn_turn] at hq
    exact h d q hq
  | some d =>
    obtain ⟨⟨p, h1⟩, h2⟩ := h
    refine ⟨h1.turned, fun d' p' h' => ?_⟩
    obtain ⟨q, hq⟩ := h'.turned
    rw [turn_turn] at hq
    exact h2 _ _ hq
/-- tables with the same members tell the same costs -/
theorem IsDist.congr {cs' : Ways α} {r : Option Int} (hm : ∀ w, w ∈ cs ↔ w ∈ cs') (h : IsDist cs u v r) : IsDist cs' u v r := by
  have to : ∀ {a b : Ways α} {d p}, (∀ w, w ∈ a → w ∈ b) → PathTo a u v d p → PathTo b u v d p := fun hs h0 => by
    clear h
    induction h0 with
    | start => exact .start
    | step _ hm ih => exact .step ih (hs _ hm)
  cases r with
  | none => exact fun d p h' => h d p (to (fun w => (hm w).mpr) h')
  | some d =>
    obtain ⟨⟨p, h1⟩, h2⟩ := h
    exact ⟨⟨p, to (fun w => (hm w).mp) h1⟩, fun d' p' h' => h2 _ _ (to (fun w => (hm w).mpr) h')⟩
theorem dist_turn {cs' : Ways α} (hp : Pos1 cs) (hm : ∀ w, w ∈ cs' ↔ w ∈ turn cs) : dist cs' v u = dist cs u v := by
  have hp' : Pos1 cs' := fun w hw => pos_turn hp w ((hm w).mp hw)
  exact (dist_ok hp').one ((dist_ok hp).turned.congr fun w => (hm w).symm)
/-- a way is no cheaper than is told -/
theorem dist_way (hp : Pos1 cs) {c : Int} (hm : (u, v, c) ∈ cs) : ∃ d, dist cs u v = some d ∧ d ≤ c := by
  have h := dist_ok (u := u) (v := v) hp
  cases e : dist cs u v with
  | none => rw [e] at h; exact (h _ _ (PathTo.one hm)).elim
  | some d => rw [e] at h; exact ⟨d, rfl, h.2 _ _ (PathTo.one hm)⟩
/-- nor is a path over a third name -/
theorem dist_over (hp : Pos1 cs) {a b : Int} (h1 : dist cs u v = some a) (h2 : dist cs v x = some b) : ∃ d, dist cs u x = some d ∧ d ≤ a + b := by
  have d1 := dist_ok (u := u) (v := v) hp
  have d2 := dist_ok (u := v) (v := x) hp
  have d3 := dist_ok (u := u) (v := x) hp
  rw [h1] at d1
  rw [h2] at d2
  obtain ⟨⟨p, hp1⟩, _⟩ := d1
  obtain ⟨⟨q, hq⟩, _⟩ := d2
  obtain ⟨z, hz⟩ := hp1.append hq
  cases e : dist cs u x with
  | none => rw [e] at d3; exact (d3 _ _ hz).elim
  | some d => rw [e] at d3; exact ⟨d, rfl, d3.2 _ _ hz⟩
/-- nor does it grow where ways are added or get cheaper -/
theorem dist_mono {cs' : Ways α} (hp : Pos1 cs) (hp' : Pos1 cs') (hs : ∀ w ∈ cs, ∃ c', (w.1, w.2.1, c') ∈ cs' ∧ c' ≤ w.2.2) {a : Int} (h1 : dist cs u v = some a) : ∃ d, dist cs' u v = some d ∧ d ≤ a := by
  have d1 := dist_ok (u := u) (v := v) hp
  have d2 := dist_ok (u := u) (v := v) hp'
  rw [h1] at d1
  obtain ⟨⟨p, h⟩, _⟩ := d1
  obtain ⟨d', h', hle⟩ := h.mono hs
  cases e : dist cs' u v with
  | none => rw [e] at d2; exact (d2 _ _ h').elim
  | some d =>
    rw [e] at d2
    have := d2.2 _ _ h'
    exact ⟨d, rfl, by omega⟩
end
end Kp
/-! What least_costs reckons, in plain Lean, over names with an order. No program here. -/
namespace Kl
variable {α : Type} [DecidableEq α]

/-- a strict order of all things -/
structure SLO {β : Type} (lt : β → β → Bool) : Prop where
  irr : ∀ a, lt a a = false
  trans : ∀ a b c, lt a b = true → lt b c = true → lt a c = true
  tri : ∀ a b, lt a b = true ∨ a = b ∨ lt b a = true
section
variable {β γ : Type} {lt : β → β → Bool} {lt' : γ → γ → Bool}
theorem SLO.asym (h : SLO lt) {a b : β} (x : lt a b = true) : lt b a = false := by
  cases e : lt b a with
  | false => rfl
  | true => have := h.trans a b a x e; rw [h.irr] at this; cases this
/-- by the first, then by the second -/
def lexB [DecidableEq β] (lt : β → β → Bool) (lt' : γ → γ → Bool) (p q : β × γ) : Bool := if p.1 = q.1 then lt' p.2 q.2 else lt p.1 q.1
theorem SLO.lex [DecidableEq β] (h : SLO lt) (h' : SLO lt') : SLO (lexB lt lt') where
  irr := fun a => by unfold lexB; rw [if_pos rfl, h'.irr]
  trans := fun a b c x y => by
    unfold lexB at *
    by_cases e1 : a.1 = b.1
    · rw [if_pos e1] at x
      by_cases e2 : b.1 = c.1
      · rw [if_pos e2] at y
        rw [if_pos (e1.trans e2)]
        exact h'.trans _ _ _ x y
      · rw [if_neg e2] at y
        rw [e1, if_neg e2]
        exact y
    · rw [if_neg e1] at x
      by_cases e2 : b.1 = c.1
      · rw [← e2, if_neg e1]
        exact x
      · rw [if_neg e2] at y
        have e3 : ¬ a.1 = c.1 := fun e => by
          rw [e] at x
          have := h.asym x
          rw [this] at y
          cases y
        rw [if_neg e3]
        exact h.trans _ _ _ x y
  tri := fun a b => by
    unfold lexB
    by_cases e : a.1 = b.1
    · rw [if_pos e, if_pos e.symm]
      rcases h'.tri a.2 b.2 with z | z | z
      · exact .inl z
      · exact .inr (.inl (Prod.ext e z))
      · exact .inr (.inr z)
    · rw [if_neg e, if_neg (fun z => e z.symm)]
      rcases h.tri a.1 b.1 with z | z | z
      · exact .inl z
      · exact (e z).elim
      · exact .inr (.inr z)
theorem slo_int : SLO (fun a b : Int => decide (a < b)) where
  irr := fun a => by simp
  trans := fun a b c x y => by simp at *; omega
  tri := fun a b => by simp; omega
/-- two lists in order with the same members are one -/
theorem sorted_ext (h : SLO lt) : ∀ {l m : List β}, l.Pairwise (fun a b => lt a b = true) → m.Pairwise (fun a b => lt a b = true) → (∀ a, a ∈ l ↔ a ∈ m) → l = m
  | [], [], _, _, _ => rfl
  | [], b :: m, _, _, e => absurd ((e b).mpr (by simp)) (by simp)
  | a :: l, [], _, _, e => absurd ((e a).mp (by simp)) (by simp)
  | a :: l, b :: m, hl, hm, e => by
    rw [List.pairwise_cons] at hl hm
    have hab : a = b := by
      rcases List.mem_cons.mp ((e a).mp (by simp)) with z | z
      · exact z
      · rcases List.mem_cons.mp ((e b).mpr (by simp)) with y | y
        · exact y.symm
        · have z1 := hm.1 a z
          have z2 := hl.1 b y
          rw [h.asym z1] at z2
          cases z2
    subst hab
    have e' : ∀ x, x ∈ l ↔ x ∈ m := fun x => by
      have q := e x
      constructor
      · intro hx
        rcases List.mem_cons.mp (q.mp (List.mem_cons_of_mem _ hx)) with z | z
        · subst z
          have := hl.1 x hx
          rw [h.irr] at this; cases this
        · exact z
      · intro hx
        rcases List.mem_cons.mp (q.mpr (List.mem_cons_of_mem _ hx)) with z | z
        · subst z
          have := hm.1 x hx
          rw [h.irr] at this; cases this
        · exact z
    rw [sorted_ext h hl.2 hm.2 e']
theorem sort_le (h : SLO lt) (l : List β) : (l.mergeSort fun a b => !lt b a).Pairwise (fun a b => lt b a = false) := by
  have := List.pairwise_mergeSort (le := fun a b => !lt b a) (fun a b c x y => by
    simp only [Bool.not_eq_true'] at *
    cases e : lt c a with
    | false => rfl
    | true =>
      rcases h.tri a b with z | z | z
      · have q := h.trans _ _ _ e z
        rw [y] at q; cases q
      · subst z
        rw [y] at e; cases e
      · rw [x] at z; cases z) (fun a b => by
      cases e : lt b a with
      | false => simp
      | true => simp [h.asym e]) l
  exact this.imp fun {a b} z => by simpa using z
theorem sort_ge (h : SLO lt) (l : List β) : (l.mergeSort fun a b => !lt a b).Pairwise (fun a b => lt a b = false) := by
  have := List.pairwise_mergeSort (le := fun a b => !lt a b) (fun a b c x y => by
    simp only [Bool.not_eq_true'] at *
    cases e : lt a c with
    | false => rfl
    | true =>
      rcases h.tri b c with z | z | z
      · rw [y] at z; cases z
      · subst z
        rw [x] at e; cases e
      · have q := h.trans _ _ _ e z
        rw [x] at q; cases q) (fun a b => by
      cases e : lt a b with
      | false => simp
      | true => simp [h.asym e]) l
  exact this.imp fun {a b} z => by simpa using z
/-- a list without repeats, sorted, is in strict order -/
theorem sort_strict (h : SLO lt) {l : List β} (hn : l.Nodup) : (l.mergeSort fun a b => !lt b a).Pairwise (fun a b => lt a b = true) := by
  have p := List.mergeSort_perm l (fun a b => !lt b a)
  have n : (l.mergeSort fun a b => !lt b a).Nodup := p.symm.nodup hn
  have := List.Pairwise.and n (sort_le h l)
  refine this.imp fun {a b} z => ?_
  rcases h.tri a b with y | y | y
  · exact y
  · exact (z.1 y).elim
  · rw [z.2] at y; cases y
end

/-! ### dicts -/
section
variable {κ : Type} [DecidableEq κ]
def look (f : List (κ × Int)) (k : κ) : Option Int := (f.find? fun kv => decide (kv.1 = k)).map (·.2)
def put (f : List (κ × Int)) (k : κ) (c : Int) : List (κ × Int) := if (f.any fun kv => decide (kv.1 = k)) = true then f.map (fun kv => if kv.1 = k then (kv.1, c) else kv) else f ++ [(k, c)]
theorem look_cons (k : κ) (c : Int) (f : List (κ × Int)) (j : κ) : look ((k, c) :: f) j = if k = j then some c else look f j := by
  unfold look
  rw [List.find?_cons]
  by_cases h : k = j
  · simp [h]
  · simp [h]
theorem any_look (f : List (κ × Int)) (k : κ) : (f.any fun kv => decide (kv.1 = k)) = (look f k).isSome := by
  induction f with
  | nil => rfl
  | cons kv f ih =>
    obtain ⟨j, c⟩ := kv
    rw [List.any_cons, look_cons, ih]
    by_cases h : j = k
    · simp [h]
    · simp [h]
theorem look_put (f : List (κ × Int)) (k : κ) (c : Int) (j : κ) : look (put f k c) j = if j = k then some c else look f j := by
  have hm : ∀ g : List (κ × Int), look (g.map fun kv => if kv.1 = k then (kv.1, c) else kv) j = (look g j).map fun x => if j = k then c else x := by
    intro g
    induction g with
    | nil => rfl
    | cons kv g ih =>
      obtain ⟨i, x⟩ := kv
      rw [List.map_cons]
      by_cases h : i = k
      · rw [if_pos h, look_cons, look_cons, ih]
        by_cases h2 : i = j
        · have h3 : j = k := h2.symm.trans h
          simp [h2, h3]
        · simp [h2]
      · rw [if_neg h, look_cons, look_cons, ih]
        by_cases h2 : i = j
        · have h3 : ¬ j = k := fun e => h (h2.trans e)
          simp [h2, h3]
        · simp [h2]
  have ha : ∀ g : List (κ × Int), look g k = none → look (g ++ [(k, c)]) j = if j = k then some c else look g j := by
    intro g
    induction g with
    | nil =>
      intro _
      rw [List.nil_append, look_cons]
      by_cases h : k = j
      · simp [h]
      · have h2 : ¬ j = k := fun e => h e.symm
        simp [h, h2]
    | cons kv g ih =>
      obtain ⟨i, x⟩ := kv
      intro hg
      rw [look_cons] at hg
      by_cases h : i = k
      · simp [h] at hg
      · rw [if_neg h] at hg
        rw [List.cons_append, look_cons, look_cons, ih hg]
        by_cases h2 : i = j
        · have h3 : ¬ j = k := fun e => h (h2.trans e)
          simp [h2, h3]
        · simp [h2]
  unfold put
  rw [any_look]
  by_cases h : (look f k).isSome = true
  · rw [if_pos h, hm]
    by_cases e : j = k
    · subst e
      obtain ⟨y, hy⟩ := Option.isSome_iff_exists.mp h
      simp [hy]
    · simp [e]
  · rw [if_neg h]
    exact ha f (by simpa using h)
theorem put_keys (f : List (κ × Int)) (k : κ) (c : Int) : (put f k c).map (·.1) = if (look f k).isSome = true then f.map (·.1) else f.map (·.1) ++ [k] := by
  unfold put
  rw [any_look]
  split
  · rw [List.map_map]
    congr 1
    funext kv
    simp only [Function.comp]
    split <;> rfl
  · simp
theorem look_none {f : List (κ × Int)} {k : κ} : look f k = none ↔ k ∉ f.map (·.1) := by
  induction f with
  | nil => simp [look]
  | cons kv f ih =>
    obtain ⟨i, x⟩ := kv
    rw [look_cons]
    by_cases h : i = k
    · simp [h]
    · rw [if_neg h, ih]
      simp only [List.map_cons, List.mem_cons]
      constructor
      · rintro q (e | e)
        · exact h e.symm
        · exact q e
      · exact fun q e => q (.inr e)
theorem put_nodup {f : List (κ × Int)} (k : κ) (c : Int) (h : (f.map (·.1)).Nodup) : ((put f k c).map (·.1)).Nodup := by
  rw [put_keys]
  split
  · exact h
  · rename_i hn
    rw [List.nodup_append]
    refine ⟨h, by simp, ?_⟩
    intro a ha b hb e
    have e2 : b = k := by simpa using hb
    subst e e2
    exact look_none.mp (by simpa using hn) ha
theorem mem_look {f : List (κ × Int)} (h : (f.map (·.1)).Nodup) (k : κ) (c : Int) : (k, c) ∈ f ↔ look f k = some c := by
  induction f with
  | nil => simp [look]
  | cons kv f ih =>
    obtain ⟨i, x⟩ := kv
    rw [List.map_cons, List.nodup_cons] at h
    rw [look_cons, List.mem_cons, ih h.2]
    by_cases e : i = k
    · subst e
      rw [if_pos rfl]
      have hn : look f i = none := look_none.mpr h.1
      rw [hn]
      simp [eq_comm]
    · rw [if_neg e]
      constructor
      · rintro (q | q)
        · cases q; exact (e rfl).elim
        · exact q
      · exact .inr
end

/-! ### the table of least costs -/
section
variable {lt : α → α → Bool}
/-- the order of ways -/
def lt3 (lt : α → α → Bool) : α × α × Int → α × α × Int → Bool := lexB lt (lexB lt fun a b : Int => decide (a < b))
/-- the order of pairs of names -/
def lt2 (lt : α → α → Bool) : α × α → α × α → Bool := lexB lt lt
theorem slo3 (h : SLO lt) : SLO (lt3 lt) := h.lex (h.lex slo_int)
theorem slo2 (h : SLO lt) : SLO (lt2 lt) := h.lex h
def pr (w : α × α × Int) : α × α := (w.1, w.2.1)
def knownOf (l : List (α × α × Int)) : List ((α × α) × Int) := l.foldl (fun f w => put f (pr w) w.2.2) []
def rowOf (e : (α × α) × Int) : α × α × Int := (e.1.1, e.1.2, e.2)
/-- what least_costs gives of a tuple of costs by form -/
def least (lt : α → α → Bool) (cs : List (α × α × Int)) : List (α × α × Int) := ((knownOf (cs.mergeSort fun a b => !lt3 lt a b)).map rowOf).mergeSort fun a b => !lt3 lt b a
/-- a table: ascending, no pair twice -/
def Tab (lt : α → α → Bool) (cs : List (α × α × Int)) : Prop := cs.Pairwise fun a b => lt2 lt (pr a) (pr b) = true

theorem known_nodup : ∀ (l : List (α × α × Int)) (f : List ((α × α) × Int)), (f.map (·.1)).Nodup → ((l.foldl (fun f w => put f (pr w) w.2.2) f).map (·.1)).Nodup
  | [], _, h => h
  | w :: l, f, h => known_nodup l _ (put_nodup _ _ h)
/-- the last cost of a pair stands -/
theorem known_look : ∀ (l : List (α × α × Int)) (f : List ((α × α) × Int)) (k : α × α), l.Pairwise (fun a b => lt3 lt a b = false) → (∀ c, look f k = some c → ∀ w ∈ l, pr w = k → w.2.2 ≤ c) → SLO lt →
    ∀ c, look (l.foldl (fun f w => put f (pr w) w.2.2) f) k = some c ↔ ((look f k = some c ∨ (k.1, k.2, c) ∈ l) ∧ ∀ w ∈ l, pr w = k → c ≤ w.2.2)
  | [], f, k, _, _, _, c => by simp
  | w :: l, f, k, hl, hf, hs, c => by
    rw [List.pairwise_cons] at hl
    have hlow : ∀ w' ∈ l, pr w' = pr w → w'.2.2 ≤ w.2.2 := fun w' hw' e => by
      have h := hl.1 w' hw'
      unfold lt3 lexB at h
      unfold pr at e
      obtain ⟨e1, e2⟩ := Prod.mk.inj e
      rw [if_pos e1.symm, if_pos e2.symm] at h
      simpa using h
    have ih := known_look l (put f (pr w) w.2.2) k hl.2 (fun c' hc' w' hw' e => by
      rw [look_put] at hc'
      by_cases hk : k = pr w
      · rw [if_pos hk] at hc'
        cases hc'
        exact hlow w' hw' (e.trans hk)
      · rw [if_neg hk] at hc'
        exact hf c' hc' w' (List.mem_cons_of_mem _ hw') e) hs c
    rw [List.foldl_cons, ih, look_put]
    by_cases hk : k = pr w
    · rw [if_pos hk]
      constructor
      · rintro ⟨h1, h2⟩
        refine ⟨.inr ?_, fun w' hw' e => ?_⟩
        · rcases h1 with h1 | h1
          · cases h1
            subst hk
            exact List.mem_cons_self
          · exact List.mem_cons_of_mem _ h1
        · rcases List.mem_cons.mp hw' with rfl | hw'
          · rcases h1 with h1 | h1
            · cases h1; exact Int.le_refl _
            · exact hlow _ h1 hk
          · exact h2 w' hw' e
      · rintro ⟨h1, h2⟩
        refine ⟨?_, fun w' hw' e => h2 w' (List.mem_cons_of_mem _ hw') e⟩
        rcases h1 with h1 | h1
        · left
          have a1 := hf c h1 w List.mem_cons_self hk.symm
          have a2 := h2 w List.mem_cons_self hk.symm
          have e : w.2.2 = c := by omega
          rw [e]
        · rcases List.mem_cons.mp h1 with e | h1
          · left; rw [← e]
          · exact .inr h1
    · rw [if_neg hk]
      constructor
      · rintro ⟨h1, h2⟩
        refine ⟨h1.imp id (List.mem_cons_of_mem _), fun w' hw' e => ?_⟩
        rcases List.mem_cons.mp hw' with rfl | hw'
        · exact (hk e.symm).elim
        · exact h2 w' hw' e
      · rintro ⟨h1, h2⟩
        refine ⟨?_, fun w' hw' e => h2 w' (List.mem_cons_of_mem _ hw') e⟩
        rcases h1 with h1 | h1
        · exact .inl h1
        · rcases List.mem_cons.mp h1 with e | h1
          · exact (hk (by rw [← e]; rfl)).elim
          · exact .inr h1
/-- THE THEOREM: of each pair the least cost -/
theorem mem_least (hs : SLO lt) {cs : List (α × α × Int)} {a b : α} {c : Int} : (a, b, c) ∈ least lt cs ↔ (a, b, c) ∈ cs ∧ ∀ c', (a, b, c') ∈ cs → c ≤ c' := by
  unfold least
  rw [List.mem_mergeSort, List.mem_map]
  have p := List.mergeSort_perm cs (fun a b => !lt3 lt a b)
  have key := known_look (lt := lt) (cs.mergeSort fun a b => !lt3 lt a b) [] (a, b) (sort_ge (slo3 hs) cs) (fun c h => by simp [look] at h) hs c
  have nd := known_nodup (cs.mergeSort fun a b => !lt3 lt a b) [] (by simp)
  constructor
  · rintro ⟨⟨⟨x, y⟩, z⟩, h, e⟩
    unfold rowOf at e
    simp only [Prod.mk.injEq] at e
    obtain ⟨rfl, rfl, rfl⟩ := e
    obtain ⟨h1, h2⟩ := key.mp ((mem_look nd _ _).mp h)
    rcases h1 with h1 | h1
    · simp [look] at h1
    · exact ⟨p.mem_iff.mp h1, fun c' hc' => h2 (x, y, c') (p.mem_iff.mpr hc') rfl⟩
  · rintro ⟨h1, h2⟩
    refine ⟨((a, b), c), (mem_look nd _ _).mpr (key.mpr ⟨.inr (p.mem_iff.mpr h1), ?_⟩), rfl⟩
    rintro ⟨x, y, z⟩ hw e
    unfold pr at e
    simp only [Prod.mk.injEq] at e
    obtain ⟨rfl, rfl⟩ := e
    exact h2 z (p.mem_iff.mp hw)
theorem least_tab (hs : SLO lt) (cs : List (α × α × Int)) : Tab lt (least lt cs) := by
  have nd := known_nodup (cs.mergeSort fun a b => !lt3 lt a b) [] (by simp)
  have nr : ((knownOf (cs.mergeSort fun a b => !lt3 lt a b)).map rowOf).Nodup := by
    have n1 : (knownOf (cs.mergeSort fun a b => !lt3 lt a b)).Pairwise (fun x y => x.1 ≠ y.1) := List.pairwise_map.mp nd
    refine List.pairwise_map.mpr (n1.imp fun {x y} h e => h ?_)
    unfold rowOf at e
    simp only [Prod.mk.injEq] at e
    exact Prod.ext e.1 e.2.1
  have st := sort_strict (slo3 hs) nr
  have mem := fun (w : α × α × Int) (h : w ∈ ((knownOf (cs.mergeSort fun a b => !lt3 lt a b)).map rowOf).mergeSort fun a b => !lt3 lt b a) => h
  unfold Tab
  have hfun : ∀ w w', w ∈ least lt cs → w' ∈ least lt cs → pr w = pr w' → w = w' := by
    rintro ⟨a, b, c⟩ ⟨a', b', c'⟩ h h' e
    unfold pr at e
    simp only [Prod.mk.injEq] at e
    obtain ⟨rfl, rfl⟩ := e
    obtain ⟨h1, h2⟩ := (mem_least hs).mp h
    obtain ⟨h3, h4⟩ := (mem_least hs).mp h'
    have := h2 c' h3
    have := h4 c h1
    have e : c = c' := by omega
    rw [e]
  refine List.Pairwise.imp_of_mem (fun {w w'} hw hw' h => ?_) (show (least lt cs).Pairwise (fun a b => lt3 lt a b = true) from st)
  unfold lt3 lexB at h
  unfold lt2 lexB pr
  by_cases e1 : w.1 = w'.1
  · rw [if_pos e1] at h
    simp only [e1, if_true]
    by_cases e2 : w.2.1 = w'.2.1
    · have e3 := hfun w w' hw hw' (by unfold pr; rw [e1, e2])
      subst e3
      simp at h
    · rw [if_neg e2] at h
      exact h
  · rw [if_neg e1] at h
    simp only [if_neg e1]
    exact h
theorem Tab.ext (hs : SLO lt) {l m : List (α × α × Int)} (hl : Tab lt l) (hm : Tab lt m) (e : ∀ a b c, (a, b, c) ∈ l ↔ (a, b, c) ∈ m) : l = m := by
  have up : ∀ {l : List (α × α × Int)}, Tab lt l → l.Pairwise (fun a b => lt3 lt a b = true) := fun h => h.imp fun {w w'} h => by
    unfold lt2 lexB pr at h
    unfold lt3 lexB
    by_cases e1 : w.1 = w'.1
    · simp only [e1, if_true] at h ⊢
      by_cases e2 : w.2.1 = w'.2.1
      · rw [e2, hs.irr] at h; cases h
      · rw [if_neg e2]; exact h
    · simp only [if_neg e1] at h ⊢
      exact h
  exact sorted_ext (slo3 hs) (up hl) (up hm) fun ⟨a, b, c⟩ => e a b c
theorem Tab.pairs (hs : SLO lt) {l : List (α × α × Int)} (h : Tab lt l) : (l.map pr).Pairwise (fun a b => lt2 lt a b = true) := List.pairwise_map.mpr h
/-- a pair has one cost -/
theorem Tab.fn (hs : SLO lt) {l : List (α × α × Int)} (h : Tab lt l) {a b : α} {c c' : Int} (h1 : (a, b, c) ∈ l) (h2 : (a, b, c') ∈ l) : c = c' := by
  induction l with
  | nil => cases h1
  | cons w l ih =>
    unfold Tab at h
    rw [List.pairwise_cons] at h
    have no : ∀ {x y : Int}, w = (a, b, x) → (a, b, y) ∈ l → False := fun {x y} e hm => by
      have := h.1 _ hm
      rw [e] at this
      unfold pr at this
      have q := (slo2 hs).irr (a, b)
      simp only at this
      rw [q] at this
      cases this
    rcases List.mem_cons.mp h1 with e1 | m1
    · rcases List.mem_cons.mp h2 with e2 | m2
      · rw [← e1] at e2; cases e2; rfl
      · exact (no e1.symm m2).elim
    · rcases List.mem_cons.mp h2 with e2 | m2
      · exact (no e2.symm m1).elim
      · exact ih h.2 m1 m2
theorem Tab.nil : Tab lt ([] : List (α × α × Int)) := List.Pairwise.nil
/-- where each pair has one cost, least keeps all -/
theorem mem_least_of (hs : SLO lt) {cs : List (α × α × Int)} (hf : ∀ a b c c', (a, b, c) ∈ cs → (a, b, c') ∈ cs → c = c') {a b : α} {c : Int} : (a, b, c) ∈ least lt cs ↔ (a, b, c) ∈ cs := by
  rw [mem_least hs]
  exact ⟨fun h => h.1, fun h => ⟨h, fun c' h' => by rw [hf a b c c' h h']; exact Int.le_refl _⟩⟩
theorem least_self (hs : SLO lt) {l : List (α × α × Int)} (h : Tab lt l) : least lt l = l :=
  (least_tab hs l).ext hs h fun a b c => mem_least_of hs fun a b c c' => h.fn hs
theorem least_least (hs : SLO lt) (l m : List (α × α × Int)) : least lt (least lt l ++ m) = least lt (l ++ m) := by
  refine (least_tab hs _).ext hs (least_tab hs _) fun a b c => ?_
  rw [mem_least hs, mem_least hs]
  have low : ∀ c, (a, b, c) ∈ l → ∃ c', (a, b, c') ∈ least lt l ∧ c' ≤ c := by
    intro c
    -- the least of finitely many
    have fin : ∀ (n : List (α × α × Int)), (∃ c, (a, b, c) ∈ n) → ∃ c, (a, b, c) ∈ n ∧ ∀ c', (a, b, c') ∈ n → c ≤ c' := by
      intro n
      induction n with
      | nil => rintro ⟨c, h⟩; cases h
      | cons w n ih =>
        rintro ⟨c, h⟩
        by_cases hn : ∃ c, (a, b, c) ∈ n
        · obtain ⟨c1, h1, h2⟩ := ih hn
          by_cases hw : ∃ x, w = (a, b, x) ∧ x < c1
          · obtain ⟨x, rfl, hx⟩ := hw
            refine ⟨x, List.mem_cons_self, fun c' h' => ?_⟩
            rcases List.mem_cons.mp h' with e | h'
            · cases e; exact Int.le_refl _
            · have := h2 c' h'; omega
          · refine ⟨c1, List.mem_cons_of_mem _ h1, fun c' h' => ?_⟩
            rcases List.mem_cons.mp h' with e | h'
            · have : ¬ c' < c1 := fun z => hw ⟨c', e.symm, z⟩
              omega
            · exact h2 c' h'
        · rcases List.mem_cons.mp h with e | h
          · refine ⟨c, List.mem_cons.mpr (.inl e), fun c' h' => ?_⟩
            rcases List.mem_cons.mp h' with e' | h'
            · rw [← e] at e'; cases e'; exact Int.le_refl _
            · exact (hn ⟨c', h'⟩).elim
          · exact (hn ⟨c, h⟩).elim
    intro h
    obtain ⟨c0, h0, hle⟩ := fin l ⟨c, h⟩
    exact ⟨c0, (mem_least hs).mpr ⟨h0, hle⟩, hle c h⟩
  constructor
  · rintro ⟨h1, h2⟩
    refine ⟨?_, fun c' h' => ?_⟩
    · rcases List.mem_append.mp h1 with h1 | h1
      · exact List.mem_append_left _ ((mem_least hs).mp h1).1
      · exact List.mem_append_right _ h1
    · rcases List.mem_append.mp h' with h' | h'
      · obtain ⟨c0, h0, hle⟩ := low c' h'
        have := h2 c0 (List.mem_append_left _ h0)
        omega
      · exact h2 c' (List.mem_append_right _ h')
  · rintro ⟨h1, h2⟩
    refine ⟨?_, fun c' h' => ?_⟩
    · rcases List.mem_append.mp h1 with h1 | h1
      · exact List.mem_append_left _ ((mem_least hs).mpr ⟨h1, fun c' h' => h2 c' (List.mem_append_left _ h')⟩)
      · exact List.mem_append_right _ h1
    · rcases List.mem_append.mp h' with h' | h'
      · exact h2 c' (List.mem_append_left _ ((mem_least hs).mp h').1)
      · exact h2 c' (List.mem_append_right _ h')
/-- only the members count -/
theorem least_congr (hs : SLO lt) {l m : List (α × α × Int)} (h : ∀ w, w ∈ l ↔ w ∈ m) : least lt l = least lt m := by
  refine (least_tab hs _).ext hs (least_tab hs _) fun a b c => ?_
  rw [mem_least hs, mem_least hs, h]
  exact and_congr_right fun _ => forall_congr' fun c' => by rw [h]
end
end Kl
/-! The text by places, what of the top is used, and words on heaps. -/
namespace Ku
open PySem L2
def top (i : Nat) : Stmt := PySem.Challenge.pw_unbooked_k11_whole_tables.main.body.getD i (.Pass ⟨0, 0, 0, 0⟩)
abbrev sInteger : Stmt := top 7
abbrev sNumber : Stmt := top 8
abbrev sAmount : Stmt := top 9
abbrev sName : Stmt := top 10
abbrev sTwo : Stmt := top 11
abbrev sCost : Stmt := top 12
abbrev sAreCosts : Stmt := top 13
abbrev sLeast : Stmt := top 15
abbrev sPaths : Stmt := top 17
abbrev sInit : Stmt := inClass (top 18) 1
abbrev sPath : Stmt := inClass (top 18) 2
abbrev sTurned : Stmt := inClass (top 18) 3
abbrev sCall : Stmt := inClass (top 18) 4
abbrev sIter : Stmt := inClass (top 18) 5
abbrev sLen : Stmt := inClass (top 18) 6
abbrev sContains : Stmt := inClass (top 18) 7
abbrev sGetitem : Stmt := inClass (top 18) 8
abbrev sOr : Stmt := inClass (top 18) 9
abbrev sEq : Stmt := inClass (top 18) 10
abbrev sFeed : Stmt := top 20
abbrev sDraw : Stmt := top 21
abbrev sTable : Stmt := top 22
abbrev sPathRight : Stmt := top 23
abbrev sPathsRight : Stmt := top 24
abbrev sTwoRight : Stmt := top 25
abbrev sLaw : Stmt := top 26

def letters : Str := "abcdefghijklmnopqrstuvwxyz"
/-- built-in names that the module does not bind, and its constants -/
structure Glb (mg : Str → Option Value) : Prop where
  isinstance : mg "isinstance" = none
  int : mg "int" = none
  bool : mg "bool" = none
  str : mg "str" = none
  tuple : mg "tuple" = none
  list : mg "list" = none
  len : mg "len" = none
  all : mg "all" = none
  sorted : mg "sorted" = none
  range : mg "range" = none
  enumerate : mg "enumerate" = none
  iter : mg "iter" = none
  repr : mg "repr" = none
  set : mg "set" = none
  sum : mg "sum" = none
  min : mg "min" = none
  letters : ∃ t, mg "LETTERS" = some (.str letters t)
  longest : ∃ t, mg "LONGEST" = some (.int 8 t)

/-- a way with its cost: its names, its cost -/
abbrev Way := Str × Str × Int
/-- a name by form -/
def NameOk (z : Str) : Prop := 1 ≤ z.length ∧ z.length ≤ 8 ∧ ∀ c ∈ z.cps.toList, c ∈ letters.cps.toList
structure WayOk (w : Way) : Prop where
  one : NameOk w.1
  other : NameOk w.2.1
  ne : w.1 ≠ w.2.1
  pos : 1 ≤ w.2.2
/-- the items of a cost's tuple -/
def wayV (w : Way) : List V := [.str w.1, .str w.2.1, .int w.2.2]
/-- at p stands the tuple of the way w -/
def RowAt (H : Hp) (p : Addr) (w : Way) : Prop := H p = some (.tup (wayV w))
abbrev RowsAt (H : Hp) : List Addr → List Way → Prop := Paired (RowAt H)
/-- at t stands a tuple of the costs cs -/
def TabAt (H : Hp) (t : Addr) (cs : List Way) : Prop := ∃ ps : List Addr, ps.length ≤ 1000 ∧ H t = some (.tup (ps.map V.ref)) ∧ RowsAt H ps cs
theorem RowAt.same {H H' : Hp} (s : Same H H') {p : Addr} {w : Way} (h : RowAt H p w) : RowAt H' p w := s _ _ h
theorem RowsAt.same {H H' : Hp} (s : Same H H') {ps : List Addr} {ws : List Way} (h : RowsAt H ps ws) : RowsAt H' ps ws := Paired.mapP h fun _ _ r => r.same s
theorem TabAt.same {H H' : Hp} (s : Same H H') {t : Addr} {cs : List Way} (h : TabAt H t cs) : TabAt H' t cs := let ⟨ps, h0, h1, h2⟩ := h; ⟨ps, h0, s _ _ h1, h2.same s⟩
theorem paired_get {α β : Type} {F : α → β → Prop} : ∀ {l : List α} {m : List β} {i : Nat} {x : α}, Paired F l m → l[i]? = some x → ∃ y, m[i]? = some y ∧ F x y
  | _, _, _, _, .nil, e => by simp at e
  | _, _, 0, _, .cons r _, e => by simp at e; subst e; exact ⟨_, rfl, r⟩
  | _, _, i + 1, x, .cons _ t, e => by
    obtain ⟨u, h1, h2⟩ := paired_get (i := i) (x := x) t (by simpa using e)
    exact ⟨u, by simpa using h1, h2⟩
theorem Same.upd {H : Hp} {a : Addr} {o : HO} (n : H a = Option.none) : Same H (upd H a o) := fun b u e => by
  rw [upd_ne (ne_of_none e n)]
  exact e
theorem Same.upd2 {H H' : Hp} (s : Same H H') {a : Addr} {o : HO} (n : H' a = Option.none) : Same H (L2.upd H' a o) := s.trans (Same.upd n)

/-- a def of the module that keeps its promise -/
structure Def (P : Program) (w : World) (K : PySem.W.Frag) (mg : Str → Option Value) (base : Heap) (x : Str) (k : Nat) (ps : List Str) (sp : Sp) : Prop where
  ex : ∃ f fd, mg x = some (.ref f) ∧ PySem.W.keepIn K (.ref f) = true ∧ FnOk P w K mg base CX0 k f fd ps sp ∧ Binds K fd ps []
/-- its call -/
theorem pe_def {X : Cx} {k : Nat} {ps : List Str} {sp : Sp} {x : Str} {p pos : Pos} {e : Expr} {es : List Expr} {t : TA} (D : Def X.prog X.w X.K X.mg X.base x k ps sp) (hr : Room k X.A) (ha : PA X (e :: es) t) (hg : Gl X x := by rfl) (hd : (x == ("__debug__" : Str)) = false := by decide)
    (he : starEach (e :: es) X.env = (false, eval e X.env) :: starEach es X.env := by rfl) (hpl : (backTo pos (starEach es X.env)).any (·.1) = false := by rfl) : PE X (.Call (.Name x p) (e :: es) [] pos) (tCall sp [] E0 t) :=
  let ⟨_, _, g, kp, F, b⟩ := D.ex
  pe_call F hr hg g kp b .nil pass0 ha hd he hpl
end Ku
/-! is_integer .. are_costs. -/
namespace Ku
open PySem L2
section
variable {P : Program} {w : World} {K : PySem.W.Frag} {mg : Str → Option Value} {base : Heap}

/-! ### the promises -/
def spInteger : Sp := fun vs H Q _ => ∃ i : Int, vs = [.int i] ∧ Q (.bl true) H
def spNumber : Sp := fun vs H Q _ => ∃ i : Int, vs = [.int i] ∧ Q (.bl (decide (0 ≤ i))) H
def spAmount : Sp := fun vs H Q _ => ∃ i : Int, vs = [.int i] ∧ 1 ≤ i ∧ Q (.bl true) H
def spName : Sp := fun vs H Q _ => ∃ z : Str, vs = [.str z] ∧ NameOk z ∧ ∀ H', Same H H' → Q (.bl true) H'
def spTwo : Sp := fun vs H Q _ => ∃ x y : Str, vs = [.str x, .str y] ∧ NameOk x ∧ NameOk y ∧ x ≠ y ∧ ∀ H', Same H H' → Q (.bl true) H'
def spCost : Sp := fun vs H Q _ => ∃ (p : Addr) (c : Way), vs = [.ref p] ∧ RowAt H p c ∧ WayOk c ∧ ∀ H', Same H H' → Q (.bl true) H'
def spAreCosts : Sp := fun vs H Q _ => ∃ (t : Addr) (cs : List Way), vs = [.ref t] ∧ TabAt H t cs ∧ (∀ c ∈ cs, WayOk c) ∧ ∀ H', Same H H' → Q (.bl true) H'

theorem kit_int_int : PySem.W.kitOne K (.type "int") (.type "int") = some true := kit_ty (by decide +kernel)
theorem kit_int_bool : PySem.W.kitOne K (.type "int") (.type "bool") = some false := kit_ty (by decide +kernel)
theorem kit_str_str : PySem.W.kitOne K (.type "str") (.type "str") = some true := kit_ty (by decide +kernel)
theorem kit_tup_tup : PySem.W.kitOne K (.type "tuple") (.type "tuple") = some true := kit_ty (by decide +kernel)
theorem bt_isinstance : bootBuiltins "isinstance" = some (.builtin "isinstance") := by decide +kernel
theorem bt_all : bootBuiltins "all" = some (.builtin "all") := by decide +kernel
theorem bt_int : bootBuiltins "int" = some (.type "int") := by decide +kernel
theorem bt_bool : bootBuiltins "bool" = some (.type "bool") := by decide +kernel
theorem bt_str : bootBuiltins "str" = some (.type "str") := by decide +kernel
theorem bt_tuple : bootBuiltins "tuple" = some (.type "tuple") := by decide +kernel


theorem scInteger : FnScope ["thing"] ["thing"] (defScope sInteger) := ⟨rfl, rfl, rfl, by decide +kernel, rfl, by decide +kernel, by decide +kernel⟩
theorem ok_integer {f : Addr} {fd : FuncData} (F : Fun K "is_integer" "is_integer" sInteger f fd) (G : Glb mg) : FnOk P w K mg base CX0 1 f fd ["thing"] spInteger := by
  refine F.ok scInteger (fun vs H Q E h => ?_) (fun cdv A outer s H vs Q E hr h => ?_)
  · obtain ⟨i, rfl, _⟩ := h
    rfl
  · obtain ⟨i, rfl, k⟩ := h
    refine ⟨_, pss_one (ps_ret (pe_and (pe_callB call_isi (by rfl) G.isinstance bt_isinstance (pa_cons (pv 0) (pa_cons (pe_bltn (by rfl) G.int bt_int (v := .ty "int") rfl) pa_nil)))
      (pe_one (pe_not (pe_callB call_isi (by rfl) G.isinstance bt_isinstance (pa_cons (pv 0) (pa_cons (pe_bltn (by rfl) G.bool bt_bool (v := .ty "bool") rfl) pa_nil))))))), ?_⟩
    refine ⟨_, rfl, _, _, _, _, _, rfl, .ty _, .base (.int _), kit_int_int, _, rfl, iteT ?_⟩
    exact ⟨_, rfl, _, _, _, _, _, rfl, .ty _, .base (.int _), kit_int_bool, _, rfl, k⟩

theorem scNumber : FnScope ["thing"] ["thing"] (defScope sNumber) := ⟨rfl, rfl, rfl, by decide +kernel, rfl, by decide +kernel, by decide +kernel⟩
theorem ok_number {f : Addr} {fd : FuncData} (F : Fun K "is_number" "is_number" sNumber f fd) (D1 : Def P w K mg base "is_integer" 1 ["thing"] spInteger) :
    FnOk P w K mg base CX0 2 f fd ["thing"] spNumber := by
  refine F.ok scNumber (fun vs H Q E h => ?_) (fun cdv A outer s H vs Q E hr h => ?_)
  · obtain ⟨i, rfl, _⟩ := h
    rfl
  · obtain ⟨i, rfl, k⟩ := h
    refine ⟨_, pss_one (ps_ret (pe_and (pe_def D1 hr (pa_cons (pv 0) pa_nil)) (pe_one (pe_cmpR op_ge (pv 0) pe_int (nomark _))))), ?_⟩
    refine ⟨_, rfl, i, rfl, _, rfl, iteT ?_⟩
    exact ⟨_, rfl, _, _, rfl, rfl, k⟩
theorem scAmount : FnScope ["thing"] ["thing"] (defScope sAmount) := ⟨rfl, rfl, rfl, by decide +kernel, rfl, by decide +kernel, by decide +kernel⟩
theorem ok_amount {f : Addr} {fd : FuncData} (F : Fun K "is_amount" "is_amount" sAmount f fd) (D1 : Def P w K mg base "is_number" 2 ["thing"] spNumber) :
    FnOk P w K mg base CX0 3 f fd ["thing"] spAmount := by
  refine F.ok scAmount (fun vs H Q E h => ?_) (fun cdv A outer s H vs Q E hr h => ?_)
  · obtain ⟨i, rfl, _⟩ := h
    rfl
  · obtain ⟨i, rfl, hi, k⟩ := h
    refine ⟨_, pss_one (ps_ret (pe_and (pe_def D1 hr (pa_cons (pv 0) pa_nil)) (pe_one (pe_cmpR op_gt (pv 0) pe_int (nomark _))))), ?_⟩
    refine ⟨_, rfl, i, rfl, _, rfl, ?_⟩
    rw [decide_eq_true (show (0 : Int) ≤ i by omega)]
    refine iteT ⟨_, rfl, _, _, rfl, rfl, ?_⟩
    show Q (.bl (decide (0 < i))) H
    rw [decide_eq_true (show (0 : Int) < i by omega)]
    exact k
theorem scTwo : FnScope ["one", "other"] ["one", "other"] (defScope sTwo) := ⟨rfl, rfl, rfl, by decide +kernel, rfl, by decide +kernel, by decide +kernel⟩
theorem ok_two {f : Addr} {fd : FuncData} (F : Fun K "are_two_names" "are_two_names" sTwo f fd) (D1 : Def P w K mg base "is_name" 1 ["thing"] spName) :
    FnOk P w K mg base CX0 2 f fd ["one", "other"] spTwo := by
  refine F.ok scTwo (fun vs H Q E h => ?_) (fun cdv A outer s H vs Q E hr h => ?_)
  · obtain ⟨x, y, rfl, _⟩ := h
    rfl
  · obtain ⟨x, y, rfl, hx, hy, ne, k⟩ := h
    refine ⟨_, pss_one (ps_ret (pe_and (pe_def D1 hr (pa_cons (pv 0) pa_nil)) (pe_and (pe_def D1 hr (pa_cons (pv 1) pa_nil)) (pe_one (pe_cmpR op_ne (pv 0) (pv 1) (nomark _)))))), ?_⟩
    refine ⟨_, rfl, x, rfl, hx, fun H1 s1 => ⟨_, rfl, iteT ?_⟩⟩
    refine ⟨_, rfl, y, rfl, hy, fun H2 s2 => ⟨_, rfl, iteT ?_⟩⟩
    refine ⟨_, rfl, _, rfl, rfl, ?_⟩
    have e : decide (V.str x = V.str y) = false := decide_eq_false fun z => ne (V.str.inj z)
    rw [e]
    exact k _ (s1.trans s2)

theorem bl_all : ∀ (n : Nat), (List.replicate n true).all id = true
  | 0 => rfl
  | n + 1 => by rw [List.replicate_succ, List.all_cons, bl_all n] <;> rfl
theorem map_snoc_bl (n : Nat) : (List.replicate n true).map V.bl ++ [.bl true] = (List.replicate (n + 1) true).map V.bl := by
  rw [List.replicate_succ', List.map_append] <;> rfl
theorem rep_len (n : Nat) : ((List.replicate n true).map V.bl).length = n := by simp

theorem scName : FnScope ["thing", "sign"] ["thing"] (defScope sName) := ⟨rfl, rfl, rfl, by decide +kernel, rfl, by decide +kernel, by decide +kernel⟩
theorem ok_name {f : Addr} {fd : FuncData} (F : Fun K "is_name" "is_name" sName f fd) (G : Glb mg) : FnOk P w K mg base CX0 1 f fd ["thing"] spName := by
  refine F.ok scName (fun vs H Q E h => ?_) (fun cdv A outer s H vs Q E hr h => ?_)
  · obtain ⟨z, rfl, _⟩ := h
    rfl
  · obtain ⟨z, rfl, ⟨h1, h2, h3⟩, k⟩ := h
    have hz : z.length ≤ sizeLine := Nat.le_trans h2 (by decide)
    refine ⟨_, pss_cons (ps_if (PW.pt (pw_or (pt_not (pt_val (pe_callB call_isi (by rfl) G.isinstance bt_isinstance (pa_cons (pv 0) (pa_cons (pe_bltn (by rfl) G.str bt_str (v := .ty "str") rfl) pa_nil)))))
        (pw_or1 (pt_not (pt_chain op_le op_le pe_int (pe_callB call_len_str (by rfl) G.len PySem.boot_len (pa_cons (pv 0) pa_nil)) (pe_glob (v := .int 8) (by rfl) G.longest.choose_spec ⟨_, rfl⟩)))))) (pss_one (ps_ret pe_bl)) pss_nil)
      (pss_one (ps_ret (pe_callB (cr_all rfl) (by rfl) G.all bt_all (pa_cons (pe_lc (own := [("sign", 1)]) (g := gName 1) (tt := tYes) rfl scName.nd (pi_str (pv 0)) (blkOk_by (own := [("sign", 1)]) (N := ["thing", "sign"]) (sc := defScope sName) (by decide +kernel))
        (fun _ _ _ _ _ => pg_name (i := 1) scName.nd rfl (Or.inl rfl)) (fun _ _ _ _ _ => pts_nil) (fun _ _ _ _ _ => pe_cmpR op_in_sign (pv 1) (pe_glob (v := .str letters) (by rfl) G.letters.choose_spec ⟨_, rfl⟩) rfl)) pa_nil)))), ?_⟩
    refine ⟨_, rfl, _, _, _, _, _, rfl, .ty _, .base (.str _), kit_str_str, _, rfl, iteF ?_⟩
    refine ⟨_, rfl, z, rfl, hz, _, _, rfl, rfl, _, rfl, ?_⟩
    rw [decide_eq_true (show (1 : Int) ≤ (z.length : Int) by omega)]
    refine iteT ⟨_, _, rfl, rfl, _, rfl, ?_⟩
    rw [decide_eq_true (show ((z.length : Nat) : Int) ≤ 8 by omega)]
    refine iteF ?_
    refine ⟨_, rfl, z, rfl, fun D hD => ?_⟩
    have sz : z.cps.size = z.length := rfl
    refine lc_it walk_str (fun i H' => Same H H' ∧ H' D = some (.lst ((List.replicate i true).map V.bl))) ⟨Same.upd hD, upd_same⟩ (fun _ _ _ _ => trivial) ?_ ?_
    · rintro i x H1 H2 hi ⟨s1, eD⟩ ⟨rfl, c, ec, rfl⟩
      refine ⟨rfl, _, rfl, c, letters, rfl, rfl, ?_⟩
      have hc : c ∈ letters.cps.toList := h3 c (by
        have := Array.mem_of_getElem? ec
        simpa using this)
      rw [decide_eq_true hc]
      refine ⟨_, eD, by rw [rep_len]; omega, fun b o e => ?_, by rw [upd_same, map_snoc_bl]⟩
      by_cases hb : b = D
      · subst hb
        rw [hD] at e
        cases e
      · rw [upd_ne hb]
        exact s1 _ _ e
    · rintro H1 ⟨s1, eD⟩
      refine ⟨_, _, rfl, SqL.of eD, ?_⟩
      rw [bl_all]
      exact k _ s1

theorem scCost : FnScope ["thing"] ["thing"] (defScope sCost) := ⟨rfl, rfl, rfl, by decide +kernel, rfl, by decide +kernel, by decide +kernel⟩
theorem ok_cost {f : Addr} {fd : FuncData} (F : Fun K "is_cost" "is_cost" sCost f fd) (G : Glb mg) (D1 : Def P w K mg base "are_two_names" 2 ["one", "other"] spTwo) (D2 : Def P w K mg base "is_amount" 3 ["thing"] spAmount) :
    FnOk P w K mg base CX0 4 f fd ["thing"] spCost := by
  refine F.ok scCost (fun vs H Q E h => ?_) (fun cdv A outer s H vs Q E hr h => ?_)
  · obtain ⟨p, c, rfl, _⟩ := h
    rfl
  · obtain ⟨p, c, rfl, hp, hc, k⟩ := h
    refine ⟨_, pss_one (ps_ret (pe_and (pe_callB call_isi (by rfl) G.isinstance bt_isinstance (pa_cons (pv 0) (pa_cons (pe_bltn (by rfl) G.tuple bt_tuple (v := .ty "tuple") rfl) pa_nil)))
      (pe_and (pe_cmpR op_eq (pe_callB call_len_seq (by rfl) G.len PySem.boot_len (pa_cons (pv 0) pa_nil)) pe_int (nomark _))
      (pe_and (pe_def D1 (hr.mono (by decide)) (pa_cons (pe_ix ix_tup (pv 0) pe_int (fun _ _ => rfl)) (pa_cons (pe_ix ix_tup (pv 0) pe_int (fun _ _ => rfl)) pa_nil)))
      (pe_one (pe_def D2 hr (pa_cons (pe_ix ix_tup (pv 0) pe_int (fun _ _ => rfl)) pa_nil))))))), ?_⟩
    refine ⟨_, rfl, _, _, _, _, _, rfl, .ty _, .base (.tup hp), kit_tup_tup, _, rfl, iteT ?_⟩
    refine ⟨_, rfl, p, _, rfl, .inr (SqT.of hp), rfl, true, rfl, iteT ?_⟩
    refine ⟨_, rfl, p, _, 0, _, rfl, rfl, SqT.of hp, rfl, _, rfl, p, _, 1, _, rfl, rfl, SqT.of hp, rfl, _, _, rfl, hc.one, hc.other, hc.ne, fun H1 s1 => ⟨_, rfl, iteT ?_⟩⟩
    exact ⟨_, rfl, p, _, 2, _, rfl, rfl, SqT.of (s1 _ _ hp), rfl, _, rfl, hc.pos, k _ s1⟩

theorem scAreCosts : FnScope ["thing", "own"] ["thing"] (defScope sAreCosts) := ⟨rfl, rfl, rfl, by decide +kernel, rfl, by decide +kernel, by decide +kernel⟩
theorem ok_areCosts {f : Addr} {fd : FuncData} (F : Fun K "are_costs" "are_costs" sAreCosts f fd) (G : Glb mg) (D1 : Def P w K mg base "is_cost" 4 ["thing"] spCost) :
    FnOk P w K mg base CX0 5 f fd ["thing"] spAreCosts := by
  refine F.ok scAreCosts (fun vs H Q E h => ?_) (fun cdv A outer s H vs Q E hr h => ?_)
  · obtain ⟨p, c, rfl, _⟩ := h
    rfl
  · obtain ⟨t, cs, rfl, ⟨ps, hl, ht, hr2⟩, hc, k⟩ := h
    refine ⟨_, pss_one (ps_ret (pe_and (pe_callB call_isi (by rfl) G.isinstance bt_isinstance (pa_cons (pv 0) (pa_cons (pe_bltn (by rfl) G.tuple bt_tuple (v := .ty "tuple") rfl) pa_nil)))
      (pe_one (pe_callB (cr_all rfl) (by rfl) G.all bt_all (pa_cons (pe_lc (own := [("own", 1)]) (g := gName 1) (tt := tYes) rfl scAreCosts.nd (pi_tup (pv 0)) (blkOk_by (own := [("own", 1)]) (N := ["thing", "own"]) (sc := defScope sAreCosts) (by decide +kernel))
        (fun _ _ _ _ _ => pg_name (i := 1) scAreCosts.nd rfl (Or.inl rfl)) (fun _ _ _ _ _ => pts_nil) (fun _ _ _ _ _ => pe_def D1 hr (pa_cons (pv 1) pa_nil))) pa_nil))))), ?_⟩
    refine ⟨_, rfl, _, _, _, _, _, rfl, .ty _, .base (.tup ht), kit_tup_tup, _, rfl, iteT ?_⟩
    refine ⟨_, rfl, t, rfl, ⟨_, SqT.of ht⟩, fun D hD => ?_⟩
    refine lc_it (walk_tup (xs := ps.map V.ref)) (fun i H' => Same H H' ∧ H' D = some (.lst ((List.replicate i true).map V.bl))) ⟨Same.upd hD, upd_same⟩ (fun _ _ _ z => SqT.of (z.1 _ _ ht)) ?_ ?_
    · rintro i x H1 H2 hi ⟨s1, eD⟩ ⟨rfl, ex⟩
      rw [List.getElem?_map] at ex
      obtain ⟨p, ep, rfl⟩ := Option.map_eq_some_iff.mp ex
      obtain ⟨c, ec, hp⟩ := paired_get hr2 ep
      refine ⟨rfl, _, rfl, p, c, rfl, hp.same s1, hc c (List.mem_of_getElem? ec), fun H3 s3 => ?_⟩
      refine ⟨_, s3 _ _ eD, ?_, fun b o e => ?_, by rw [upd_same, map_snoc_bl]⟩
      · rw [rep_len]
        rw [List.length_map] at hi
        exact small1000 (by omega)
      · by_cases hb : b = D
        · subst hb
          rw [hD] at e
          cases e
        · rw [upd_ne hb]
          exact s3 _ _ (s1 _ _ e)
    · rintro H1 ⟨s1, eD⟩
      refine ⟨_, _, rfl, SqL.of eD, ?_⟩
      rw [bl_all]
      exact k _ s1
end
end Ku
/-! Rules that the hand layer lacks: enumerate of a tuple; the items of a dict whose keys are tuples. -/
namespace Ku
open PySem PySem.Spec PyProof.Rows L2

/-! ### for i, x in enumerate(t), t a tuple -/
section
variable {prog : Program} {w : World} {A : Around} {E : Value → Shared → Prop} {s : Shared}
set_option maxHeartbeats 4000000 in
theorem enumT_new (t : Addr) (items : Array Value) :
    Meets (Builtin.«enumerate.__new__» ⟨[.type "enumerate", .ref t], []⟩) (fun _ R s => s.heap.IsTuple t items ∧
      R (.ok (.ret (.ref (s.heap.push { cls := .type "tuple_iterator", data := .fields #[.ref t, .int 0 0] }).objs.size)))
        { s with heap := (s.heap.push { cls := .type "tuple_iterator", data := .fields #[.ref t, .int 0 0] }).push { cls := .type "enumerate", data := .fields #[.none, .bool false, .ref s.heap.objs.size, rawInt 0, .none, .none] } }) :=
  .of_wp fun prog w A R s h => by
    obtain ⟨hp, g, d, tk, os⟩ := s
    obtain ⟨hT, h⟩ := h
    have hsub := sub_enumerate
    have it : ∀ {A' : Around} {E : Value → Shared → Prop} {Q : Value → Shared → Prop}, Q (.ref hp.objs.size) ⟨hp.push { cls := .type "tuple_iterator", data := .fields #[.ref t, .int 0 0] }, g, d, tk, os⟩ → wpAny (model prog w) A' (pyIter (.ref t)) Q E ⟨hp, g, d, tk, os⟩ :=
      fun q => wpAny_pyIter_tuple (s := ⟨hp, g, d, tk, os⟩) hT q
    wp_walk using it
    refine wpAny_stack_any fun st => wpAny_pure ?_
    split
    · rename_i c _ _ _ _ _
      cases (c == Value.type "enumerate") <;> (wp_walk using it; exact ⟨_, rfl, h⟩)
    · wp_walk using it
      exact ⟨_, rfl, h⟩
theorem enumT_call {t : Addr} {items : Array Value} {Q : Value → Shared → Prop} (hT : s.heap.IsTuple t items)
    (h : ∀ h', IsEnum h' (s.heap.objs.size + 1) s.heap.objs.size 0 .none → h'.IsTupleIter s.heap.objs.size t 0 → (∀ b o, s.heap.get? b = some o → h'.get? b = some o) → Q (.ref (s.heap.objs.size + 1)) { s with heap := h' }) :
    wpAny (model prog w) A (call (.type "enumerate") [.ref t]) Q E s := by
  refine callType_new F.called_enumerate (by decide) (F.typeCall_enumerate_1 _) (F.newCall_enumerate_1 _) (fun obj => F.args_object_init_2 obj _) F.entry_enumerate_new (enumT_new t items) ⟨hT, ?_⟩
  have hz : (s.heap.push { cls := .type "tuple_iterator", data := .fields #[.ref t, .int 0 0] }).objs.size = s.heap.objs.size + 1 := Heap.size_push ..
  have he := Heap.get?_push_size (s.heap.push { cls := .type "tuple_iterator", data := .fields #[.ref t, .int 0 0] }) (o := { cls := .type "enumerate", data := .fields #[.none, .bool false, .ref s.heap.objs.size, rawInt 0, .none, .none] }) rfl
  show _ ∧ _
  rw [hz] at he ⊢
  exact ⟨⟨_, he, rfl⟩, h _ he ⟨_, Heap.get?_push_of_some _ (Heap.get?_push_size _ rfl), rfl, rfl⟩ fun b o x => Heap.get?_push_of_some _ (Heap.get?_push_of_some _ x)⟩
end
/-- the tuple xs at t, each item in a new pair -/
def Itet (t : Addr) (xs : List V) : It :=
  ⟨fun i H => H t = some (.tup xs) ∧ i < xs.length, fun i H v H' => ∃ T x, v = .ref T ∧ H T = none ∧ H' = upd H T (.tup [.int (i : Nat), x]) ∧ xs[i]? = some x, fun i H => H t = some (.tup xs) ∧ i = xs.length⟩
theorem iter_ne {h : Heap} {it t : Addr} {i : Nat} {items : Array Value} (a : h.IsTupleIter it t i) (b : h.IsTuple t items) : t ≠ it := fun e => by
  obtain ⟨o, ho, hc, _⟩ := a
  obtain ⟨o', ho', hc', _⟩ := b
  rw [e, ho] at ho'
  cases ho'
  rw [hc] at hc'
  injection hc' with q
  exact absurd q (by decide)
theorem turn_enumT {P : Program} {w : World} {K : PySem.W.Frag} {elts : List Expr} {kk : Nat} {tpos : Pos} {xs : List V} (t e it : Addr) :
    Turn P w K (.Tuple elts kk tpos) (Itet t xs) [e, it] e (fun i h => (∃ old, IsEnum h e it (0 + (i : Int)) old) ∧ h.IsTupleIter it t i ∧ e ≠ it) where
  mem := by simp
  obj := fun i h st b hb => by
    obtain ⟨⟨old, he⟩, ⟨o, ho, hc, hd⟩, _⟩ := st
    rcases (show b = e ∨ b = it by simpa using hb) with z | z
    · rw [z]; exact ⟨_, he, fun v q => nomatch q⟩
    · rw [z]; exact ⟨o, ho, fun v q => by rw [hd] at q; cases q⟩
  keep := fun i h h' st k => let ⟨⟨old, he⟩, hi, hne⟩ := st; ⟨⟨old, k e (by simp) _ he⟩, hi.at fun o q => k it (by simp) o q, hne⟩
  item := by
    intro X hP hw hK hc i pins s σ H E I hf st hg
    subst hP hw hK
    obtain ⟨he, hit, hne⟩ := st
    obtain ⟨hq, hi⟩ := hg
    obtain ⟨its, rv, p, hz⟩ := I.tuple (SqT.of hq)
    have hTu : s.heap.IsTuple t its.toArray := p
    have tne := iter_ne hit hTu
    have hl := rv.length
    have et : e ≠ t := fun z => by
      have := (hf e (by simp)).1
      rw [z, hq] at this
      cases this
    have G := GoesN.enumFrom (elts := elts) (x1 := kk) (pos := tpos) 0 (Draws.tuple (prog := X.prog) (w := X.w) (A := X.A.in1) (show X.A.in1.handled = none from I.ok.hd hc) it t tne its.toArray) e hne (by simp [hne, et]) (by simp)
    refine G.goes i s _ E (by rw [List.size_toArray]; omega) ⟨he, hit, hTu⟩ fun v h' tk hY st' hk _ => ?_
    obtain ⟨T, tt, x, rfl, hT, hx, o, ho, hcls, n, hdat⟩ := hY
    obtain ⟨y, hy, ry⟩ : ∃ y, xs[i]? = some y ∧ RelV y x := by
      obtain ⟨u, hu, ru⟩ := rv.get (List.getElem?_eq_getElem hi)
      refine ⟨xs[i], List.getElem?_eq_getElem hi, ?_⟩
      rw [List.getElem?_toArray, hu] at hx
      cases hx
      exact ru
    have new : ObjOk X.prog X.w (upd H T (.tup [.int (i : Nat), y])) h' T (.tup [.int (i : Nat), y]) := by
      refine ⟨by show 2 ≤ sizeLine; decide, [.int (i : Int) tt, x], .cons ⟨_, rfl⟩ (.cons ry .nil), o, ho, hcls, n, ?_⟩
      rw [Int.zero_add] at hdat
      exact hdat
    have I1 := I.turnedNew (t' := tk) (ch := [e, it]) (fun b ob hb q => hk b ob hb q) hf hT new
    refine ⟨.ref T, _, I1, rfl, ⟨T, y, rfl, I.hok.fresh hT, rfl, hy⟩, ⟨st'.1, st'.2.1, hne⟩, fun b hb => ?_⟩
    have hb' : b < s.heap.objs.size := by
      rcases (show b = e ∨ b = it by simpa using hb) with z | z
      · obtain ⟨_, q⟩ := he; rw [z]; exact Heap.lt_size q
      · obtain ⟨_, q, _⟩ := hit; rw [z]; exact Heap.lt_size q
    rw [upd_ne (Nat.ne_of_lt (Nat.lt_of_lt_of_le hb' hT))]
    exact (hf b hb).1
  done := by
    intro X hP hw hK hc i pins s σ H E I hf st hg
    subst hP hw hK
    obtain ⟨he, hit, hne⟩ := st
    obtain ⟨hq, hi⟩ := hg
    obtain ⟨its, rv, p, hz⟩ := I.tuple (SqT.of hq)
    have hTu : s.heap.IsTuple t its.toArray := p
    have hl := rv.length
    have tne := iter_ne hit hTu
    have et : e ≠ t := fun z => by
      have := (hf e (by simp)).1
      rw [z, hq] at this
      cases this
    have G := GoesN.enumFrom (elts := elts) (x1 := kk) (pos := tpos) 0 (Draws.tuple (prog := X.prog) (w := X.w) (A := X.A.in1) (show X.A.in1.handled = none from I.ok.hd hc) it t tne its.toArray) e hne (by simp [hne, et]) (by simp)
    have en : i = its.toArray.size := by rw [List.size_toArray]; omega
    rw [en] at he hit
    refine G.stops s _ E ⟨he, hit, hTu⟩ fun h' tk hk _ => I.turnedL (t' := tk) (ch := [e, it]) (fun b ob hb q => hk b ob hb q) hf
  self := fun A i s Q E st h => let ⟨⟨_, he⟩, _⟩ := st; wpAny_pyIter_enum he h

def iEnumT (ta : TA) : TI := fun σ H R => ta σ H fun vs H1 => ∃ t xs, vs = [.ref t] ∧ H1 t = some (.tup xs) ∧ R (Itet t xs) H1
theorem pi_enumT {X : Cx} {e : Expr} {ta : TA} {p pos tpos : Pos} {elts : List Expr} {kk : Nat} (hg : Gl X "enumerate") (hm : X.mg "enumerate" = none) (ha : PA X [e] ta) (hs : starEach [e] X.env = [(false, eval e X.env)] := by rfl) :
    PI X (.Tuple elts kk tpos) (.Call (.Name "enumerate" p) [e] [] pos) (iEnumT ta) := by
  refine ⟨fun pins s σ H R I h => ?_⟩
  refine Call_ (ld_blt I hg hm boot_enumerate (PyProof.Rows.callWith_type1 (thn (ha.run pos pins s σ H _ I h) fun us s1 ⟨vs, H1, I1, r1, q1⟩ => ?_) hs rfl))
  obtain ⟨t, xs, ex, hq, q⟩ := q1
  subst ex
  obtain rfl := Vals.ref1 r1
  obtain ⟨its, rv, p', hz⟩ := I1.tuple (SqT.of hq)
  refine enumT_call (show s1.heap.IsTuple t its.toArray from p') fun h' he hit hk => wpAny_pyIter_enum he ?_
  refine ⟨s1.heap.objs.size + 1, [s1.heap.objs.size + 1, s1.heap.objs.size], _, _, H1, rfl, I1.kept (t' := s1.toks) hk, turn_enumT t (s1.heap.objs.size + 1) s1.heap.objs.size, ⟨⟨.none, he⟩, hit, Nat.succ_ne_self _⟩, fun b hb => ?_, q⟩
  have hle : s1.heap.objs.size ≤ b := by
    rcases (show b = s1.heap.objs.size + 1 ∨ b = s1.heap.objs.size by simpa using hb) with z | z
    · rw [z]; exact Nat.le_add_right _ _
    · rw [z]; exact Nat.le_refl _
  exact I1.fpOk hle (I1.hok.fresh hle)
theorem walk_enumT {t : Addr} {xs : List V} : Walk (Itet t xs) xs.length (fun H => H t = some (.tup xs)) (YPair (fun i => some (.int (i : Nat))) (fun i => xs[i]?)) := by
  refine ⟨fun i _ hi q => ⟨q, hi⟩, fun _ q => ⟨q, rfl⟩, fun i H v H' _ q y => ?_⟩
  obtain ⟨T, x, h1, h2, h3, h4⟩ := y
  exact ⟨T, .int (i : Nat), x, h1, h2, h3, rfl, h4⟩

/-! ### for k, v in d.items(), d a dict whose keys are tuples, locked -/
/-- the pairs, each a new tuple of the key's own tuple and the value -/
def Itti (d : Addr) (o : Obj) (kvs : List (List Key × V)) : It :=
  ⟨fun i H => H d = some (.frz o (.dT kvs)) ∧ i < kvs.length, fun i H x H' => ∃ T q k v, kvs[i]? = some (k, v) ∧ x = .ref T ∧ H q = some (.tup (k.map kV)) ∧ H T = none ∧ H' = upd H T (.tup [.ref q, v]), fun i H => H d = some (.frz o (.dT kvs)) ∧ kvs.length ≤ i⟩
theorem frzV {X : Cx} {pins : List (Addr × Obj)} {σ : L2.St} {H : Hp} {s : Shared} {d : Addr} {o : Obj} {kvs : List (List Key × V)} (I : Inv X pins σ H s) (h : H d = some (.frz o (.dT kvs))) :
    (d == sysModules) = false ∧ ∃ (es : Array DictEntry) (ep : Nat), o.data = .dict es ep ∧ es.size = kvs.length ∧ s.heap.DictRaw d es ep ∧
      ∀ (i : Nat) (k : List Key) (v : V), kvs[i]? = some (k, v) → ∃ (hi : i < es.size) (q : Addr), es[i].key = .ref q ∧ H q = some (.tup (k.map kV)) ∧ RelV v es[i].val := by
  obtain ⟨hd, z, hs, xs, pr, o', es, ep, ho, hx, hdt, he, _⟩ := I.hok d _ h
  rw [hd] at ho
  cases ho
  refine ⟨hs, es, ep, hdt, ?_, ⟨o, hd, hx, hdt⟩, fun i k v e => ?_⟩
  · have l1 : es.size = xs.length := size_of_entries he
    have l2 : kvs.length = xs.length := Paired.length pr
    omega
  · obtain ⟨b, hb, e1, e2, e3⟩ := L2.paired_get pr e
    have q := entry_at he i
    rw [hb] at q
    obtain ⟨hi, hen⟩ := Array.getElem?_eq_some_iff.mp q
    exact ⟨hi, b.2.1, by rw [hen]; rfl, e2, by rw [hen]; exact e3⟩
theorem turn_itemsT {P : Program} {w : World} {K : PySem.W.Frag} {d : Addr} {o : Obj} {es : Array DictEntry} {ep : Nat} {kvs : List (List Key × V)} {elts : List Expr} {kk : Nat} {tpos : Pos} (it : Addr) (hod : o.data = .dict es ep) :
    Turn P w K (.Tuple elts kk tpos) (Itti d o kvs) [it] it (fun i h => ∃ ok ov, IsItemIter h it d i kvs.length ep ok ov) where
  mem := by simp
  obj := fun i h st b hb => by
    have e : b = it := by simpa using hb
    subst e
    obtain ⟨ok, ov, e⟩ := st
    exact ⟨_, e, fun v z => nomatch z⟩
  keep := fun i h h' st k => let ⟨ok, ov, e⟩ := st; ⟨ok, ov, k it (by simp) _ e⟩
  item := by
    intro X hP hw hK hc i pins s σ H E I hf st hg
    subst hP hw hK
    obtain ⟨hd, hi⟩ := hg
    obtain ⟨hs, es', ep', hdt, hsz, hraw, ent⟩ := frzV I hd
    obtain ⟨rfl, rfl⟩ := dict_ep hod hdt
    obtain ⟨⟨k, v⟩, hkv⟩ : ∃ p, kvs[i]? = some p := ⟨kvs[i], List.getElem?_eq_getElem hi⟩
    obtain ⟨hi', q, hkey, hq, rv⟩ := ent i k v hkv
    obtain ⟨ok, ov, he⟩ := st
    rw [← hsz] at he
    have hlt : it < s.heap.objs.size := Heap.lt_size he
    refine wpAny_pyNext_items_item_raw he hraw hi' fun h' ho hT hz hk => ?_
    refine ⟨_, rfl, wpAny_letOwnedTupleGo_items (s := { s with heap := h' }) ho fun h'' he' sb => ?_⟩
    have hT2 := (sb.2 _ (Nat.ne_of_gt hlt)).trans hT
    have new : ObjOk X.prog X.w (upd H s.heap.objs.size (.tup [.ref q, v])) h'' s.heap.objs.size (.tup [.ref q, v]) :=
      ⟨by show 2 ≤ sizeLine; decide, _, .cons hkey (.cons rv .nil), ⟨_, hT2, rfl, _, rfl⟩⟩
    have I1 := I.turnedNew (t' := s.toks) (ch := [it]) (fun b ob hb e => (sb.2 b (by simpa using hb)).trans (hk b ob (by simpa using hb) e)) hf (Nat.le_refl _) new
    refine ⟨.ref s.heap.objs.size, _, I1, rfl, ⟨_, q, k, v, hkv, rfl, hq, I.hok.fresh (Nat.le_refl _), rfl⟩, ⟨es'[i].key, es'[i].val, by rw [← hsz]; exact he'⟩, fun b hb => ?_⟩
    · have e : b = it := by simpa using hb
      rw [e, upd_ne (Nat.ne_of_lt hlt)]
      exact (hf it (by simp)).1
  done := by
    intro X hP hw hK hc i pins s σ H E I hf st hg
    subst hP hw hK
    obtain ⟨hd, hi⟩ := hg
    obtain ⟨f0, f1, f2, f3, f4, f5⟩ := hf it (by simp)
    obtain ⟨hs, es', ep', hdt, hsz, hraw, ent⟩ := frzV I hd
    obtain ⟨rfl, rfl⟩ := dict_ep hod hdt
    obtain ⟨ok, ov, he⟩ := st
    rw [← hsz] at he
    exact wpAny_pyNext_items_end_raw (I.ok.hd hc) he hraw (by omega) fun h' eb => ⟨rfl, I.turned (t' := s.toks) (fun b ob hb e => eb b ob hb e) f0 f1 f3 f4 f5⟩
  self := fun A i s Q E st h => let ⟨_, _, e⟩ := st; PySem.W.kcp_self e h
def iItemsT (td : TE) : TI := fun σ H R => td σ H fun x H1 => ∃ d o kvs, x = .ref d ∧ H1 d = some (.frz o (.dT kvs)) ∧ R (Itti d o kvs) H1
theorem pi_itemsT {X : Cx} {e : Expr} {td : TE} {apos cpos : Pos} {elts : List Expr} {kk : Nat} {tpos : Pos} (he : PE X e td) (hbase : attributeBase e "items" X.env (eval e X.env) = eval e X.env := by rfl) (hline : (apos.endLine == cpos.line) = true := by rfl) :
    PI X (.Tuple elts kk tpos) (.Call (.Attribute e "items" apos) [] [] cpos) (iItemsT td) := by
  refine ⟨fun pins s σ H R I h => ?_⟩
  refine wpAny_Call_method (T := "dict") (id := "dict.items") hbase rfl hline F.plainAttrs_dict F.slot_dict_items F.type_dict_items (thn (he.run pins s σ H _ I h) fun u s1 ⟨x, H1, I1, rx, d, o, kvs, ex, hd, q⟩ => ?_)
  subst ex
  obtain rfl : u = Value.ref d := rx
  obtain ⟨hs, es, ep, hdt, hsz, hraw, ent⟩ := frzV I1 hd
  refine ⟨hraw.typeIs, ?_, ?_⟩
  · intro b e
    cases e
    obtain ⟨o', ho', hx', _⟩ := id hraw
    exact ⟨o', ho', hx'.2.1⟩
  have I2 : Inv X pins σ H1 { s1 with heap := s1.heap.push { cls := .type "dict_items", data := .fields #[.ref d] } } := I1.kept (t' := s1.toks) fun b ob q => Heap.get?_push_of_some _ q
  have fin : wpAny (model X.prog X.w) X.A (pyIter (.ref s1.heap.objs.size)) (PIE X pins σ (.Tuple elts kk tpos) R) X.xe { s1 with heap := s1.heap.push { cls := .type "dict_items", data := .fields #[.ref d] } } := by
    refine wpAny_pyIter_items_raw (d := d) ⟨_, Heap.get?_push_size _ rfl, rfl, rfl⟩ (hraw.at fun o e => Heap.get?_push_of_some _ e) (pi_one (tk := s1.toks) I2 _ (turn_itemsT _ hdt) ⟨.none, .none, ?_⟩ q)
    rw [← hsz]
    exact Heap.get?_push_size _ rfl
  show wpAny _ _ (callWith cpos (.builtin "dict.items") [.ref d] [] []) _ X.xe s1
  exact method_meetsIn F.slot_dict_items F.entry_dict_items rfl (PySem.evalArgs_none ⟨rfl, hraw.typeIs, F.args_dict_items_1 _, _, meets_dict_items_raw d hs, ⟨es, ep, hraw⟩, fin⟩)
end Ku
/-! {**d, k: v}: a dict display that takes over another dict. -/
namespace Ku
open PySem PySem.Spec PyProof.Rows L2
section
variable {prog : Program} {w : World} {K : Type} [DecidableEq K] {knd : PySem.KeyKind prog w K} {A : Around} {E : Value → Shared → Prop} {s : Shared}
/-- an entry put by its hash -/
theorem put_pairs {d : Addr} {kvs : List (K × Value)} {k : K} {key v : Value} {Q : Unit → Shared → Prop} (hkey : knd.is k key = true) (hm : s.heap.DictOf knd d kvs)
    (hQ : ∀ h', h'.DictOf knd d (stored kvs k v) → Heap.SameBut d s.heap h' → Q () { s with heap := h' }) (hsz : kvs.length ≤ sizeLine) : wpAny (model prog w) A (dictPut d (knd.hash k) key v) Q E s := by
  obtain ⟨o, es, ep, ho, hc, hd, hk, hp, hn⟩ := hm
  have hes : es.size ≤ sizeLine := by
    have e1 := hp.length
    have e2 : es.toList.length = es.size := by simp
    omega
  unfold dictPut
  refine wpAny_bind (wpAny_dictFind_of hkey ho hd hk ?_)
  have hidx : (es.findIdx? fun e => knd.is k e.key) = kvs.findIdx? fun kv => decide (kv.1 = k) := by
    rw [← hp.findIdx k]
    obtain ⟨l⟩ := es
    simp
  cases hi : es.findIdx? fun e => knd.is k e.key with
  | some i =>
    refine wpAny_updateDict ho hd (hQ _ ⟨_, _, ep, Heap.get?_update_self _ ho (Obj.isFreed_of_dict (Obj.data_mapDict hd _)), hc.mapDict _, Obj.data_mapDict hd _, hk.modify _ _, ?_, ?_⟩ (Heap.SameBut.update ..))
    · rw [stored, if_pos (any_of_findIdx_some (hidx ▸ hi))]
      have hl : (es.toList.findIdx? fun e => knd.is k e.key) = some i := by
        rw [← hi]
        obtain ⟨l⟩ := es
        simp
      have := hp.modify hn hl v
      obtain ⟨l⟩ := es
      simpa using this
    · rw [stored, if_pos (any_of_findIdx_some (hidx ▸ hi)), keys_map_store]
      exact hn
  | none =>
    have hnot : k ∉ kvs.map (·.1) := not_mem_of_findIdx_none (hidx ▸ hi)
    have hany : ¬ (kvs.any fun kv => decide (kv.1 = k)) = true := by
      rw [List.any_eq_true]
      rintro ⟨kv, hkv, he⟩
      exact hnot (List.mem_map.mpr ⟨kv, hkv, of_decide_eq_true he⟩)
    refine wpAny_updateDictKeys (hz := hes) ho hd (hQ _ ⟨_, _, ep + 1, Heap.get?_update_self _ ho (Obj.isFreed_of_dict (Obj.data_mapDictKeys hd _)), hc.mapDictKeys _, Obj.data_mapDictKeys hd _, hk.push hkey _, ?_, ?_⟩ (Heap.SameBut.update ..))
    · rw [stored, if_neg hany]
      have := hp.append hkey (knd.hash k) v
      obtain ⟨l⟩ := es
      simpa using this
    · rw [stored, if_neg hany, List.map_append, List.nodup_append]
      refine ⟨hn, by simp, ?_⟩
      intro a ha b hb
      simp only [List.map_cons, List.map_nil, List.mem_singleton] at hb
      subst hb
      exact fun e => hnot (e ▸ ha)

theorem merge_loop {d o : Addr} {kvs more : List (K × Value)} {Q : Unit → Shared → Prop} (hdo : d ≠ o) (hoS : (o == sysModules) = false) (hnr : ∀ k v, knd.is k v = true → ∀ a, v ≠ .ref a)
    (hd : s.heap.DictOf knd d kvs) (ho : s.heap.DictOf knd o more) (hQ : ∀ h', h'.DictOf knd d (merged kvs more) → h'.DictOf knd o more → Heap.SameBut d s.heap h' → Q () { s with heap := h' }) (hsz : kvs.length + more.length ≤ sizeLine) :
    wpAny (model prog w) A (mergeMapping d (.ref o) false) Q E s := by
  obtain ⟨od, esd, epd, hod, hcd, hdd, hkd, hpd, hnd⟩ := id hd
  obtain ⟨oo, eso, epo, hoo, hco, hdo', hko, hpo, hno⟩ := id ho
  have hlen : more.length = eso.size := by rw [← hpo.length]; simp
  have loop : ∀ (size : Nat), size = eso.size → wpAny (model prog w) A (do
      let epoch ← dictEpoch o
      forIn (List.range size) PUnit.unit fun i (_ : PUnit) => (do
          let l ← dictEntries o
          match l[i]? with
          | some e => do
            holding [e.key, e.val] (dictPut d e.hash e.key e.val)
            let ep ← dictEpoch o
            if (ep != epoch) = true then do
              (unsupported "dict.changed-during-merge" : Sem PUnit)
              pure (ForInStep.yield PUnit.unit)
            else pure (ForInStep.yield PUnit.unit)
          | _ => do
            (unsupported "dict.changed-during-merge" : Sem PUnit)
            pure (ForInStep.yield PUnit.unit) : Sem (ForInStep PUnit))
      pure ()) Q E s := by
    rintro _ rfl
    refine wpAny_bind (wpAny_dictEpoch hoo hdo' ?_)
    refine wpAny_bind ?_
    refine wpAny_forIn_list _
      (fun rest _ s' => ∃ h' i, s' = { s with heap := h' } ∧ rest = (List.range eso.size).drop i ∧ i ≤ eso.size ∧ h'.DictOf knd d (merged kvs (more.take i)) ∧ h'.get? o = some oo ∧ Heap.SameBut d s.heap h')
      _ ?_ ?_ _ _ ⟨s.heap, 0, rfl, by simp, Nat.zero_le _, by simpa [merged] using hd, hoo, Heap.SameBut.refl _ _⟩
    · rintro x rest b s' ⟨h', i, rfl, hr, hi, hd', hoo', hs'⟩
      have hlt : i < eso.size := by
        rcases Nat.lt_or_ge i eso.size with h | h
        · exact h
        · rw [List.drop_of_length_le (by simpa using h)] at hr
          cases hr
      rw [List.drop_eq_getElem_cons (by simpa using hlt)] at hr
      obtain ⟨rfl, hrest⟩ := List.cons.inj hr
      simp only [List.getElem_range]
      refine wpAny_bind (wpAny_dictEntries hoo' hdo' ?_)
      rw [Array.getElem?_eq_getElem hlt]
      obtain ⟨⟨k, v⟩, hkv⟩ : ∃ kv, more[i]? = some kv := ⟨more[i]'(by rw [hlen]; exact hlt), List.getElem?_eq_getElem _⟩
      obtain ⟨hkey, hval⟩ := hpo.get? (e := eso[i]) (by simp [hlt]) hkv
      obtain ⟨k', hkey', hhash⟩ := hko eso[i] (Array.getElem_mem hlt)
      obtain rfl : k' = k := knd.inj _ _ _ hkey' hkey
      show wpAny _ _ (holding [eso[i].key, eso[i].val] (dictPut d eso[i].hash eso[i].key eso[i].val) >>= _) _ _ _
      rw [hhash, hval]
      have hmx : (merged kvs (more.take i)).length ≤ sizeLine := by
        have e1 := merged_length_le kvs (more.take i)
        have e2 : (more.take i).length ≤ more.length := by rw [List.length_take]; omega
        omega
      refine wpAny_bind (wpAny_holding (put_pairs hkey hd' (fun h'' hd'' hs'' => ?_) hmx))
      have hoo'' : h''.get? o = some oo := (hs''.2 o (Ne.symm hdo)).trans hoo'
      refine wpAny_bind (wpAny_dictEpoch hoo'' hdo' ?_)
      rw [if_neg (by simp)]
      exact wpAny_pure ⟨h'', i + 1, rfl, hrest, hlt, by rw [merged_take_succ kvs more i (k', v) hkv]; exact hd'', hoo'', hs'.trans hs''⟩
    · rintro b s' ⟨h', i, rfl, hr, hi, hd', hoo', hs'⟩
      have hin : i = eso.size := by
        rcases Nat.lt_or_ge i eso.size with h | h
        · rw [List.drop_eq_getElem_cons (by simpa using h)] at hr
          cases hr
        · exact Nat.le_antisymm hi h
      refine wpAny_pure (hQ h' ?_ ⟨oo, eso, epo, hoo', hco, hdo', hko, hpo, hno⟩ hs')
      rw [hin, ← hlen, List.take_length] at hd'
      exact hd'
  have skip : ∀ (P : PUnit → Shared → Prop) (s' : Shared), P PUnit.unit s' → ∀ f : DictEntry → PUnit → Sem (ForInStep PUnit), (∀ e, (∀ a, e.key ≠ .ref a) → f e PUnit.unit = pure (.yield PUnit.unit)) → wpAny (model prog w) A (forIn eso PUnit.unit f) P E s' := by
    intro P s' hP f hf
    rw [← Array.forIn_toList]
    refine wpAny_forIn_list _ (fun rest _ s2 => s2 = s' ∧ ∀ e ∈ rest, ∀ a, e.key ≠ .ref a) _ ?_ ?_ _ _ ⟨rfl, fun e he a => ?_⟩
    · rintro x rest b s2 ⟨rfl, hx⟩
      cases b
      rw [hf x (hx x (by simp))]
      exact wpAny_pure ⟨rfl, fun e he => hx e (by simp [he])⟩
    · rintro b s2 ⟨rfl, _⟩
      cases b
      exact hP
    · obtain ⟨k, hk, _⟩ := hko e (by simpa using he)
      exact hnr k _ hk a
  unfold mergeMapping
  refine wpAny_bind (wpAny_isInstance ho.typeIs isSubtype_dict_dict ?_)
  refine PySem.W.KFB.if_so rfl ?_
  refine wpAny_bind (wpAny_specialOf ho.typeIs PySem.F.slot_dict_iter.lookup ?_)
  refine wpAny_bind (wpAny_pure ?_)
  show wpAny _ _ (if (o == sysModules) = true then _ else _) _ _ _
  rw [if_neg (by rw [hoS]; exact Bool.false_ne_true)]
  refine wpAny_bind (wpAny_dictEntries hod hdd ?_)
  have tail : wpAny (model prog w) A (dictEntries o >>= fun es => (do
      let epoch ← dictEpoch o
      forIn (List.range es.size) PUnit.unit fun i (_ : PUnit) => (do
          let l ← dictEntries o
          match l[i]? with
          | some e => do
            holding [e.key, e.val] (dictPut d e.hash e.key e.val)
            let ep ← dictEpoch o
            if (ep != epoch) = true then do
              (unsupported "dict.changed-during-merge" : Sem PUnit)
              pure (ForInStep.yield PUnit.unit)
            else pure (ForInStep.yield PUnit.unit)
          | _ => do
            (unsupported "dict.changed-during-merge" : Sem PUnit)
            pure (ForInStep.yield PUnit.unit) : Sem (ForInStep PUnit))
      pure ())) Q E s := wpAny_bind (wpAny_dictEntries hoo hdo' (loop _ rfl))
  by_cases he : esd.isEmpty = true
  · rw [if_pos he]
    refine wpAny_bind (wpAny_dictEntries hoo hdo' ?_)
    refine wpAny_bind (skip _ _ ?_ _ fun e hne => ?_)
    · exact tail
    · cases q : e.key with
      | ref a => exact (hne a q).elim
      | _ => rfl
  · rw [if_neg he]
    exact tail
end

/-- two tracked dicts of ints and texts: the second taken over into the first -/
theorem merge_inv {X : Cx} {pins : List (Addr × Obj)} {σ : L2.St} {H : Hp} {s : Shared} {A : Around} {E : Value → Shared → Prop} {d o : Addr} {kvs more : List (Key × V)} {Q : Unit → Shared → Prop} (I : Inv X pins σ H s) (hd : H d = some (.dK kvs)) (ho : H o = some (.dK more))
    (hne : d ≠ o) (hz : kvs.length + more.length ≤ sizeLine) (h : ∀ s', Inv X pins σ (upd H d (.dK (mergeK kvs more))) s' → Q () s') : wpAny (model X.prog X.w) A (mergeMapping d (.ref o) false) Q E s := by
  obtain ⟨z1, hs1, vs1, r1, d1⟩ := dk_of I.hok hd
  obtain ⟨z2, hs2, vs2, r2, d2⟩ := dk_of I.hok ho
  have l1 : kvs.length = vs1.length := Paired.length r1
  have l2 : more.length = vs2.length := Paired.length r2
  refine merge_loop (knd := mixKind X.prog X.w) hne hs2 (fun k v hk a e => ?_) d1 d2 (fun h' dd _ sb => h _ ?_) (by omega)
  · subst e
    rcases keyIs_shape (show keyIs k (.ref a) = true from hk) with ⟨_, _, _, q⟩ | ⟨_, _, _, q⟩ <;> cases q
  · have he : ∃ q, h'.get? d = some q := let ⟨q, _, _, hq, _⟩ := dd; ⟨q, hq⟩
    have hl : (mergeK kvs more).length ≤ sizeLine := by
      have := length_mergeK more kvs
      omega
    exact d_write (t' := s.toks) I (by rw [hd]; exact True.intro) sb he (dk_new hl hs1 (r2.merge r1) dd)
/-- {**e, k: v} -/
def tDStar (te tk tv : TE) : TE := fun σ H Q => ∀ d, H d = none → te σ (upd H d (.dK [])) fun x H1 => ∃ a kvs, x = .ref a ∧ a ≠ d ∧ kvs.length ≤ 1000 ∧ H1 a = some (.dK kvs) ∧ H1 d = some (.dK []) ∧
  ∀ p, p ≠ d → H1 p = none → tk σ (upd (upd H1 d (.dK (mergeK [] kvs))) p (.dK [])) fun y H2 => tv σ H2 fun z H3 => ∃ k, y = kV k ∧ H3 d = some (.dK (mergeK [] kvs)) ∧ H3 p = some (.dK []) ∧
    Q (.ref d) (upd (upd H3 p (.dK [(k, z)])) d (.dK (putK (mergeK [] kvs) k z)))
theorem display_star {prog : Program} {w : World} {A : Around} {E : Value → Shared → Prop} {s : Shared} {m k v : Sem Value} {Q : Value → Shared → Prop}
    (h : wpAny (model prog w) A m (fun x s1 => wpAny (model prog w) A (mergeMapping s.heap.objs.size x false) (fun _ s2 => wpAny (model prog w) A (subDict [(k, v)]) (fun sub s3 =>
      wpAny (model prog w) A (mergeMapping s.heap.objs.size (.ref sub) false) (fun _ s4 => Q (.ref s.heap.objs.size) s4) (fun _ _ => False) s3) E s2) (fun _ _ => False) s1) E { s with heap := s.heap.push { cls := .type "dict", data := .dict #[] } }) :
    wpAny (model prog w) A (dictDisplay [(none, m), (some k, v)]) Q E s := by
  unfold dictDisplay
  dsimp only
  rw [List.forIn_cons]
  simp only [List.isEmpty_nil, if_true, pure_bind, bind_assoc]
  refine wpAny_bind (wpAny_alloc ?_)
  refine wpAny_bind (wpAny_holding (wpAny_mono h (fun x s1 h1 => ?_) fun _ _ e => e))
  refine wpAny_bind (wpAny_onRaise (wpAny_tryCatch (wpAny_onRaise (wpAny_holding (wpAny_mono h1 (fun _ s2 h2 => ?_) fun _ _ z => z.elim)))))
  rw [List.forIn_cons]
  refine wpAny_bind (wpAny_bind (PySem.W.KFB.if_not rfl (wpAny_pure ?_)))
  dsimp only
  rw [List.forIn_nil]
  refine wpAny_pure ?_
  refine wpAny_bind (PySem.W.KFB.if_not rfl ?_)
  dsimp only
  refine wpAny_bind (wpAny_holding (wpAny_mono h2 (fun sub s3 h3 => ?_) fun _ _ e => e))
  refine wpAny_bind (wpAny_onRaise (wpAny_holding (wpAny_mono h3 (fun _ s4 h4 => ?_) fun _ _ z => z.elim)))
  exact wpAny_pure (wpAny_pure h4)
theorem pe_dstar {X : Cx} {e k v : Expr} {te tk tv : TE} {pos : Pos} (he : PE X e te) (hk : PE X k tk) (hv : PE X v tv)
    (hs : (evalEachOpt [none, some k] X.env).zip ((evalEach [e, v] X.env).map fun v => do let x ← v; standAt pos; pure x) = [(none, do let x ← eval e X.env; standAt pos; pure x), (some (eval k X.env), do let x ← eval v X.env; standAt pos; pure x)] := by rfl) :
    PE X (.Dict [none, some k] [e, v] pos) (tDStar te tk tv) := by
  refine ⟨fun pins s σ H Q I q => ?_⟩
  rw [arm_eval_Dict, hs]
  refine wpAny_bind (wpAny_standAt (display_star ?_))
  have hn := I.hok.fresh (Nat.le_refl s.heap.objs.size)
  generalize hd : s.heap.objs.size = d at hn
  have I1 : Inv X pins σ (upd H d (.dK [])) { s with heap := s.heap.push { cls := .type "dict", data := .dict #[] } } := by
    rw [← hd]
    exact I.laid (t' := s.toks) (fun _ _ q => Heap.get?_push_of_some _ q) (Nat.le_refl _) (dk_empty s.heap I.big)
  refine wpAny_bind (thn (he.run pins _ σ _ _ I1 (q d hn)) fun u s1 ⟨x, H1, I2, rx, a, kvs, ex, hne, hlen, ha, hd1, q1⟩ => wpAny_bind (wpAny_standAt (wpAny_pure ?_)))
  subst ex
  obtain rfl : u = Value.ref a := rx
  refine merge_inv I2 hd1 ha (Ne.symm hne) (by rw [List.length_nil, sizeLine_eq]; omega) fun s2 I3 => ?_
  have hp := I3.hok.fresh (Nat.le_refl s2.heap.objs.size)
  have pd : s2.heap.objs.size ≠ d := fun z => by
    rw [z, upd_same] at hp
    cases hp
  have I4 := I3.laid (o := .dK []) (h' := s2.heap.push { cls := .type "dict", data := .dict #[] }) (t' := s2.toks) (fun _ _ q => Heap.get?_push_of_some _ q) (Nat.le_refl _) (dk_empty s2.heap I3.big)
  have hp' : H1 s2.heap.objs.size = none := by
    rw [upd_ne pd] at hp
    exact hp
  have q2 := q1 _ pd hp'
  refine wpAny_subDict (knd := mixKind X.prog X.w) (by show 1 ≤ 15; decide) (evalPairs_cons (thn (hk.run pins _ σ _ _ I4 q2) fun ku s3 ⟨y, H2, I5, ry, q3⟩ => wpAny_bind (thn (hv.run pins _ σ _ _ I5 q3) fun vu s4 ⟨z, H3, I6, rz, kk, ey, hd3, hp3, q4⟩ => wpAny_bind (wpAny_standAt (wpAny_pure (evalPairs_nil ?_))))))
  subst ey
  obtain ⟨z3, hs3, vs3, r3, d3⟩ := dk_of I6.hok hp3
  cases r3
  refine ⟨[(kk, vu)], ⟨kV_is ry, rfl, True.intro⟩, d3, fun h' dd sb => ?_⟩
  have he' : ∃ q, h'.get? s2.heap.objs.size = some q := let ⟨q, _, _, hq, _⟩ := dd; ⟨q, hq⟩
  have I7 : Inv X pins σ (upd H3 s2.heap.objs.size (.dK [(kk, z)])) { s4 with heap := h', toks := s4.toks + 1 } :=
    d_write (t' := s4.toks + 1) I6 (by rw [hp3]; exact True.intro) sb he' (dk_new (by show 1 ≤ sizeLine; rw [sizeLine_eq]; decide) hs3 (.cons ⟨rfl, rz⟩ .nil) dd)
  have hmz : (mergeK [] kvs).length ≤ 1000 := by
    have := length_mergeK kvs []
    rw [List.length_nil] at this
    omega
  refine merge_inv I7 (by rw [upd_ne (Ne.symm pd)]; exact hd3) upd_same (Ne.symm pd) (by rw [sizeLine_eq, List.length_singleton]; omega) fun s5 I8 => ?_
  exact ⟨.ref d, _, I8, rfl, q4⟩
end Ku
/-! {k: v for ..} whose keys are tuples: the hand layer's rule for keys that are numbers and texts (HandS.DictComp), turned to keys that are tuples. -/
namespace Ku
open PySem PySem.Spec PyProof.Rows L2
/-- d[k] = v by a comprehension, the key a tuple at b -/
theorem setT {X : Cx} {pins : List (Addr × Obj)} {σ : L2.St} {H : Hp} {s : Shared} {E : Value → Shared → Prop} {D b : Addr} {kvs : List (List Key × V)} {k : List Key} {v : V} {u r : Value} {Q : Unit → Shared → Prop} (hu : X.A.units + 1 < cLine) (I : L2.Inv X pins σ H s) (hD : H D = some (.dT kvs))
    (hb : H b = some (.tup (k.map kV))) (hz : kvs.length < sizeLine) (ry : RelV (.ref b) u) (rv : RelV v r) (h : ∀ s', L2.Inv X pins σ (upd H D (.dT (putK kvs k v))) s' → Q () s') : wpAny (model X.prog X.w) X.A (dictSet D u r) Q E s := by
  obtain rfl : u = Value.ref b := ry
  obtain ⟨z, hd, xs, rel, dd⟩ := dt_of I.hok hD
  have hzv : xs.length ≤ sizeLine := by rw [← Paired.length rel]; exact z
  have hl : (putK kvs k v).length ≤ sizeLine := by have := length_putK kvs k v; omega
  refine wpAny_dictSet_heap (hsz := hzv) (show (tupleKind (mixKind X.prog X.w)).room X.A from Nat.lt_of_succ_lt hu) (key_of I.hok hb) dd fun h' dd' hs => h _ ?_
  obtain ⟨q, es, ep, hq, h2, h3, h4, _, h5⟩ := dd'
  refine d_write I (by rw [hD]; exact True.intro) hs ⟨q, hq⟩ ⟨hl, hd, _, (rel.put k hb rv).keeps fun c ys ec => ?_, q, es, ep, hq, h2, h3, h4, h5⟩
  rw [upd_ne (ne_of ec hD (fun z => nomatch z))]
  exact ec
section
variable {X : Cx}
/-- D the new dict, its keys tuples that stand -/
def tDcT (A : Around) (wi : TI) (g : TG) (tt : TT) (tk tv : TE) (vs : List Nat) : TE := fun σ H Q => wi σ H fun J H1 => ∀ D, H1 D = none → ∃ W : Nat → Nat → Hp → Prop, (∃ m, W 0 m (upd H1 D (.dT []))) ∧ ∀ i m H, W i m H →
  (J.stop i H ∧ Q (.ref D) H) ∨ (J.go i H ∧ ∃ Nx : Hp → Prop, (∀ H', Nx H' → ∃ m', m' < m ∧ W (i + 1) m' H') ∧ ∀ x H', J.yld i H x H' → g x (wipe σ vs) H' fun σ2 H2 => wipe σ2 vs = wipe σ vs ∧ tt σ2 H2 fun b H3 =>
    if b = true then tk σ2 H3 fun y H4 => tv σ2 H4 fun z H5 => ∃ kvs k b, y = .ref b ∧ H5 b = some (.tup (k.map kV)) ∧ H5 D = some (.dT kvs) ∧ kvs.length < sizeLine ∧ A.units + 1 < cLine ∧ Nx (upd H5 D (.dT (putK kvs k z))) else Nx H3)
theorem dcT_core {pins : List (Addr × Obj)} {s : Shared} {σ : L2.St} {H : Hp} {Q : VK} {kx vx tg iter : Expr} {ifs : List Expr} {scope : Scope} {own : List (Str × Nat)} {pos pos' : Pos} {wi : TI} {g : TG} {tt : TT} {tk tv : TE} {use : Option (Value → Sem Unit)} {Qf : Value → Shared → Prop}
    (hc : X.calm = true) (hN : X.N.Nodup) (I : L2.Inv X pins σ H s) (hi : PI X tg iter wi) (ok : BlkOk X.N X.env.scope scope own)
    (hg : ∀ (s : Shared) (H : Hp) (C : Addr) (cl : List (Str × Addr)) (fp : List Addr), PG (X.blk s H scope (compEnvC scope cl C X.env) fp) tg g) (ht : ∀ (s : Shared) (H : Hp) (C : Addr) (cl : List (Str × Addr)) (fp : List Addr), PTs (X.blk s H scope (compEnvC scope cl C X.env) fp) ifs tt)
    (hk : ∀ (s : Shared) (H : Hp) (C : Addr) (cl : List (Str × Addr)) (fp : List Addr), PE (X.blk s H scope (compEnvC scope cl C X.env) fp) kx tk)
    (he : ∀ (s : Shared) (H : Hp) (C : Addr) (cl : List (Str × Addr)) (fp : List Addr), PE (X.blk s H scope (compEnvC scope cl C X.env) fp) vx tv) (hs : ∀ x, foldedSetIterable iter X.env x = pure x)
    (h : tDcT X.A wi g tt tk tv (own.map (·.2)) σ H Q)
    (hRR : ∀ D C s' m H', L2.Inv X pins σ H' s' → Q (.ref D) H' → s'.heap.Ns C m → FpOk X pins H' C → compPost (model X.prog X.w) X.A X.xe use Qf (.ref D) C (.ok .next) s') :
    wpAny (model X.prog X.w) X.A (comprehension (.DictComp kx vx [⟨tg, iter, ifs, 0⟩] scope pos) scope X.env pos' newDict false (eval iter X.env) use) Qf X.xe s := by
  have hfree : ∀ y ∈ scope.names, y.2 = .free → ∃ c, X.env.cells.lookup y.1 = some c := fun y hy e => by
    rcases ok.free y hy e with k | k
    · exact I.ok.has _ (.inl k)
    · exact I.ok.has _ (.inr k)
  refine wpAny_comprehension_free (use := use) rfl hs (closure_ok hfree) ok.kind (fun y hy e => by rw [ok.uniq y hy, e])
    (thn (hi.run pins s σ H _ I h) fun xv s1 hx => thn hx fun itv s2 h2 => ?_)
  obtain ⟨it, fp, tn, J, H2, e, I2, T, st2, f2, q⟩ := h2
  subst e
  refine wpAny_newObj_type (newEnv_comp ?_)
  generalize hD : s2.heap.objs.size = D
  have hDn : H2 D = none := I2.hok.fresh (Nat.le_of_eq hD)
  obtain ⟨W, ⟨m0, w0⟩, turn⟩ := q D hDn
  -- the new list
  generalize hs3 : ({ s2 with heap := s2.heap.push { cls := .type "dict", data := .dict #[] } } : Shared) = s3
  have I3 : L2.Inv X pins σ (upd H2 D (.dT [])) s3 := by
    rw [← hs3]
    refine I2.laid (t' := s2.toks) (fun b o e => Heap.get?_push_of_some _ e) (Nat.le_of_eq hD) ?_
    rw [← hD]
    exact dt_empty s2.heap I2.big
  have h3 : s3.heap = s2.heap.push { cls := .type "dict", data := .dict #[] } := by rw [← hs3]
  have sz : ∀ b ∈ fp, b < s2.heap.objs.size := fun b hb => by
    obtain ⟨o, e, _⟩ := T.obj _ _ st2 b hb
    exact Heap.lt_size e
  have f3 : ∀ b ∈ fp, FpOk X pins (upd H2 D (.dT [])) b ∧ b < s3.heap.objs.size := fun b hb => by
    have hlt := sz b hb
    refine ⟨⟨?_, (f2 b hb).2⟩, by rw [h3, Heap.size_push]; exact Nat.lt_succ_of_lt hlt⟩
    rw [upd_ne (by rw [← hD]; exact Nat.ne_of_lt hlt)]
    exact (f2 b hb).1
  have st3 : tn 0 s3.heap := T.keep _ _ _ st2 fun b _ o e => by rw [h3]; exact Heap.get?_push_of_some _ e
  have I4 := block_start I3 ok hN f3
  have pg := hg s3 (upd H2 D (.dT [])) s3.heap.objs.size (cellsFrom (s3.heap.objs.size + 1) scope.names (cloFrom X.env.cells scope.names [])) fp
  have pt := ht s3 (upd H2 D (.dT [])) s3.heap.objs.size (cellsFrom (s3.heap.objs.size + 1) scope.names (cloFrom X.env.cells scope.names [])) fp
  have pk := hk s3 (upd H2 D (.dT [])) s3.heap.objs.size (cellsFrom (s3.heap.objs.size + 1) scope.names (cloFrom X.env.cells scope.names [])) fp
  have pe := he s3 (upd H2 D (.dT [])) s3.heap.objs.size (cellsFrom (s3.heap.objs.size + 1) scope.names (cloFrom X.env.cells scope.names [])) fp
  show codeAny _ _ (.compStart (.DictComp kx vx [⟨tg, iter, ifs, 0⟩] scope pos) 0 (.ref it) (.ref D) (compEnvC scope (cellsFrom (s3.heap.objs.size + 1) scope.names (cloFrom X.env.cells scope.names [])) s3.heap.objs.size X.env)) (compPost (model X.prog X.w) X.A X.xe use Qf (.ref D) s3.heap.objs.size) { s3 with heap := pushCells (s3.heap.push { cls := .type "dict", data := .dict #[] }) scope.names }
  have nfp : ∀ b ∈ fp, (upd H2 D (.dT [])) b = none := fun b hb => (f3 b hb).1.1
  generalize hce : compEnvC scope (cellsFrom (s3.heap.objs.size + 1) scope.names (cloFrom X.env.cells scope.names [])) s3.heap.objs.size X.env = ce at I4 pg pt pk pe ⊢
  have cL : ce.locals = s3.heap.objs.size := by subst hce; rfl
  generalize hH3 : upd H2 D (.dT []) = H3 at I3 I4 pg pt pk pe w0 nfp f3
  generalize hs4 : ({ s3 with heap := pushCells (s3.heap.push { cls := .type "dict", data := .dict #[] }) scope.names } : Shared) = s4 at I4 ⊢
  have st4 : tn 0 s4.heap := T.keep _ _ _ st3 fun b _ o e => by rw [← hs4]; exact pushCells_keeps _ _ _ _ (Heap.get?_push_of_some _ e)
  have stat : ∀ {σ' : L2.St} {H' : Hp} {s' : Shared}, L2.Inv (X.blk s3 H3 scope ce fp) [] σ' H' s' → (∀ b ∈ fp, H' b = none) → ∀ b ∈ fp, FpOk (X.blk s3 H3 scope ce fp) [] H' b := fun {σ' H' s'} I' hn b hb =>
    ⟨hn b hb, (I'.ok.exf b hb).1, I'.ok.exfs b hb, .inl hb, fun x c e => (I'.ok.exf b hb).2 x c e, fun p hp => absurd (show p ∈ ([] : List (Addr × Obj)) ++ [] from hp) (by simp)⟩
  have loop : codeAny (model X.prog X.w) X.A (.compLoop (.DictComp kx vx [⟨tg, iter, ifs, 0⟩] scope pos) 0 (.ref it) (.ref D) ce) (compPost (model X.prog X.w) X.A X.xe use Qf (.ref D) s3.heap.objs.size) s4 := by
    refine compLoop_anyD (fun n s' => ∃ i H', L2.Inv (X.blk s3 H3 scope ce fp) [] (wipe σ (own.map (·.2))) H' s' ∧ tn i s'.heap ∧ (∀ b ∈ fp, H' b = none) ∧ W i n H') ?_ m0 ⟨0, H3, I4, st4, nfp, w0⟩
    rintro n s5 ⟨i, H5, I5, st5, n5, w5⟩
    rcases turn i n H5 w5 with ⟨stop, qq⟩ | ⟨go, Nx, hNx, step⟩
    · have td := T.done (X.blk s3 H3 scope ce fp) rfl rfl rfl hc i [] s5 _ H5 (fun _ _ => False) I5 (stat I5 n5) st5 stop
      refine thnF td fun r s6 ⟨hr, I6⟩ => ?_
      subst hr
      -- back in the def's context
      have I7 : L2.Inv X pins σ H5 s6 := I3.call' (ch := fp) I6.os I6.base I6.hok I6.bare fun b hb => ⟨(f3 b hb).1.2.2.2.1, (f3 b hb).1.2.1, (f3 b hb).1.2.2.2.2.1, (f3 b hb).1.2.2.2.2.2⟩
      have nC : H5 s3.heap.objs.size = none := by
        have z : H5 ce.locals = none := I6.free
        rw [cL] at z
        exact z
      obtain ⟨m, hn, _⟩ := I6.loc
      have hn : s6.heap.Ns ce.locals m := hn
      rw [cL] at hn
      exact hRR D s3.heap.objs.size s6 m H5 I7 qq hn (I3.fpOk (Nat.le_refl _) nC)
    · have ti := T.item (X.blk s3 H3 scope ce fp) rfl rfl rfl hc i [] s5 _ H5 (fun _ _ => False) I5 (stat I5 n5) st5 go
      refine thnF ti fun r s6 ⟨u, hr, h6⟩ => ?_
      subst hr
      refine thnF h6 fun _ s7 ⟨x, H7, I7, r7, y7, st7, n7⟩ => ?_
      have I7' := I7.pinned (stat I7 n7) (T.obj _ _ st7)
      refine thnF (pg.run _ s7 _ H7 x u _ I7' r7 (step x H7 y7)) fun _ s8 ⟨σ8, H8, I8, hw8, q8⟩ => ?_
      refine thnF (pt.run _ s8 σ8 H8 _ I8 q8) fun b s9 ⟨H9, I9, q9⟩ => ?_
      -- the turn's end
      have fin : ∀ {s' : Shared} {H' : Hp}, L2.Inv (X.blk s3 H3 scope ce fp) ([] ++ pinsAt fp s7.heap) σ8 H' s' → Nx H' → ∃ m, m < n ∧ ∃ i H', L2.Inv (X.blk s3 H3 scope ce fp) [] (wipe σ (own.map (·.2))) H' s' ∧ tn i s'.heap ∧ (∀ b ∈ fp, H' b = none) ∧ W i m H' := fun {s' H'} I' nx => by
        obtain ⟨m', hm, w'⟩ := hNx H' nx
        have pin' : ∀ b ∈ fp, ∀ o, s7.heap.get? b = some o → s'.heap.get? b = some o ∧ H' b = none := fun b hb o e =>
          let z := I'.pin (b, o) (List.mem_append_right _ (List.mem_append_right _ (mem_pinsAt hb e)))
          ⟨z.1, z.2.1⟩
        have hl : (wipe σ (own.map (·.2))).length = σ8.length := by rw [← hw8, wipe_length]
        refine ⟨m', hm, i + 1, H', (I'.unpinned (pins := [])).weak hl (fun j v e => ?_), T.keep _ _ _ st7 fun b hb o e => (pin' b hb o e).1, fun b hb => ?_, w'⟩
        · rw [← hw8] at e
          exact (wipe_some e).1
        · obtain ⟨o, e, _⟩ := T.obj _ _ st7 b hb
          exact (pin' b hb o e).2
      cases b with
      | false =>
        simp only [Bool.false_eq_true, if_false] at q9 ⊢
        exact fin I9 q9
      | true =>
        simp only [if_true] at q9 ⊢
        refine thnF (pk.run _ s9 σ8 H9 _ I9 q9) fun z s10 ⟨yk, H10, I10, r10, q10⟩ => ?_
        refine thnF (pe.run _ s10 σ8 H10 _ I10 q10) fun z2 s11 ⟨yv, H11, I11, r11, kvs, k, b, ek, hb11, hD11, hz11, hu11, nx⟩ => ?_
        subst ek
        exact setT (X := X.blk s3 H3 scope ce fp) hu11 I11 hD11 hb11 hz11 r10 r11 fun s12 I12 => fin I12 nx
  exact codeAny_compStart_dict loop (T.self X.A 0 _ _ _ st4 loop)
/-- as a value -/
theorem pe_dcT {kx vx tg iter : Expr} {ifs : List Expr} {scope : Scope} {own : List (Str × Nat)} {pos : Pos} {wi : TI} {g : TG} {tt : TT} {tk tv : TE} (hc : X.calm = true) (hN : X.N.Nodup) (hi : PI X tg iter wi) (ok : BlkOk X.N X.env.scope scope own)
    (hg : ∀ (s : Shared) (H : Hp) (C : Addr) (cl : List (Str × Addr)) (fp : List Addr), PG (X.blk s H scope (compEnvC scope cl C X.env) fp) tg g) (ht : ∀ (s : Shared) (H : Hp) (C : Addr) (cl : List (Str × Addr)) (fp : List Addr), PTs (X.blk s H scope (compEnvC scope cl C X.env) fp) ifs tt)
    (hk : ∀ (s : Shared) (H : Hp) (C : Addr) (cl : List (Str × Addr)) (fp : List Addr), PE (X.blk s H scope (compEnvC scope cl C X.env) fp) kx tk)
    (he : ∀ (s : Shared) (H : Hp) (C : Addr) (cl : List (Str × Addr)) (fp : List Addr), PE (X.blk s H scope (compEnvC scope cl C X.env) fp) vx tv) (hs : ∀ x, foldedSetIterable iter X.env x = pure x := by intro _; rfl) :
    PE X (.DictComp kx vx [⟨tg, iter, ifs, 0⟩] scope pos) (tDcT X.A wi g tt tk tv (own.map (·.2))) := by
  refine ⟨fun pins s σ H Q I h => ?_⟩
  rw [arm_eval_DictComp]
  refine dcT_core hc hN I hi ok hg ht hk he hs h fun D C s' m H' I' q hn f => ⟨m, hn, fun h'' sb => ?_⟩
  obtain ⟨f0, f1, f2, f3, f4, f5⟩ := f
  exact ⟨.ref D, H', I'.turned (t' := s'.toks) (fun b o hb e => (sb.2 b hb).trans e) f0 f1 f3 f4 f5, rfl, q⟩
/-- name = {..} on one line, the name a local -/
theorem ps_setDcT {i : Nat} {y : Str} {py : Pos} {kx vx tg iter : Expr} {ifs : List Expr} {scope : Scope} {own : List (Str × Nat)} {pos spos : Pos} {wi : TI} {g : TG} {tt : TT} {tk tv : TE} (hc : X.calm = true) (hN : X.N.Nodup) (hy : X.N[i]? = some y) (hyl : X.env.scope.names.lookup y = some .local)
    (hsw : swapsWith (.DictComp kx vx [⟨tg, iter, ifs, 0⟩] scope pos) (some (.Name y py)) spos.line X.env = pure true) (hi : PI X tg iter wi) (ok : BlkOk X.N X.env.scope scope own)
    (hg : ∀ (s : Shared) (H : Hp) (C : Addr) (cl : List (Str × Addr)) (fp : List Addr), PG (X.blk s H scope (compEnvC scope cl C X.env) fp) tg g) (ht : ∀ (s : Shared) (H : Hp) (C : Addr) (cl : List (Str × Addr)) (fp : List Addr), PTs (X.blk s H scope (compEnvC scope cl C X.env) fp) ifs tt)
    (hk : ∀ (s : Shared) (H : Hp) (C : Addr) (cl : List (Str × Addr)) (fp : List Addr), PE (X.blk s H scope (compEnvC scope cl C X.env) fp) kx tk)
    (he : ∀ (s : Shared) (H : Hp) (C : Addr) (cl : List (Str × Addr)) (fp : List Addr), PE (X.blk s H scope (compEnvC scope cl C X.env) fp) vx tv) (hs : ∀ x, foldedSetIterable iter X.env x = pure x := by intro _; rfl) :
    PS X (.Assign [.Name y py] (.DictComp kx vx [⟨tg, iter, ifs, 0⟩] scope pos) spos) (tAsg (tDcT X.A wi g tt tk tv (own.map (·.2))) (gName i)) := by
  refine ⟨fun pins s σ H D I h => ?_⟩
  rw [exec_Assign_Name_used _ _ _ _ hsw]
  refine wpAny_bind (wpAny_standAt (wpAny_bind ?_))
  show wpAny _ X.A (do let _ ← comprehension (.DictComp kx vx [⟨tg, iter, ifs, 0⟩] scope pos) scope X.env (firstIterPos [⟨tg, iter, ifs, 0⟩] pos) newDict false (eval iter X.env) (some (assign (.Name y py) X.env))) _ _ s
  have h : tDcT X.A wi g tt tk tv (own.map (·.2)) σ H (fun x H1 => gName i x σ H1 D.nx) := h
  refine wpAny_bind (thn (dcT_core (Qf := fun _ s' => SP X pins D .next s') hc hN I hi ok hg ht hk he hs h fun L C s' m H' I' q hn f => ?_) fun _ s' hq => wpAny_pure (wpAny_pure hq))
  show wpAny _ _ (assign (.Name y py) X.env (.ref L)) _ _ _
  refine wpAny_assign_Name (store_ok2 (v := V.ref L) I' hN hy (.inl hyl) rfl (fun s2 I2 ⟨a, sb, ha⟩ => ?_) (.inr hyl))
  obtain ⟨f0, f1, f2, f3, f4, f5⟩ := f
  have haC : C ≠ a := by
    rcases ha with z | z
    · rw [z]; exact f1
    · exact fun e => f4 y a z e.symm
  refine ⟨m, hn.sameBut sb haC, fun h3 sb3 => ?_⟩
  exact ⟨_, H', I2.turned (t' := s2.toks) (fun b o hb e => (sb3.2 b hb).trans e) f0 f1 f3 f4 f5, q⟩
theorem swD_true {kx vx : Expr} {gs : List Comprehension} {scope : Scope} {pos py : Pos} {y : Str} {l : Nat} {env : Env} (hk : env.scope.kind = .function) (hy : env.scope.names.lookup y = some .local) (hl : (py.line == pos.line) = true)
    (ha : (scope.names.any fun (n, k) => n == y && (k == .local || k == .cell)) = false) : swapsWith (.DictComp kx vx gs scope pos) (some (.Name y py)) l env = pure true := by
  have ky : env.kindOf y = some .local := hy
  have hb : env.blockKind = .function := by unfold Env.blockKind; rw [hk]; rfl
  unfold swapsWith
  simp only [hb, ky, ha, Expr.pos, hl]
  rfl
end
/-- over a walk -/
theorem dcT_it {A : Around} {J : It} {n : Nat} {G : Hp → Prop} {Y : Nat → Hp → V → Hp → Prop} (w : Walk J n G Y) {g : TG} {tt : TT} {tk tv : TE} {vs : List Nat} {σ : L2.St} {H1 : Hp} {D : Addr} {Qd : Hp → Prop} (Pv : Nat → Hp → Prop) (h0 : Pv 0 (upd H1 D (.dT []))) (hG : ∀ i H, i ≤ n → Pv i H → G H)
    (hs : ∀ i x H H', i < n → Pv i H → Y i H x H' → g x (wipe σ vs) H' fun σ2 H2 => wipe σ2 vs = wipe σ vs ∧ tt σ2 H2 fun b H3 =>
      if b = true then tk σ2 H3 fun y H4 => tv σ2 H4 fun z H5 => ∃ kvs k b, y = .ref b ∧ H5 b = some (.tup (k.map kV)) ∧ H5 D = some (.dT kvs) ∧ kvs.length < sizeLine ∧ A.units + 1 < cLine ∧ Pv (i + 1) (upd H5 D (.dT (putK kvs k z))) else Pv (i + 1) H3) (hd : ∀ H, Pv n H → Qd H) :
    ∃ W : Nat → Nat → Hp → Prop, (∃ m, W 0 m (upd H1 D (.dT []))) ∧ ∀ i m H, W i m H →
      (J.stop i H ∧ Qd H) ∨ (J.go i H ∧ ∃ Nx : Hp → Prop, (∀ H', Nx H' → ∃ m', m' < m ∧ W (i + 1) m' H') ∧ ∀ x H', J.yld i H x H' → g x (wipe σ vs) H' fun σ2 H2 => wipe σ2 vs = wipe σ vs ∧ tt σ2 H2 fun b H3 =>
        if b = true then tk σ2 H3 fun y H4 => tv σ2 H4 fun z H5 => ∃ kvs k b, y = .ref b ∧ H5 b = some (.tup (k.map kV)) ∧ H5 D = some (.dT kvs) ∧ kvs.length < sizeLine ∧ A.units + 1 < cLine ∧ Nx (upd H5 D (.dT (putK kvs k z))) else Nx H3) := by
  refine ⟨fun i m H => m = n - i ∧ i ≤ n ∧ Pv i H, ⟨n, by simp, Nat.zero_le _, h0⟩, ?_⟩
  rintro i m H ⟨rfl, hi, p⟩
  have q := hG i H hi p
  by_cases hlt : i < n
  · exact .inr ⟨w.goes i H hlt q, Pv (i + 1), fun H' p' => ⟨n - (i + 1), by omega, rfl, hlt, p'⟩, fun x H' y => hs i x H H' hlt p (w.yields i H x H' hlt q y)⟩
  · have e : i = n := by omega
    subst e
    exact .inl ⟨w.stops H q, hd H p⟩
end Ku
/-! sorted(x), sorted(x, reverse=b): x whatever is collected, its items tuples of numbers and texts. -/
namespace Ku
open PySem PySem.Spec PyProof.Rows L2

/-- a key as a datum -/
def kD : Key → PyData
  | .inl i => .int i
  | .inr x => .str x
def rowD (r : List Key) : PyData := .tuple (r.map kD)
section
variable {prog : Program} {w : World} {A : Around} {E : Value → Shared → Prop} {s : Shared}
/-- sorted(v, ..): what v collects is laid as a new list, which is sorted -/
theorem sorted_collects {v : Value} {kw : List (Str × Value)} {Q : Value → Shared → Prop} (ha1 : argsOk "sorted" ⟨[v], kw⟩)
    (h : wpAny (model prog w) A.in1 (collect v) (fun vs s1 => vs.length ≤ sizeLine ∧
      wpAny (model prog w) A.in1 (call (.builtin "list.sort") [.ref s1.heap.objs.size] kw) (fun _ s2 => Q (.ref s1.heap.objs.size) s2) E { s1 with heap := s1.heap.push (seqObj "list" vs.toArray 0) }) E s) :
    wpAny (model prog w) A (call (.builtin "sorted") [v] kw) Q E s := by
  refine call_function_entry_kw kind_sorted plain_sorted entry_sorted ha1 ?_
  unfold Builtin.«sorted»
  refine wpAny_bind (m := checkCount "sorted" 1 1 _) (wpAny_pure ?_)
  refine wpAny_bind (wpAny_mono h (fun vs s1 h1 => ?_) fun _ _ e => e)
  obtain ⟨hz, h1⟩ := h1
  refine wpAny_bind (wpAny_newList ?_ hz)
  refine wpAny_bind (wpAny_holding (wpAny_mono h1 (fun _ s2 h2 => ?_) fun _ _ e => e))
  exact wpAny_pure ⟨_, rfl, h2⟩
end

/-- tuples of numbers and texts stand at ps -/
abbrev KRows (H : Hp) : List Addr → List (List Key) → Prop := Paired fun p r => H p = some (.tup (r.map kV))
/-- rows of one shape, not empty -/
def Shaped (rows : List (List Key)) : Prop := ∀ r ∈ rows, r ≠ [] ∧ ∀ r' ∈ rows, alike (rowD r) (rowD r') = true
where alike := PySem.W.alike
theorem reads_atoms {h : Heap} : ∀ {r : List Key} {us : List Value}, Vals (r.map kV) us → ReadsAll h us (r.map kD) []
  | [], _, v => by
    rw [List.map_nil] at v
    cases v
    exact .nil
  | k :: r, _, v => by
    rw [List.map_cons] at v
    cases v with
    | cons a t =>
      refine PySem.ReadsAll.cons (as := []) ?_ (reads_atoms t)
      cases k with
      | inl i => obtain ⟨t, rfl⟩ := (show ∃ t, _ = Value.int i t from a); exact .int i t
      | inr x => obtain ⟨t, rfl⟩ := (show ∃ t, _ = Value.str x t from a); exact .str x t
theorem reads_row {X : Cx} {pins : List (Addr × Obj)} {σ : L2.St} {H : Hp} {s : Shared} (I : Inv X pins σ H s) {p : Addr} {r : List Key} (h : H p = some (.tup (r.map kV))) : Reads s.heap (.ref p) (rowD r) [] := by
  obtain ⟨_, its, rv, o, h1, h2, n, h3⟩ := (show ObjOk X.prog X.w H s.heap p (.tup (r.map kV)) from I.hok p _ h)
  exact .tuple h1 h2 h3 (by simpa using reads_atoms rv)
theorem depth_atoms : ∀ r : List Key, PyData.depthAll (r.map kD) = 0
  | [] => by simp [PyData.depthAll]
  | k :: r => by
    rw [List.map_cons, PyData.depthAll, depth_atoms r]
    cases k <;> simp [kD, PyData.depth]
theorem depth_row (r : List Key) : (rowD r).depth = 1 := by
  unfold rowD
  rw [PyData.depth, depth_atoms] <;> rfl
/-- the new list of a sort: its items, by rows -/
def rSortR (le : List Key → List Key → Bool) (rows : List (List Key)) (Q : VK) (H : Hp) : Prop := ∀ q ps', KRows H ps' (rows.mergeSort le) → H q = none → Q (.ref q) (upd H q (.lst (ps'.map V.ref)))
theorem each_rows {H : Hp} : ∀ {ps : List Addr} {rows : List (List Key)}, KRows H ps rows → PySem.W.EachIs (fun (v : Value) r => ∃ p, v = .ref p ∧ H p = some (.tup (r.map kV))) (ps.map Value.ref) rows
  | _, _, .nil => .nil
  | _, _, .cons h t => .cons ⟨_, rfl, h⟩ (each_rows t)
theorem rows_each {H : Hp} : ∀ {vs : List Value} {rows : List (List Key)}, PySem.W.EachIs (fun (v : Value) r => ∃ p, v = .ref p ∧ H p = some (.tup (r.map kV))) vs rows → ∃ ps : List Addr, vs = ps.map Value.ref ∧ KRows H ps rows
  | _, _, .nil => ⟨[], rfl, .nil⟩
  | _, _, .cons ⟨p, e, h⟩ t => by
    obtain ⟨ps, e2, h2⟩ := rows_each t
    exact ⟨p :: ps, by rw [e, e2]; rfl, .cons h h2⟩
theorem vals_refs : ∀ ps : List Addr, Vals (ps.map V.ref) (ps.map Value.ref)
  | [] => .nil
  | _ :: ps => .cons rfl (vals_refs ps)
theorem refs_vals : ∀ {ps : List Addr} {us : List Value}, Vals (ps.map V.ref) us → us = ps.map Value.ref
  | [], _, v => by
    rw [List.map_nil] at v
    cases v
    rfl
  | p :: ps, _, v => by
    rw [List.map_cons] at v
    cases v with
    | cons a t =>
      obtain rfl := (show _ = Value.ref p from a)
      rw [refs_vals t] <;> rfl
theorem map_enc_alike {rows : List (List Key)} (h : Shaped rows) : PySem.W.AllAlike (rows.map rowD) := by
  intro d hd d' hd'
  obtain ⟨r, hr, rfl⟩ := List.mem_map.mp hd
  obtain ⟨r', hr', rfl⟩ := List.mem_map.mp hd'
  exact (h r hr).2 r' hr'
theorem map_enc_sortable {rows : List (List Key)} (h : Shaped rows) : PySem.W.Sortable (rows.map rowD) := .inl fun d hd => by
  obtain ⟨r, hr, rfl⟩ := List.mem_map.mp hd
  cases r with
  | nil => exact ((h _ hr).1 rfl).elim
  | cons k r => exact ⟨kD k, r.map kD, rfl⟩
section
variable {X : Cx} {pins : List (Addr × Obj)} {σ : L2.St} {H : Hp} {s : Shared}
/-- the sort of the list just laid -/
theorem sort_laid {A : Around} {E : Value → Shared → Prop} {rev : Bool} {ps : List Addr} {rows : List (List Key)} {Q : VK} (I : Inv X pins σ H s) (hr : KRows H ps rows) (hs : Shaped rows) (hl : rows.length ≤ sizeLine) (hu : A.units + 1 + 1 < cLine)
    (q : rSortR (PySem.W.dataLe rev rowD) rows Q H) :
    wpAny (model X.prog X.w) A (call (.builtin "list.sort") [.ref s.heap.objs.size] [(Str.ofString "reverse", .bool rev)]) (fun _ s2 => EP X pins σ Q (.ref s.heap.objs.size) s2) E { s with heap := s.heap.push (seqObj "list" (ps.map Value.ref).toArray 0) } := by
  have ho : (s.heap.push (seqObj "list" (ps.map Value.ref).toArray 0)).get? s.heap.objs.size = some (seqObj "list" (ps.map Value.ref).toArray 0) := Heap.get?_push_size _ rfl
  have I1 : Inv X pins σ H { s with heap := s.heap.push (seqObj "list" (ps.map Value.ref).toArray 0) } := I.kept (t' := s.toks) fun b o e => Heap.get?_push_of_some _ e
  have el := each_rows hr
  refine PySem.W.list_sort_rev_data (R := fun (v : Value) r => ∃ p, v = .ref p ∧ H p = some (.tup (r.map kV))) (enc := rowD) (bs := rows) (vs := ps.map Value.ref) ho el (el.mono fun v r ⟨p, e, h⟩ => ⟨[], by rw [e]; exact reads_row I1 h, by simp⟩)
    (map_enc_alike hs) (map_enc_sortable hs) hl (fun r _ => by rw [depth_row]; exact hu) fun out hol eo => ?_
  obtain ⟨ps', e', hr'⟩ := rows_each eo
  obtain ⟨c, hc⟩ := sortedHeap_at (vs := ps.map Value.ref) (out := out.toArray) ho
  have hn := I.hok.fresh (Nat.le_refl s.heap.objs.size)
  have keep : ∀ b o, s.heap.get? b = some o → (sortedHeap (s.heap.push (seqObj "list" (ps.map Value.ref).toArray 0)) s.heap.objs.size (ps.map Value.ref) out.toArray).get? b = some o := fun b o e => by
    have hlt := Heap.lt_size e
    rw [sortedHeap_old (Nat.ne_of_lt hlt) (by rw [Heap.size_push]; exact Nat.lt_succ_of_lt hlt)]
    exact Heap.get?_push_of_some _ e
  refine ⟨.ref s.heap.objs.size, _, I.laid (o := .lst (ps'.map V.ref)) (t' := s.toks) keep (Nat.le_refl _) ⟨?_, out, c, by rw [e']; exact vals_refs ps', hc⟩, rfl, q _ ps' hr' hn⟩
  rw [List.length_map, Paired.length hr', (List.mergeSort_perm _ _).length_eq]
  exact hl
/-- .. without the keyword -/
theorem sort_laid0 {A : Around} {E : Value → Shared → Prop} {ps : List Addr} {rows : List (List Key)} {Q : VK} (I : Inv X pins σ H s) (hr : KRows H ps rows) (hs : Shaped rows) (hl : rows.length ≤ sizeLine) (hu : A.units + 1 + 1 < cLine)
    (q : rSortR (PySem.W.dataLe false rowD) rows Q H) :
    wpAny (model X.prog X.w) A (call (.builtin "list.sort") [.ref s.heap.objs.size]) (fun _ s2 => EP X pins σ Q (.ref s.heap.objs.size) s2) E { s with heap := s.heap.push (seqObj "list" (ps.map Value.ref).toArray 0) } := by
  have ho : (s.heap.push (seqObj "list" (ps.map Value.ref).toArray 0)).get? s.heap.objs.size = some (seqObj "list" (ps.map Value.ref).toArray 0) := Heap.get?_push_size _ rfl
  have I1 : Inv X pins σ H { s with heap := s.heap.push (seqObj "list" (ps.map Value.ref).toArray 0) } := I.kept (t' := s.toks) fun b o e => Heap.get?_push_of_some _ e
  have el := each_rows hr
  refine PySem.W.list_sort_data (R := fun (v : Value) r => ∃ p, v = .ref p ∧ H p = some (.tup (r.map kV))) (enc := rowD) (bs := rows) (vs := ps.map Value.ref) ho el (el.mono fun v r ⟨p, e, h⟩ => ⟨[], by rw [e]; exact reads_row I1 h, by simp⟩)
    (map_enc_alike hs) (map_enc_sortable hs) hl (fun r _ => by rw [depth_row]; exact hu) fun out hol eo => ?_
  obtain ⟨ps', e', hr'⟩ := rows_each eo
  obtain ⟨c, hc⟩ := sortedHeap_at (vs := ps.map Value.ref) (out := out.toArray) ho
  have hn := I.hok.fresh (Nat.le_refl s.heap.objs.size)
  have keep : ∀ b o, s.heap.get? b = some o → (sortedHeap (s.heap.push (seqObj "list" (ps.map Value.ref).toArray 0)) s.heap.objs.size (ps.map Value.ref) out.toArray).get? b = some o := fun b o e => by
    have hlt := Heap.lt_size e
    rw [sortedHeap_old (Nat.ne_of_lt hlt) (by rw [Heap.size_push]; exact Nat.lt_succ_of_lt hlt)]
    exact Heap.get?_push_of_some _ e
  refine ⟨.ref s.heap.objs.size, _, I.laid (o := .lst (ps'.map V.ref)) (t' := s.toks) keep (Nat.le_refl _) ⟨?_, out, c, by rw [e']; exact vals_refs ps', hc⟩, rfl, q _ ps' hr' hn⟩
  rw [List.length_map, Paired.length hr', (List.mergeSort_perm _ _).length_eq]
  exact hl
end
/-- what is sorted: a list or a tuple of rows -/
def rSortRows (K : PySem.W.Frag) (A : Around) (rev : Bool) : List V → Hp → VK → Prop := fun xs H Q => ∃ (a : Addr) (ps : List Addr) (rows : List (List Key)), xs = [.ref a] ∧ (SqT K H a (ps.map V.ref) ∨ SqL K H a (ps.map V.ref)) ∧ KRows H ps rows ∧ Shaped rows ∧
  rows.length ≤ 1000 ∧ A.units + 64 < cLine ∧ rSortR (PySem.W.dataLe rev rowD) rows Q H
theorem collect_refs {X : Cx} {pins : List (Addr × Obj)} {σ : L2.St} {H : Hp} {s : Shared} {A : Around} {E : Value → Shared → Prop} {a : Addr} {ps : List Addr} {Q : List Value → Shared → Prop} (I : Inv X pins σ H s) (h : SqT X.K H a (ps.map V.ref) ∨ SqL X.K H a (ps.map V.ref))
    (q : ∀ s', Inv X pins σ H s' → Q (ps.map Value.ref) s') (hl : ps.length ≤ sizeLine) : wpAny (model X.prog X.w) A (collect (.ref a)) Q E s := by
  rcases h with h | h
  · obtain ⟨its, rv, ⟨o, ho, hc, n, hd⟩, hz⟩ := I.tuple h
    have e := refs_vals rv
    subst e
    refine wpAny_collect_seq a (.inr rfl) ho hc hd (fun h' hk => ?_) (by rw [List.size_toArray, List.length_map]; exact hl)
    simpa using q _ (I.kept (t' := s.toks) hk)
  · obtain ⟨its, rv, pl, hz⟩ := I.list h
    have e := refs_vals rv
    subst e
    obtain ⟨o, ho, hc, n, hd⟩ := pl.isList
    refine wpAny_collect_seq a (.inl rfl) ho hc hd (fun h' hk => ?_) (by rw [List.size_toArray, List.length_map]; exact hl)
    simpa using q _ (I.kept (t' := s.toks) hk)
theorem small_line {n : Nat} (h : n ≤ 1000) : n ≤ sizeLine := Nat.le_of_lt (small1000 h)
/-- sorted(x, reverse=True) -/
theorem cr_sortRowsRev {X : Cx} {b : Bool} : CallRK X (.builtin "sorted") [Str.ofString "reverse"] (fun xs zs H Q => zs = [.bl b] ∧ rSortRows X.K X.A b xs H Q) := by
  intro pins s σ H vs zs us ws Q I r rz h
  obtain ⟨rfl, a, ps, rows, rfl, hsq, hr, hs, hl, hu, q⟩ := h
  obtain rfl := Vals.ref1 r
  obtain ⟨w1, rfl, e1⟩ := vals1 rz
  obtain rfl : w1 = Value.bool b := e1
  have hpl : ps.length ≤ sizeLine := by rw [Paired.length hr]; exact small_line hl
  refine sorted_collects (args_sorted_rev _ _) (collect_refs I hsq (fun s' I' => ⟨by rw [List.length_map]; exact hpl, ?_⟩) hpl)
  exact sort_laid I' hr hs (small_line hl) (show X.A.units + 1 + 1 + 1 < cLine by omega) q
/-- sorted(x) -/
theorem cr_sortRows {X : Cx} : CallR X (.builtin "sorted") (rSortRows X.K X.A false) := by
  intro pins s σ H xs us Q I r h
  obtain ⟨a, ps, rows, rfl, hsq, hr, hs, hl, hu, q⟩ := h
  obtain rfl := Vals.ref1 r
  have hpl : ps.length ≤ sizeLine := by rw [Paired.length hr]; exact small_line hl
  refine sorted_collects (args_sorted1 _) (collect_refs I hsq (fun s' I' => ⟨by rw [List.length_map]; exact hpl, ?_⟩) hpl)
  exact sort_laid0 I' hr hs (small_line hl) (show X.A.units + 1 + 1 + 1 < cLine by omega) q
end Ku
/-! An own iterable whose __iter__ gives iter(self.slot), the slot a tuple: iter(t), for over the instance, list(x). -/
namespace Ku
open PySem PySem.Spec PyProof.Rows L2 SlX

/-- a tracked thing of its own is let go of -/
theorem Inv.untrack {X : Cx} {pins : List (Addr × Obj)} {σ : L2.St} {H : Hp} {s : Shared} {it : Addr} {φ : Heap → Prop} (n : H it = none) (I : Inv X pins σ (upd H it (.ext φ)) s) : Inv X pins σ H s where
  ok := I.ok
  os := I.os
  bare := I.bare
  base := by
    have u := I.base
    have back : ∀ b y, (∀ φ, y ≠ .ext φ) → upd H it (.ext φ) b = some y → H b = some y := fun b y hy e => by
      by_cases hb : b = it
      · subst hb
        rw [upd_same] at e
        exact ((hy _) (Option.some.inj e).symm).elim
      · rwa [upd_ne hb] at e
    refine ⟨u.keep, u.slot, fun b o e hn hx => ?_, u.there, fun b xs e => back b _ (fun _ z => nomatch z) (u.tups b xs e), fun b o x e => back b _ (fun _ z => nomatch z) (u.frzs b o x e), fun b ps e => ?_⟩
    · have z := u.free b o e hn hx
      by_cases hb : b = it
      · rw [hb]; exact n
      · rwa [upd_ne hb] at z
    · obtain ⟨more, z⟩ := u.tbls b ps e
      exact ⟨more, back b _ (fun _ z => nomatch z) z⟩
  loc := I.loc
  cell := I.cell
  free := by
    have z := I.free
    by_cases hb : X.env.locals = it
    · rw [hb]; exact n
    · rwa [upd_ne hb] at z
  freeC := fun x c e => by
    have z := I.freeC x c e
    by_cases hb : c = it
    · rw [hb]; exact n
    · rwa [upd_ne hb] at z
  pin := fun p hp => by
    obtain ⟨h1, h2, h3⟩ := I.pin p hp
    refine ⟨h1, ?_, h3⟩
    by_cases hb : p.1 = it
    · rw [hb]; exact n
    · rwa [upd_ne hb] at h2
  hok := fun a o e => by
    have ha : a ≠ it := fun z => by rw [z, n] at e; cases e
    refine (I.hok a o (by rw [upd_ne ha]; exact e)).stay (fun _ _ _ q => q) (fun b q => ?_) fun b xs q => ?_
    · by_cases hb : b = it
      · subst hb
        rw [upd_same] at q
        cases q
      · rwa [upd_ne hb] at q
    · by_cases hb : b = it
      · subst hb
        rw [upd_same] at q
        cases q
      · rwa [upd_ne hb] at q
  len := I.len

/-- a tracked iterator over a tuple -/
def itO (it t : Addr) : HO := .ext fun h => h.IsTupleIter it t 0
theorem itO_ok {P : Program} {w : World} {H : Hp} {h : Heap} {it t : Addr} (z : h.IsTupleIter it t 0) : ObjOk P w H h it (itO it t) := by
  obtain ⟨o, e, c⟩ := id z
  exact ⟨z, ⟨o, e⟩, fun h1 h2 q k => q.at k⟩
section
variable {prog : Program} {w : World} {A : Around} {E : Value → Shared → Prop} {s : Shared}
theorem call_iterT {t : Addr} {items : Array Value} {Q : Value → Shared → Prop} (hl : s.heap.IsTuple t items) (h : Q (.ref s.heap.objs.size) { s with heap := s.heap.push { cls := .type "tuple_iterator", data := .fields #[.ref t, .int 0 0] } }) :
    wpAny (model prog w) A (call (.builtin "iter") [.ref t]) Q E s := by
  refine Calls.call_function_entry (by decide +kernel) (by decide +kernel) PySem.W.kdk_entry_iter (PySem.W.kdk_args_iter _) ?_
  unfold Builtin.«iter»
  refine wpAny_bind (m := someArgs "iter" 1 2 _) (wpAny_of_eq (a := [Value.ref t]) (by first | rfl | kernel_rfl!) ?_)
  show wpAny _ _ (pyIter (.ref t) >>= _) _ _ _
  refine wpAny_bind (wpAny_pyIter_tuple hl ?_)
  exact wpAny_pure ⟨_, rfl, h⟩
end
/-- iter(t) -/
def rIterT (X : Cx) : List V → Hp → VK → Prop := fun xs H Q => ∃ t ys, xs = [.ref t] ∧ H t = some (.tup ys) ∧ ∀ it, X.s_0.heap.objs.size ≤ it → H it = none → Q (.ref it) (upd H it (itO it t))
theorem cr_iterT {X : Cx} : CallR X (.builtin "iter") (rIterT X) := by
  intro pins s σ H xs us Q I r h
  obtain ⟨t, ys, rfl, ht, q⟩ := h
  obtain rfl := Vals.ref1 r
  obtain ⟨its, rv, p, hz⟩ := I.tuple (SqT.of ht)
  have hT : s.heap.IsTuple t its.toArray := p
  refine call_iterT hT ?_
  have hn := I.hok.fresh (Nat.le_refl s.heap.objs.size)
  refine ⟨.ref s.heap.objs.size, _, I.laid (o := itO s.heap.objs.size t) (t' := s.toks) (fun _ _ q => Heap.get?_push_of_some _ q) (Nat.le_refl _) (itO_ok ⟨_, Heap.get?_push_size _ rfl, rfl, rfl⟩), rfl, q _ I.sz hn⟩

/-- a def's run at a state that its promise may speak of -/
theorem run_here {CX : CXT} {P : Program} {w : World} {K : PySem.W.Frag} {mg : Str → Option Value} {base : Heap} {k : Nat} {x qual : Str} {st : Stmt} {f : Addr} {fd : FuncData} {N ps : List Str} {A : Around} {outer : List Env} {s : Shared} {H : Hp} {us : List Value} {vs : List V} {Q : VK} {E : XK}
    (F : Fun K x qual st f fd) (S : FnScope N ps (defScope st)) (hb : Binds K fd ps []) (hl : vs.length = ps.length) (hr : Room (k + 1) A) (e0 : Env0 P w K mg base A outer s H) (r : Vals vs us)
    (hbody : ∀ cdv, Room k (A.deeper (envOfC qual (defScope st) s.heap.objs.size f cdv)) → ∃ t, PSs (cxOf CX P w K mg base N qual (defScope st) f cdv A outer s H E) (defBody st) t ∧ t { nx := fun _ H' => Q .non H', rt := Q } (start N vs) H) :
    codeAny (model P w) A (.call (.ref f) ⟨us, []⟩) (CR CX outer P w H s Q E) s := by
  have b0 : BindsTo s fd ⟨us, []⟩ (ps.zip us) := by
    have KX : K.In s.heap := e0.mod.kin.keeps fun b o e => (e0.bs b o e).1
    have := hb s us KX (by rw [List.append_nil, ← r.length]; exact hl)
    simpa using this
  obtain ⟨oc, od, kV, doc, pm, an, cdv, ct, osl, rfl, lk, hcd⟩ := F.ex
  have KX : K.In s.heap := e0.mod.kin.keeps fun b o e => (e0.bs b o e).1
  have lim : s.heap.NoLimit := e0.mod.nolimit.keeps fun b o e => (e0.bs b o e).1
  have hkind : ∀ y ∈ ps.zip us, (defScope st).names.lookup y.1 = some .local ∨ ((defScope st).names.lookup y.1 = some .cell ∧ ((cellsFrom (s.heap.objs.size + 1) (defScope st).names []).lookup y.1).isSome = true) := fun y hy => by
    rcases S.par y.1 (List.of_mem_zip hy).1 with q | q
    · exact .inl q
    · exact .inr ⟨q, PySem.W.cellsFrom_some _ _ _ (.inl q)⟩
  refine codeAny_call_function hr.depth (KX _ _ lk) rfl S.co S.gen rfl (PySem.W.codeRec_of KX hcd) (b0 _ _ _ _ ?_)
  refine wpAny_newFunctionEnv_cells S.kind hkind fun env he s1 y => ?_
  subst he
  refine ⟨lim.keeps y.toInCall.keep, codeAny_func ?_⟩
  obtain ⟨t, ht, hq⟩ := hbody cdv (hr.deeper _)
  have I : Inv (cxOf CX P w K mg base N qual (defScope st) f cdv A outer s H E) [] (start N vs) H s1 := inv_start S hr.hd e0 hl r y
  refine wpAny_mono (ht.run [] s1 (start N vs) H _ I hq) (fun fl s' hs => ?_) fun e s' hs => hs
  cases fl with
  | ret u =>
    obtain ⟨v, σ', H', J, rv, q⟩ := hs
    exact ⟨v, H', J.os, J.bare, J.base, J.hok, rv, q⟩
  | next =>
    obtain ⟨σ', H', J, q⟩ := hs
    exact ⟨V.non, H', J.os, J.bare, J.base, J.hok, rfl, q⟩
  | brk =>
    obtain ⟨_, _, _, q⟩ := hs
    exact False.elim q
  | cont =>
    obtain ⟨_, _, _, q⟩ := hs
    exact False.elim q

/-- the class's __iter__ at a state: a new iterator over the tuple at t -/
def IterOf (P : Program) (w : World) (K : PySem.W.Frag) (mg : Str → Option Value) (base : Heap) (C fi : Addr) (n : Nat) : Prop :=
  ∀ (A : Around) (outer : List Env) (s : Shared) (H : Hp) (a dx t : Addr) (ys : List V), Room n A → Env0 P w K mg base A outer s H → Slt H a C dx [some (.ref t)] → H t = some (.tup ys) →
    codeAny (model P w) A (.call (.ref fi) ⟨[.ref a], []⟩) (CR CX0 outer P w H s (fun v H' => ∃ it, v = .ref it ∧ s.heap.objs.size ≤ it ∧ H it = none ∧ H' = upd H it (itO it t)) E0) s
structure ItK (K : PySem.W.Frag) (C fi : Addr) : Prop where
  it : PySem.W.findIn K (.ref C) "__iter__" = some (some (.ref fi))
  itF : PySem.W.isFn K (.ref fi) = true
section
variable {X : Cx} {pins : List (Addr × Obj)} {σ : L2.St} {H : Hp} {s : Shared} {a C dx t fi : Addr} {ys : List V} {n : Nat}
theorem env0_sub {A1 : Around} (sb : Sub X n A1) (I : Inv X pins σ H s) : Env0 X.prog X.w X.K X.mg X.base A1 X.stack s H := by
  have e := I.env0
  exact ⟨by rw [sb.fr]; exact e.frames, e.mod, e.bs, e.bsz, e.funs, e.frf, e.hok, e.bare⟩
theorem pyIter_own {A1 : Around} {E : Value → Shared → Prop} {Q : Value → Shared → Prop} (sb : Sub X n A1) (c : ItK X.K C fi) (F : IterOf X.prog X.w X.K X.mg X.base C fi n) (I : Inv X pins σ H s) (hs : Slt H a C dx [some (.ref t)]) (ht : H t = some (.tup ys))
    (q : ∀ it s', Inv X pins σ H s' → s'.heap.IsTupleIter it t 0 → FpOk X pins H it → Q (.ref it) s') : wpAny (model X.prog X.w) A1 (pyIter (.ref a)) Q E s := by
  obtain ⟨sl, od, _, J, _⟩ := slt_inst I hs
  obtain ⟨m0, hF⟩ := I.fr
  refine PySem.W.owit_iter hF I.ok.mod.kin J c.it c.itF ?_
  refine wpAny_call (codeAny_mono (F A1 X.stack s H a dx t ys sb.room (env0_sub sb I) hs ht) fun r s' hq => ?_)
  cases r with
  | error e => exact False.elim hq
  | ok fl =>
    cases fl with
    | next => exact False.elim hq
    | brk => exact False.elim hq
    | cont => exact False.elim hq
    | ret u =>
      obtain ⟨v, H', I', rv, it, ev, hz, hn, eH⟩ := I.after hq
      subst ev
      subst eH
      obtain rfl : u = Value.ref it := rv
      have tr : s'.heap.IsTupleIter it t 0 := (I'.hok it _ upd_same).1
      have I2 := Inv.untrack hn I'
      unfold PySem.W.OwitIt
      exact wpAny_specialOf tr.typeIs PySem.F.slot_tuple_iterator_next.lookup (q it s' I2 tr (I.fpOk hz hn))
/-- for .. in e, e an instance -/
def iOwn (K : PySem.W.Frag) (C : Addr) (te : TE) : TI := fun σ H R => te σ H fun x H1 => ∃ a dx t ys, x = .ref a ∧ Slt H1 a C dx [some (.ref t)] ∧ H1 t = some (.tup ys) ∧ R (Itt K t) H1
theorem pi_own {tg e : Expr} {te : TE} (hr : Room n X.A) (c : ItK X.K C fi) (F : IterOf X.prog X.w X.K X.mg X.base C fi n) (he : PE X e te) : PI X tg e (iOwn X.K C te) := by
  refine ⟨fun pins s σ H R I h => ?_⟩
  refine thn (he.run pins s σ H _ I h) fun v s1 ⟨x, H1, I1, r1, a, dx, t, ys, ex, hs, ht, q⟩ => ?_
  subst ex
  obtain rfl : v = Value.ref a := r1
  exact pyIter_own ⟨hr, rfl⟩ c F I1 hs ht fun it s' I2 tr f => ⟨it, [it], _, _, H1, rfl, I2, turn_tuple t it, tr, fun b hb => by rw [show b = it by simpa using hb]; exact f, q⟩

/-! ### list(x) -/
theorem vals_take : ∀ {xs : List V} {us : List Value} (i : Nat), Vals xs us → Vals (xs.take i) (us.take i)
  | _, _, 0, _ => .nil
  | _, _, i + 1, .nil => .nil
  | _, _, i + 1, .cons a r => .cons a (vals_take i r)
theorem extend_it {A1 : Around} {q it : Addr} {Rs : Result → Shared → Prop} (hh : A1.in1.handled = none) (hn : H q = none) (ht : H t = some (.tup ys)) (qt : q ≠ it) (done : ∀ s', Inv X pins σ (upd H q (.lst ys)) s' → Rs (.ok (.ret .none)) s') :
    ∀ (m : Nat) (i : Nat) (s : Shared), ys.length - i = m → i ≤ ys.length → Inv X pins σ (upd H q (.lst (ys.take i))) s → s.heap.IsTupleIter it t i → FpOk X pins (upd H q (.lst (ys.take i))) it →
      codeAny (model X.prog X.w) A1 (.builtin "list.extend.loop" ⟨[.ref q, .ref it, .none], []⟩) Rs s := by
  intro m
  induction m with
  | zero =>
    intro i s hm hi I tr f
    have tq : t ≠ q := ne_of_none ht hn
    have ht' : upd H q (.lst (ys.take i)) t = some (.tup ys) := by rw [upd_ne tq]; exact ht
    obtain ⟨its, rv, p, hz⟩ := I.tuple (SqT.of ht')
    refine codeAny_builtin PySem.F.entry_extend_loop ?_
    rw [Around.under_plainId PySem.F.plain_extend_loop _]
    show wpAny _ A1.in1 (pyNext (.ref it) >>= _) _ _ s
    have hl := rv.length
    have e : i = ys.length := by omega
    obtain ⟨f0, f1, f2, f3, f4, f5⟩ := f
    refine wpAny_bind (wpAny_pyNext_tuple_end hh tr (show s.heap.IsTuple t its.toArray from p) (by rw [List.getElem?_toArray, List.getElem?_eq_none_iff]; omega) fun h' eb => ?_)
    have I1 := I.turned (t' := s.toks) (fun b o hb e => eb b o hb e) f0 f1 f3 f4 f5
    refine wpAny_pure (done _ ?_)
    rw [e, List.take_length] at I1
    exact I1
  | succ m ih =>
    intro i s hm hi I tr f
    have tq : t ≠ q := ne_of_none ht hn
    have ht' : upd H q (.lst (ys.take i)) t = some (.tup ys) := by rw [upd_ne tq]; exact ht
    obtain ⟨its, rv, p, hz⟩ := I.tuple (SqT.of ht')
    refine codeAny_builtin PySem.F.entry_extend_loop ?_
    rw [Around.under_plainId PySem.F.plain_extend_loop _]
    show wpAny _ A1.in1 (pyNext (.ref it) >>= _) _ _ s
    have hl := rv.length
    have hi' : i < ys.length := by omega
    obtain ⟨u, hu, ru⟩ := rv.get (List.getElem?_eq_getElem hi')
    obtain ⟨f0, f1, f2, f3, f4, f5⟩ := id f
    refine wpAny_bind (wpAny_pyNext_tuple_item tr (show s.heap.IsTuple t its.toArray from p) (x := u) (by simpa using hu) fun h' st' sb => ?_)
    have I1 := I.turned (t' := s.toks) (h' := h') (fun b o hb e => (sb.2 b hb).trans e) f0 f1 f3 f4 f5
    show wpAny _ A1.in1 (updateSeq q (·.push u) >>= _) _ _ _
    obtain ⟨z, its2, k, r2, hl2, e2⟩ := I1.lstM upd_same
    have zz : its2.length < sizeLine := by rw [← r2.length, List.length_take]; omega
    refine wpAny_bind (wpAny_updateSeq e2 rfl (wpAny_pure ⟨plainId_quiet PySem.F.plain_extend_loop _, ?_⟩) (by rw [List.size_toArray]; omega) (by show (its2.toArray.push u).size ≤ sizeLine + 1; rw [Array.size_push, List.size_toArray]; omega))
    have I2 := I1.lset (f := (·.push u)) (its' := its2 ++ [u]) (ys := ys.take i ++ [ys[i]]) (t' := s.toks) upd_same e2 (by simp) (r2.append (.cons ru .nil)) (by rw [List.length_append, List.length_singleton, List.length_take]; omega)
    rw [upd_upd, ← List.take_succ_eq_append_getElem hi'] at I2
    refine ih (i + 1) _ (by omega) (by omega) I2 ?_ ⟨?_, f1, f2, f3, f4, f5⟩
    · refine st'.at fun o e => ?_
      rw [Heap.get?_update_ne _ _ _ _ (Ne.symm qt)]
      exact e
    · rw [upd_ne (Ne.symm qt)] at f0 ⊢
      exact f0

/-- what __len__ promises -/
def spLen (C : Addr) : Sp := fun vs H Q _ => ∃ a dx t ys, vs = [.ref a] ∧ Slt H a C dx [some (.ref t)] ∧ H t = some (.tup ys) ∧ ys.length ≤ 1000 ∧ Q (.int (ys.length : Nat)) H
structure LenK (K : PySem.W.Frag) (C fl : Addr) : Prop where
  ln : PySem.W.findIn K (.ref C) "__len__" = some (some (.ref fl))
  lnF : PySem.W.isFn K (.ref fl) = true
variable {fl : Addr}
theorem len_own {A1 : Around} {Q : Value → Shared → Prop} (sb : Sub X n A1.in1) (c : LenK X.K C fl) (F : FnR X.prog X.w X.K X.mg X.base CX0 n fl (spLen C)) (I : Inv X pins σ H s) (hs : Slt H a C dx [some (.ref t)]) (ht : H t = some (.tup ys)) (hz : ys.length ≤ 1000)
    {E : Value → Shared → Prop} (q : ∀ tk s', Inv X pins σ H s' → Q (.int (ys.length : Nat) tk) s') : wpAny (model X.prog X.w) A1 (call (.builtin "len") [.ref a]) Q E s := by
  obtain ⟨sl, od, _, J, _⟩ := slt_inst I hs
  obtain ⟨m0, hF⟩ := I.fr
  refine PySem.W.len_K hF I.ok.mod.kin J c.ln c.lnF ?_
  refine wpAny_call (codeAny_mono (F A1.in1 X.stack s H [.ref a] [.ref a] (fun v H' => v = .int (ys.length : Nat) ∧ H' = H) E0 sb.room (env0_sub sb I) (.cons rfl .nil) ⟨a, dx, t, ys, rfl, hs, ht, hz, rfl, rfl⟩) fun r s' hq => ?_)
  cases r with
  | error e => exact False.elim hq
  | ok fl =>
    cases fl with
    | next => exact False.elim hq
    | brk => exact False.elim hq
    | cont => exact False.elim hq
    | ret u =>
      obtain ⟨v, H', I', rv, ev, eH⟩ := I.after hq
      subst ev
      subst eH
      obtain ⟨tk, rfl⟩ := (show ∃ t, u = Value.int (ys.length : Nat) t from rv)
      exact ⟨⟨by omega, by omega⟩, q _ _ (I'.tok _)⟩
theorem hint_own {A1 : Around} {Q : Bool → Shared → Prop} (sb : Sub X n A1.in1) (c : LenK X.K C fl) (F : FnR X.prog X.w X.K X.mg X.base CX0 n fl (spLen C)) (I : Inv X pins σ H s) (hs : Slt H a C dx [some (.ref t)]) (ht : H t = some (.tup ys)) (hz : ys.length ≤ 1000)
    {E : Value → Shared → Prop} (q : ∀ b s', Inv X pins σ H s' → Q b s') : wpAny (model X.prog X.w) A1 (Builtin.List.listLengthHint (.ref a)) Q E s := by
  obtain ⟨sl, od, _, J, _⟩ := slt_inst I hs
  unfold Builtin.List.listLengthHint
  refine wpAny_bind (wpAny_bind (J.type.here ((PySem.W.looks_findIn I.kIn c.ln).here ?_)))
  refine PySem.W.KFB.if_not rfl ?_
  refine PySem.W.KFB.if_so rfl ?_
  refine wpAny_bind (wpAny_rule ?_)
  refine wpAny_bind (wpAny_attempt (len_own sb c F I hs ht hz fun tk s' I' => ?_))
  refine wpAny_bind (wpAny_pure ?_)
  have e : Builtin.List.listTooLong ((ys.length : Nat) : Int).toNat = false := by
    show decide (((ys.length : Nat) : Int).toNat > sizeLine) = false
    rw [sizeLine_eq]
    exact decide_eq_false (by omega)
  show wpAny _ _ (if Builtin.List.listTooLong ((ys.length : Nat) : Int).toNat = true then _ else _) _ _ _
  rw [e]
  exact wpAny_pure (q _ _ I')
/-- list(x) -/
def rListOwn (C : Addr) : List V → Hp → VK → Prop := fun xs H Q => ∃ a dx t ys, xs = [.ref a] ∧ Slt H a C dx [some (.ref t)] ∧ H t = some (.tup ys) ∧ ys.length ≤ 1000 ∧ ∀ q, H q = none → Q (.ref q) (upd H q (.lst ys))
theorem cr_listOwn (hc : X.calm = true) (hr : Room (n + 3) X.A) (ci : ItK X.K C fi) (FI : IterOf X.prog X.w X.K X.mg X.base C fi n) (cl : LenK X.K C fl) (FL : FnR X.prog X.w X.K X.mg X.base CX0 n fl (spLen C)) : CallR X (.type "list") (rListOwn C) := by
  intro pins s σ H xs us Q I rv h
  obtain ⟨a, dx, t, ys, rfl, ha, ht, hz, hq⟩ := h
  obtain ⟨u, rfl, ru⟩ := rv.one
  cases ru
  have sb3 : Sub X n X.A.in1.in1.in1 := (Sub.in1 (Sub.in1 (Sub.in1 (⟨hr, rfl⟩ : Sub X (n + 3) X.A))))
  have sb : Sub X n X.A.in1.in1 := ((Sub.in1 (Sub.in1 (⟨hr, rfl⟩ : Sub X (n + 3) X.A)))).mono (Nat.le_succ _)
  refine callType_codes (Q₁ := fun obj s₁ => obj = .ref s.heap.objs.size ∧ s₁ = { s with heap := s.heap.push { cls := .type "list", data := .seq #[] } }) PySem.F.called_list (PySem.F.typeCall_list_1 _) PySem.F.entry_list_init
    (code_list_new _ ⟨rfl, rfl⟩) fun obj s₁ h₁ => ?_
  obtain ⟨rfl, rfl⟩ := h₁
  have hS : (s.heap.push { cls := .type "list", data := .seq #[] }).get? s.heap.objs.size = some { cls := .type "list", data := .seq #[] } := Heap.get?_push_size _ rfl
  refine ⟨⟨_, hS, rfl⟩, PySem.F.args_list_init_2 _ _, ?_⟩
  have fr : H s.heap.objs.size = none := I.hok.fresh (Nat.le_refl _)
  have I1 : Inv X pins σ (upd H s.heap.objs.size (.lst [])) { s with heap := s.heap.push { cls := .type "list", data := .seq #[] } } := I.lnew (its := []) (t' := s.toks) .nil (Nat.zero_le _)
  show wpAny _ _ (do let old ← Builtin.List.listItems (.ref s.heap.objs.size); Builtin.List.listUpdate (.ref s.heap.objs.size) (fun _ => #[]); letGo old.toList.reverse; Builtin.List.listExtendWith (.ref s.heap.objs.size) (.ref a) .none) _ _ _
  refine wpAny_bind ?_
  unfold Builtin.List.listItems
  refine wpAny_bind (wpAny_seqItems hS rfl (wpAny_pure ?_))
  show wpAny _ _ (updateSeq s.heap.objs.size (fun _ => #[]) >>= fun _ => letGo (#[] : Array Value).toList.reverse >>= fun _ => Builtin.List.listExtendWith (.ref s.heap.objs.size) (.ref a) .none) _ _ _
  refine wpAny_bind (wpAny_updateSeq hS rfl ?_)
  have I2 := I1.lset (f := fun _ => #[]) (its := []) (its' := []) (ys := []) (t' := s.toks) upd_same hS rfl .nil (Nat.zero_le _)
  rw [upd_upd] at I2
  refine wpAny_bind (wpAny_letGo ?_)
  have sm : Same H (upd H s.heap.objs.size (.lst [])) := Same.upd fr
  have ha2 : Slt (upd H s.heap.objs.size (.lst [])) a C dx [some (.ref t)] := ha.elim (fun z => .inl ⟨sm _ _ z.1, z.2⟩) fun z => .inr ⟨sm _ _ z.1, sm _ _ z.2⟩
  have ht2 : upd H s.heap.objs.size (.lst []) t = some (.tup ys) := sm _ _ ht
  have hne : s.heap.objs.size ≠ a := by
    have z : ∃ y, H a = some y := ha.elim (fun z => ⟨_, z.1⟩) fun z => ⟨_, z.1⟩
    obtain ⟨y, hy⟩ := z
    exact Ne.symm (ne_of_none hy fr)
  generalize s.heap.objs.size = q at *
  generalize ({ s with heap := (s.heap.push { cls := .type "list", data := .seq #[] }).update q (Obj.mapSeq fun _ => #[]), toks := s.toks } : Shared) = s1 at I2 ⊢
  obtain ⟨sl, od, _, J, _⟩ := slt_inst I2 ha2
  unfold Builtin.List.listExtendWith
  refine wpAny_bind (J.type.here ?_)
  have h1 : Builtin.List.listSameRef (.ref q) (.ref a) = false := by simp [Builtin.List.listSameRef, hne]
  have h2 : (Value.ref C == Value.type "list") = false := rfl
  have h3 : (Value.ref C == Value.type "tuple") = false := rfl
  simp only [h1, h2, h3, Bool.or_false, Bool.false_eq_true, if_false]
  refine wpAny_bind (pyIter_own sb ci FI I2 ha2 ht2 fun it s2 I3 tr f => ?_)
  have ho : ∀ b ∈ [it], ∃ o, s2.heap.get? b = some o ∧ ∀ v, o.data ≠ .cell v := fun b hb => by
    obtain rfl : b = it := by simpa using hb
    obtain ⟨o, e, c, d⟩ := id tr
    exact ⟨o, e, fun v z => by rw [d] at z; cases z⟩
  have I3' := I3.pinned (fp := [it]) (fun b hb => by rw [show b = it by simpa using hb]; exact f) ho
  refine wpAny_bind (wpAny_holding (hint_own sb3 cl FL I3' ha2 ht2 hz fun b s3 I4' => ?_))
  have tr3 : s3.heap.IsTupleIter it t 0 := tr.at fun o e => (I4'.pin (it, o) (List.mem_append_right _ (List.mem_append_right _ (mem_pinsAt (by simp) e)))).1
  have I4 := I4'.unpinned
  have qit : q ≠ it := fun z => by
    have := f.1
    rw [← z, upd_same] at this
    cases this
  have hh : X.A.in1.in1.handled = none := I.ok.hd hc
  have fin : ∀ s5, Inv X pins σ (upd H q (.lst [])) s5 → s5.heap.IsTupleIter it t 0 → codeAny (model X.prog X.w) X.A.in1 (.builtin "list.extend.loop" ⟨[.ref q, .ref it, .none], []⟩) (wants (fun r s₂ => r = .none ∧ EP X pins σ Q (.ref q) s₂) X.xe) s5 := fun s5 I5 tr5 =>
    extend_it (A1 := X.A.in1) hh fr ht qit (fun s' I' => ⟨rfl, .ref q, _, I', rfl, hq q fr⟩) ys.length 0 s5 (by omega) (Nat.zero_le _) (by rw [List.take_zero]; exact I5) tr5 (by rw [List.take_zero]; exact f)
  refine wpAny_ite_split (fun _ => ?_) (fun _ => wpAny_pure ⟨plainId_quiet PySem.F.plain_extend_loop _, fin s3 I4 tr3⟩)
  refine wpAny_bind (wpAny_rule ?_)
  refine wpAny_bind ?_
  show wpAny _ _ (updateSeq q (·.push .none) >>= fun _ => updateSeq q (·.pop)) _ _ _
  obtain ⟨z, its, k, r3, hl3, e3⟩ := I4.lstM upd_same
  cases r3
  refine wpAny_bind (wpAny_updateSeq e3 rfl ?_)
  have I5 := I4.lset (f := (·.push Value.none)) (its' := [Value.none]) (ys := [.non]) (t' := s3.toks) upd_same e3 (by simp) (.cons rfl .nil) (by rw [List.length_singleton, sizeLine_eq]; decide)
  obtain ⟨z4, its4, k4, r4, hl4, e4⟩ := I5.lstM upd_same
  obtain ⟨u4, rfl, ru4⟩ := r4.one
  refine wpAny_updateSeq e4 rfl ?_ (by show 1 ≤ sizeLine; rw [sizeLine_eq]; decide) (by show 0 ≤ sizeLine + 1; exact Nat.zero_le _)
  have I6 := I5.lset (f := (·.pop)) (its := [u4]) (its' := []) (ys := []) (t' := s3.toks) upd_same e4 (by rfl) .nil (Nat.zero_le _)
  rw [upd_upd, upd_upd] at I6
  refine wpAny_pure ⟨plainId_quiet PySem.F.plain_extend_loop _, fin _ I6 ?_⟩
  refine tr3.at fun o e => ?_
  rw [Heap.get?_update_ne _ _ _ _ (Ne.symm qit), Heap.get?_update_ne _ _ _ _ (Ne.symm qit)]
  exact e
/-- len(x) -/
def rLenOwn (C : Addr) : List V → Hp → VK → Prop := fun xs H Q => ∃ a dx t ys, xs = [.ref a] ∧ Slt H a C dx [some (.ref t)] ∧ H t = some (.tup ys) ∧ ys.length ≤ 1000 ∧ Q (.int (ys.length : Nat)) H
theorem cr_lenOwn (hr : Room (n + 1) X.A) (cl : LenK X.K C fl) (FL : FnR X.prog X.w X.K X.mg X.base CX0 n fl (spLen C)) : CallR X (.builtin "len") (rLenOwn C) := by
  intro pins s σ H xs us Q I rv h
  obtain ⟨a, dx, t, ys, rfl, ha, ht, hz, hq⟩ := h
  obtain rfl := Vals.ref1 rv
  exact len_own (Sub.in1 ⟨hr, rfl⟩) cl FL I ha ht hz fun tk s' I' => ⟨.int (ys.length : Nat), H, I', ⟨tk, rfl⟩, hq⟩
end
end Ku
/-! Calls of the class without and with a starred argument; own |, !=, in, [] of instances with slots. -/
namespace Ku
open PySem PySem.Spec PyProof.Rows L2 SlX StX
section
variable {X : Cx} {CX : CXT} {k n i : Nat} {f g C : Addr} {sp : Sp} {E : XK} {x : Str} {e : Expr} {te ta tb : TE} {p pos pos2 : Pos}
/-- Costs() -/
theorem pe_makeR0 (M : Mk X.K C f) (F : FnR X.prog X.w X.K X.mg X.base CX k f sp) (hr : Room (k + 1) X.A) (hg : Gl X x) (hm : X.mg x = some (.ref C)) (hx : Passes CX X E) (hdb : (x == ("__debug__" : Str)) = false := by decide) :
    PE X (.Call (.Name x p) [] [] pos) (tMakeR C sp E tNil) := by
  refine ⟨fun pins s σ H Q I h => ?_⟩
  refine wpAny_Call_Name_kw (ld_glob I hg hm ?_ hdb)
  exact PySem.W.callWith_K0 I.kIn M.kp (run_makeR (us := []) (vs := []) M F hr hx I .nil h)
/-- Costs(*e) -/
def tMakeS (K : PySem.W.Frag) (C : Addr) (sp : Sp) (E : XK) (te : TE) : TE := fun σ H Q => te σ H fun y H1 => ∃ a vs, y = V.ref a ∧ (SqT K H1 a vs ∨ SqL K H1 a vs) ∧ ∀ x dx, H1 x = Option.none → H1 dx = Option.none → dx ≠ x →
  sp (V.ref x :: vs) (upd (upd H1 dx (.own x)) x (.ins C dx [])) (fun v H2 => v = .non ∧ Q (.ref x) H2) E
theorem pe_makeS (M : Mk X.K C f) (F : FnR X.prog X.w X.K X.mg X.base CX k f sp) (hr : Room (k + 1) X.A) (hg : Gl X x) (hm : X.mg x = some (.ref C)) (hx : Passes CX X E) (he : PE X e te) (hdb : (x == ("__debug__" : Str)) = false := by decide)
    (hst : starEach [.Starred e pos2] X.env = [(true, eval e X.env)] := by rfl) : PE X (.Call (.Name x p) [.Starred e pos2] [] pos) (tMakeS X.K C sp E te) := by
  refine ⟨fun pins s σ H Q I h => ?_⟩
  refine wpAny_Call_Name_kw (ld_glob I hg hm ?_ hdb)
  refine PySem.W.callWith_S (h₀ := X.base) I.ok.mod.kin M.kp (thn (he.run pins s σ H _ I h) fun v s1 ⟨y, H1, I1, ry, a, xs, ey, hxs, q⟩ => ?_) hst
  subst ey
  obtain rfl : v = Value.ref a := ry
  exact star_any I1 hxs fun us s2 I2 rv => ⟨I2.kIn, run_makeR M F hr hx I2 rv q⟩
end
section
variable {prog : Program} {w : World} {A : Around} {E : Value → Shared → Prop} {s : Shared} {K : PySem.W.Frag} {x C L f : Addr} {h₀ : Heap} {m : Str → Option Value} {ox : Obj} {od : Option Obj}
/-- object.__ne__ over an own __eq__ -/
theorem tryNe_K {b : Addr} {Q : Option Value → Shared → Prop} (hu : A.units + 1 < cLine) (F : Fr h₀ L s.heap m) (X₀ : K.In h₀) (I : PySem.W.InstAt s.heap x ox C od) (hne : PySem.W.findIn K (.ref C) "__ne__" = some (some (.builtin "object.__ne__")))
    (hob : PySem.W.subIn K (.ref C) (.type "object") = some true) (hs : PySem.W.findIn K (.ref C) "__eq__" = some (some (.ref f))) (hf : PySem.W.isFn K (.ref f) = true)
    (h : wpAny (model prog w) A.in1 (call (.ref f) [.ref x, .ref b]) (fun v s' => ∃ z, v = .bool z ∧ Q (some (.bool (!z))) s') E s) : wpAny (model prog w) A (tryCompare (.ref x) "__ne__" (.ref b)) Q E s := by
  have X := X₀.keeps F.keep
  have S : Slot "object" "__ne__" "object.__ne__" := PySem.F.cmp_object.ne
  unfold tryCompare
  have run : wpAny (model prog w) A (call (.builtin "object.__ne__") [.ref x, .ref b]) (fun v s' => ∃ z, v = .bool z ∧ Q (some (.bool z)) s') E s := by
    refine wpAny_call (codeAny_call_builtin S.plain PySem.F.cmpEntry_ne (PySem.W.check_slot PySem.F.cmpKind_ne PySem.F.cmpSplit_ne (I.type.andThen (PySem.W.looks_subIn X hob)) (PySem.F.cmpArgs_ne _ _) ?_))
    unfold Builtin.«object.__ne__»
    refine wpAny_bind (m := slotArgs "__ne__" 1 _) (wpAny_pure ?_)
    refine wpAny_bind (wpAny_cRoomFor hu ?_)
    refine wpAny_bind (m := callSpecialIfBound? (.ref x) (Str.ofString "__eq__") [.ref b]) (PySem.W.ifBound_K X I hs hf (wpAny_mono h (fun r s' hr => ?_) fun _ _ y => y))
    obtain ⟨z, rfl, hq⟩ := hr
    refine wpAny_bind (m := truthy (.bool z)) (wpAny_truthy_bool ?_)
    exact wpAny_pure ⟨!z, rfl, hq⟩
  refine wpAny_bind (m := callSpecialIfBound? (.ref x) (Str.ofString "__ne__") [.ref b]) ?_
  simp only [callSpecialIfBound?, bindSpecialIfBound?]
  refine wpAny_holding (wpAny_bind (wpAny_bind (wpAny_bind (I.type.here ((PySem.W.looks_findIn X hne).here ?_)))))
  refine wpAny_bind (wpAny_askSetting (wpAny_ite ?_))
  have fin : wpAny (model prog w) A (call (.builtin "object.__ne__") ([.ref x] ++ [.ref b]) >>= fun v => pure (some v)) (fun r s' => ∃ z, r = some (.bool z) ∧ Q (some (.bool z)) s') E s :=
    wpAny_bind (wpAny_mono run (fun v s' ⟨z, e, q⟩ => wpAny_pure ⟨z, by rw [e], q⟩) fun _ _ h' => h')
  simp only [S.bind]
  split
  · exact wpAny_bind (wpAny_pure (wpAny_pure (wpAny_mono fin (fun r s' ⟨z, e, q⟩ => by subst e; exact wpAny_pure q) fun _ _ e => e)))
  · exact wpAny_tryCatch (wpAny_bind (wpAny_pure (wpAny_pure (wpAny_mono fin (fun r s' ⟨z, e, q⟩ => by subst e; exact wpAny_pure q) fun _ _ e => e))))

theorem ne_K {b : Addr} {tb : Value} {Q : Value → Shared → Prop} (hu : A.units + 1 < cLine) (F : Fr h₀ L s.heap m) (X₀ : K.In h₀) (I : PySem.W.InstAt s.heap x ox C od) (hb : PySem.W.Looks (model prog w) s.heap (typeOf (.ref b)) tb) (hn : PySem.W.notFirst K C tb = true)
    (hne : PySem.W.findIn K (.ref C) "__ne__" = some (some (.builtin "object.__ne__"))) (hob : PySem.W.subIn K (.ref C) (.type "object") = some true) (hs : PySem.W.findIn K (.ref C) "__eq__" = some (some (.ref f))) (hf : PySem.W.isFn K (.ref f) = true)
    (h : wpAny (model prog w) A.in1 (call (.ref f) [.ref x, .ref b]) (fun v s' => ∃ z, v = .bool z ∧ Q (.bool (!z)) s') E s) : wpAny (model prog w) A (richCompare .NotEq (.ref x) (.ref b)) Q E s := by
  have X := X₀.keeps F.keep
  have one : wpAny (model prog w) A (tryCompare (.ref x) (cmpInfo .NotEq).2.1 (.ref b)) (fun r s' => ∃ v, r = some v ∧ Q v s') E s :=
    tryNe_K hu F X₀ I hne hob hs hf (wpAny_mono h (fun v s' ⟨z, e, q⟩ => ⟨z, e, _, rfl, q⟩) fun _ _ e => e)
  unfold richCompare
  simp only [oneThing_ref]
  refine wpAny_holding (wpAny_bind (wpAny_cRoomFor (Nat.lt_of_succ_lt hu) ?_))
  refine wpAny_bind (I.type.here (wpAny_bind (hb.here ?_)))
  split
  · rename_i q
    have e : PySem.W.subIn K tb (.ref C) = some false := by
      rcases Bool.or_eq_true_iff.mp hn with e | e
      · rw [beq_iff_eq.mp e] at q; simp at q
      · exact beq_iff_eq.mp e
    refine wpAny_bind ((PySem.W.looks_subIn X e).here ?_)
    simp only [Bool.false_eq_true, if_false]
    refine wpAny_bind (wpAny_mono one (fun r s' z => ?_) fun _ _ e => e)
    obtain ⟨v, rfl, hq⟩ := z
    exact wpAny_pure hq
  · refine wpAny_bind (wpAny_pure ?_)
    simp only [Bool.false_eq_true, if_false]
    refine wpAny_bind (wpAny_mono one (fun r s' z => ?_) fun _ _ e => e)
    obtain ⟨v, rfl, hq⟩ := z
    exact wpAny_pure hq
end
section
variable {X : Cx} {CX : CXT} {n : Nat} {g C : Addr} {sp : Sp} {E : XK} {a b : Expr} {ta tb : TE} {pos : Pos}
/-- x != y by an own == -/
def rNeOwn (C : Addr) (sp : Sp) (E : XK) : R2 := fun x y H Q => ∃ a dx vs b dy ws, x = .ref a ∧ y = .ref b ∧ Slt H a C dx vs ∧ Slt H b C dy ws ∧ sp [x, y] H (fun z H' => ∃ b, z = .bl b ∧ Q (.bl (!b)) H') E
theorem op_neOwn (hne : PySem.W.findIn X.K (.ref C) "__ne__" = some (some (.builtin "object.__ne__"))) (hob : PySem.W.subIn X.K (.ref C) (.type "object") = some true) (hs : PySem.W.findIn X.K (.ref C) "__eq__" = some (some (.ref g))) (hf : PySem.W.isFn X.K (.ref g) = true)
    (F : FnR X.prog X.w X.K X.mg X.base CX n g sp) (hr : Room (n + 1) X.A) (hx : Passes CX X E) : OpR X (compareOp .NotEq) (rNeOwn C sp E) := by
  intro pins s σ H x y v u Q I rx ry h
  obtain ⟨a, dx, vs, b, dy, ws, rfl, rfl, ha, hb, q⟩ := h
  cases (show v = Value.ref a from rx)
  cases (show u = Value.ref b from ry)
  obtain ⟨sl, od, _, J, _⟩ := slt_inst I ha
  obtain ⟨sl', od', _, J', _⟩ := slt_inst I hb
  obtain ⟨m, hF⟩ := I.fr
  have hr1 : Room n X.A.in1 := hr.in1
  refine ne_K (tb := .ref C) (Nat.lt_of_le_of_lt (Nat.add_le_add_left (by decide : 1 ≤ 64) _) hr.units) hF I.ok.mod.kin J J'.type (by unfold PySem.W.notFirst; simp) hne hob hs hf ?_
  refine wpAny_mono (wpAny_call (run_at (us := [.ref a, .ref b]) (ws := [.ref a, .ref b]) F hr1 I.env0.in1 hx I (.cons rfl (.cons rfl .nil)) q)) (fun w s' z => ?_) fun _ _ x => x
  obtain ⟨z', H', I', rz, bb, ez, qz⟩ := z
  subst ez
  obtain rfl : w = Value.bool bb := rz
  exact ⟨bb, rfl, .bl (!bb), H', I', rfl, qz⟩
/-- x not in y by an own __contains__ -/
def rInOwn (C : Addr) (sp : Sp) (E : XK) (f : Bool → Bool) : R2 := fun x y H Q => ∃ a dx vs, y = .ref a ∧ Slt H a C dx vs ∧ sp [y, x] H (fun z H' => ∃ b, z = .bl b ∧ Q (.bl (f b)) H') E
theorem op_notInOwn (hs : PySem.W.findIn X.K (.ref C) "__contains__" = some (some (.ref g))) (hf : PySem.W.isFn X.K (.ref g) = true) (F : FnR X.prog X.w X.K X.mg X.base CX n g sp) (hr : Room n X.A) (hx : Passes CX X E) :
    OpR X (compareOp .NotIn) (rInOwn C sp E fun b => !b) := by
  intro pins s σ H x y v u Q I rx ry h
  obtain ⟨a, dx, vs, rfl, ha, q⟩ := h
  cases (show u = Value.ref a from ry)
  obtain ⟨sl, od, _, J, _⟩ := slt_inst I ha
  obtain ⟨m, hF⟩ := I.fr
  refine PySem.W.notIn_K hF I.ok.mod.kin J hs hf (wpAny_mono (wpAny_call (run_fnR (us := [.ref a, v]) (vs := [.ref a, x]) F hr hx I (.cons rfl (.cons rx .nil)) q)) (fun w s' z => ?_) fun _ _ x => x)
  obtain ⟨z', H', I', rz, bb, ez, qz⟩ := z
  subst ez
  obtain rfl : w = Value.bool bb := rz
  exact wpAny_truthy_bool ⟨.bl (!bb), H', I', rfl, qz⟩
/-- x | y by an own __or__, both of one class -/
def rBinOwn (C : Addr) (sp : Sp) (E : XK) : R2 := fun x y H Q => ∃ a dx vs b dy ws, x = .ref a ∧ y = .ref b ∧ Slt H a C dx vs ∧ Slt H b C dy ws ∧ sp [x, y] H Q E
theorem op_binOwn {op : Operator} (hc : PySem.W.selfFirst X.K C = true) (hs : PySem.W.findIn X.K (.ref C) (PySem.dunder op.info.2) = some (some (.ref g))) (hf : PySem.W.isFn X.K (.ref g) = true) (F : FnR X.prog X.w X.K X.mg X.base CX n g sp) (hr : Room n X.A) (hx : Passes CX X E) :
    OpR X (binaryOp op) (rBinOwn C sp E) := by
  intro pins s σ H x y v u Q I rx ry h
  obtain ⟨a, dx, vs, b, dy, ws, rfl, rfl, ha, hb, q⟩ := h
  cases (show v = Value.ref a from rx)
  cases (show u = Value.ref b from ry)
  obtain ⟨sl, od, _, J, _⟩ := slt_inst I ha
  obtain ⟨sl', od', _, J', _⟩ := slt_inst I hb
  obtain ⟨m, hF⟩ := I.fr
  refine PySem.W.binop_K hF I.ok.mod.kin J J'.type hc hs hf ?_
  refine wpAny_mono (wpAny_call (run_fnR (us := [.ref a, .ref b]) (vs := [.ref a, .ref b]) F hr hx I (.cons rfl (.cons rfl .nil)) q)) (fun w s' z => ?_) fun _ _ x => x
  obtain ⟨z', H', I', rz, qz⟩ := z
  exact cmpback rz ⟨z', H', I', rz, qz⟩
/-- x[y] by an own __getitem__ -/
def rIxOwn (C : Addr) (sp : Sp) (E : XK) : R2 := fun x y H Q => ∃ a dx vs, x = .ref a ∧ Slt H a C dx vs ∧ sp [x, y] H Q E
/-- what a subscript's text must be -/
def OwnIx (b : Expr) : Prop := ∀ (x : Addr) (u : Value), subscripted b true (.ref x) u = runValue (.builtin "lifetime.subscript" ⟨[.ref x, u], []⟩)
theorem pe_ixOwn (hs : PySem.W.findIn X.K (.ref C) "__getitem__" = some (some (.ref g))) (hf : PySem.W.fnIn X.K g = true) (hfn : PySem.W.isFn X.K (.ref g) = true) (F : FnR X.prog X.w X.K X.mg X.base CX n g sp) (hr : Room (n + 1) X.A) (hx : Passes CX X E)
    (ha : PE X a ta) (hb : PE X b tb) (hi : OwnIx b) : PE X (.Subscript a b pos) (tOp (rIxOwn C sp E) ta tb) := by
  refine ⟨fun pins s σ H Q I h => ?_⟩
  refine Subscript_ (binT ha hb I h fun v u s2 x y H2 I2 rx ry q => ?_)
  obtain ⟨a', dx, vs, rfl, ha', q⟩ := q
  cases (show v = Value.ref a' from rx)
  obtain ⟨sl, od, _, J, _⟩ := slt_inst I2 ha'
  obtain ⟨m, hF⟩ := I2.fr
  refine PySem.W.sub_K hF I2.ok.mod.kin J hs hf hfn ?_ (hi a' u)
  exact wpAny_call (run_at (us := [.ref a', u]) (ws := [.ref a', y]) F hr.in1 I2.env0.in1 hx I2 (.cons rfl (.cons ry .nil)) q)
end
end Ku
/-! Sets of tuples of ints and texts. Written by turn_sets.py. -/
namespace Ku
open PySem PySem.Spec PyProof.Rows L2
abbrev TK (P : Program) (w : World) : HeapKind P w (List Key) := tupleKind (mixKind P w)
abbrev thash (P : Program) (w : World) (k : List Key) : Int := tupleKeyHash (mixKind P w) k
/-- the tuple at a has the ints k -/
abbrev IsT (P : Program) (w : World) (h : Heap) (k : List Key) (a : Addr) : Prop := IsTupleKey (mixKind P w) h k a

/-! ### the model's words, opened -/

section
variable {P : Program} {w : World} {A : Around} {E : Value → Shared → Prop} {s : Shared}

/-! ### small questions asked of tuples -/
theorem items_int {k : List Key} {vs : List Value} (h : ItemsAre (mixKind P w) k vs) : ∀ v ∈ vs, (∃ i t, v = Value.int i t) ∨ ∃ i t, v = Value.str i t := by
  induction h with
  | nil => intro v hv; cases hv
  | @cons k0 v' ks vs h1 _ ih =>
    intro v hv
    rcases List.mem_cons.mp hv with e | hv
    · rcases keyIs_shape h1 with ⟨i, t, _, e2⟩ | ⟨i, t, _, e2⟩
      · exact .inl ⟨i, t, e.trans e2⟩
      · exact .inr ⟨i, t, e.trans e2⟩
    · exact ih v hv
theorem ofAClass_item (n : Nat) {v : Value} (h : (∃ i t, v = Value.int i t) ∨ ∃ i t, v = Value.str i t) : ofAClassStatement n v = pure false := by
  rcases h with ⟨i, t, rfl⟩ | ⟨i, t, rfl⟩ <;> cases n <;> rfl
theorem hashBy_item (n : Nat) {v : Value} (h : (∃ i t, v = Value.int i t) ∨ ∃ i t, v = Value.str i t) : ∃ z, hashByValue n v = pure z := by
  rcases h with ⟨i, t, rfl⟩ | ⟨i, t, rfl⟩
  · exact ⟨true, by cases n <;> rfl⟩
  · exact ⟨false, by cases n <;> rfl⟩
theorem wp_if_bind {α β : Type} {M : Model} {A : Around} {E : Value → Shared → Prop} {s : Shared} {Q : β → Shared → Prop} {c : Prop} [Decidable c] {m n : Sem α} {f : α → Sem β} (h : wpAny M A (if c then m else n) (fun a s' => wpAny M A (f a) Q E s') E s) :
    wpAny M A (if c then m >>= f else n >>= f) Q E s := by
  by_cases hc : c
  · rw [if_pos hc] at h ⊢
    exact wpAny_bind h
  · rw [if_neg hc] at h ⊢
    exact wpAny_bind h
/-- the table's flag says nothing of its places -/
theorem TabOk.flag {t : SetTable} {hs : List Int} (T : TabOk t hs) (z : Bool) : TabOk (if z = true then t else { t with plain := false }) hs := by
  cases z
  · exact ⟨T.ris, T.dm, T.sz, T.mok, T.bd, T.reach⟩
  · exact T
theorem ofAClass_tup {k : List Key} {b : Addr} {Q : Bool → Shared → Prop} (hk : IsT P w s.heap k b) (h : Q false s) : wpAny (model P w) A (ofAClassStatement 8 (.ref b)) Q E s := by
  have hT := hk.typeIs
  obtain ⟨o, items, n, ho, _, hd, hi⟩ := hk
  unfold ofAClassStatement
  refine wpAny_bind (wpAny_typeOf hT ?_)
  dsimp only
  have e : (("tuple" : String) == "tuple") = true := by decide
  simp only [e, if_true, Bool.not_true, Bool.false_eq_true, if_false]
  try refine wpAny_bind (wpAny_pure ?_)
  try simp only [Bool.not_true, Bool.false_eq_true, if_false]
  show wpAny _ _ (seqItems? (.ref b) >>= _) _ _ s
  refine wpAny_bind (wpAny_seqItems ho hd ?_)
  dsimp only
  refine wpAny_bind ?_
  show wpAny _ _ (forIn items _ _) _ _ s
  rw [← Array.forIn_toList]
  refine wpAny_forIn_list _ (fun rest r s' => r.1 = none ∧ s' = s ∧ ∀ v ∈ rest, (∃ i t, v = Value.int i t) ∨ ∃ i t, v = Value.str i t) _ ?_ ?_ _ _ ⟨rfl, rfl, items_int hi⟩
  · rintro v rest r s' ⟨hr, rfl, hall⟩
    rw [ofAClass_item _ (hall v List.mem_cons_self)]
    refine wpAny_bind (wpAny_pure ?_)
    simp only [Bool.false_eq_true, if_false]
    exact wpAny_pure ⟨rfl, rfl, fun u hu' => hall u (List.mem_cons_of_mem _ hu')⟩
  · rintro ⟨r1, r2⟩ s' ⟨hr, rfl, _⟩
    simp only at hr
    subst hr
    exact wpAny_pure h
theorem hashBy_tup {k : List Key} {b : Addr} {Q : Bool → Shared → Prop} (hk : IsT P w s.heap k b) (h : ∀ z, Q z s) : wpAny (model P w) A (hashByValue 8 (.ref b)) Q E s := by
  have hT := hk.typeIs
  obtain ⟨o, items, n, ho, _, hd, hi⟩ := hk
  unfold hashByValue
  refine wpAny_bind (wpAny_specialOf hT F.slot_tuple_hash.lookup ?_)
  show wpAny _ _ (seqItems? (.ref b) >>= _) _ _ s
  refine wpAny_bind (wpAny_seqItems ho hd ?_)
  refine wpAny_bind ?_
  show wpAny _ _ (forIn items _ _) _ _ s
  rw [← Array.forIn_toList]
  refine wpAny_forIn_list _ (fun rest r s' => r.1 = none ∧ s' = s ∧ ∀ v ∈ rest, ∃ z, hashByValue 7 v = pure z) _ ?_ ?_ _ _ ⟨rfl, rfl, fun v hv => hashBy_item 7 (items_int hi v hv)⟩
  · rintro v rest r s' ⟨hr, rfl, hall⟩
    obtain ⟨z, ez⟩ := hall v List.mem_cons_self
    rw [ez]
    refine wpAny_bind (wpAny_pure ?_)
    cases z
    · simp only [Bool.not_false, if_true]
      exact wpAny_pure (wpAny_pure (h _))
    · simp only [Bool.not_true, Bool.false_eq_true, if_false]
      exact wpAny_pure ⟨rfl, rfl, fun u hu' => hall u (List.mem_cons_of_mem _ hu')⟩
  · rintro ⟨r1, r2⟩ s' ⟨hr, rfl, _⟩
    simp only at hr
    subst hr
    exact wpAny_pure (h _)
/-- a search among tuples shows nothing -/
theorem seen_tup {k : List Key} {b : Addr} {Q : Bool → Shared → Prop} (hk : IsT P w s.heap k b) {ys : List Value} (hy : ∀ y ∈ ys, ∃ k' c, y = Value.ref c ∧ IsT P w s.heap k' c) (h : Q false s) :
    wpAny (model P w) A (searchCouldBeSeen (.ref b) ys) Q E s := by
  unfold searchCouldBeSeen
  refine wpAny_bind ?_
  refine wpAny_forIn_list _ (fun rest r s' => r.1 = none ∧ s' = s ∧ ∀ y ∈ rest, ∃ k' c, y = Value.ref c ∧ IsT P w s.heap k' c) _ ?_ ?_ _ _ ⟨rfl, rfl, hy⟩
  · rintro v rest r s' ⟨hr, rfl, hall⟩
    obtain ⟨k', c, rfl, hc⟩ := hall v List.mem_cons_self
    have rest' : ∀ y ∈ rest, ∃ k' c, y = Value.ref c ∧ IsT P w s'.heap k' c := fun u hu' => hall u (List.mem_cons_of_mem _ hu')
    dsimp only
    by_cases hv : (b == c || (carriedByValue (.ref b) && carriedByValue (.ref c))) = true
    · refine wp_if_pos hv ?_
      exact wpAny_pure ⟨rfl, rfl, rest'⟩
    · refine wp_if_neg hv ?_
      refine wpAny_bind (wpAny_eqIsQuiet_tuple hk ?_)
      simp only [Bool.not_true, Bool.false_eq_true, if_false]
      refine wpAny_bind (wpAny_eqIsQuiet_tuple hc ?_)
      simp only [Bool.not_true, Bool.false_eq_true, if_false]
      refine wpAny_bind (ofAClass_tup hk ?_)
      simp only [Bool.false_eq_true, if_false]
      refine wpAny_bind (ofAClass_tup hc ?_)
      simp only [Bool.false_eq_true, if_false]
      exact wpAny_pure ⟨rfl, rfl, rest'⟩
  · rintro ⟨r1, r2⟩ s' ⟨hr, rfl, _⟩
    simp only at hr
    subst hr
    exact wpAny_pure h

/-! ### the set of tuples -/
def rowsOf (P : Program) (w : World) (L : List (Addr × List Key)) : List (Int × Value) := L.map fun p => (thash P w p.2, Value.ref p.1)
structure SetTR (P : Program) (w : World) (h : Heap) (a : Addr) (L : List (Addr × List Key)) (es : Array (Int × Value)) (ep : Nat) (t : SetTable) : Prop where
  ob : ∃ o, h.get? a = some o ∧ o.ExactSet ∧ o.data = .set es ep t
  rows : es.toList = rowsOf P w L
  tab : TabOk t (L.map fun p => thash P w p.2)
  nd : (L.map (·.2)).Nodup
  tup : ∀ p ∈ L, IsT P w h p.2 p.1
  led : w.params.followText "set-order" = true ∨ t.led = true
  room : L.length * 5 < t.mask * 3
  few : L.length < 64
variable {a : Addr} {L : List (Addr × List Key)} {es : Array (Int × Value)} {ep : Nat} {t : SetTable}
theorem SetTR.size (R : SetTR P w s.heap a L es ep t) : es.size = L.length := by
  have h := congrArg List.length R.rows
  unfold rowsOf at h
  rw [Array.length_toList, List.length_map] at h
  exact h
theorem SetTR.fits (R : SetTR P w s.heap a L es ep t) : t.fits es.size = true := by
  have h1 := R.tab.sz
  rw [List.length_map] at h1
  have h2 := R.size
  have h3 := R.room
  unfold SetTable.fits SetTable.fill
  rw [R.tab.dm, Bool.and_eq_true, beq_iff_eq, decide_eq_true_eq]
  show t.place.size = es.size ∧ t.place.size + 0 ≤ t.mask
  omega
theorem SetTR.entry (R : SetTR P w s.heap a L es ep t) {i : Nat} {p : Addr × List Key} (h : L[i]? = some p) : es[i]? = some (thash P w p.2, Value.ref p.1) := by
  rw [← Array.getElem?_toList, R.rows]
  unfold rowsOf
  rw [List.getElem?_map, h] <;> rfl
theorem SetTR.gw (R : SetTR P w s.heap a L es ep t) : ¬ t.gaveWay = true := by
  unfold SetTable.gaveWay
  rw [mask_odd R.tab.mok]
  decide

/-- THE SEARCH: from the c-th step of the way on -/
theorem search_from (R : SetTR P w s.heap a L es ep t) {x : Addr} {k : List Key} (hx : IsT P w s.heap k x) (hu : A.units < cLine) {K : Nat} (hKf : K < 10 * SetTable.turns t.mask)
    (hK : way t.mask (thash P w k) K ∉ t.place.toList) (hKb : ∀ c, c < K → way t.mask (thash P w k) c ∈ t.place.toList) {Q : SetFound → Shared → Prop}
    (hin : k ∈ L.map (·.2) → Q (.there none) s) (hout : k ∉ L.map (·.2) → Q (.free (way t.mask (thash P w k) K) false) s) :
    ∀ (f c : Nat) (stand : Option SetTable.Probe), stand.getD (t.probeStart (thash P w k)) = nth t.mask (runAt t.mask (SetTable.bits (thash P w k) % (t.mask + 1)) (SetTable.bits (thash P w k))) c → c ≤ K → K - c < f →
      (∀ (i : Nat) p, L[i]? = some p → p.2 = k → ∃ c', c ≤ c' ∧ c' < K ∧ t.place.toList[i]? = some (way t.mask (thash P w k) c')) →
      wpAny (model P w) A (setSearchFrom a (.ref x) (thash P w k) true f stand) Q E s
  | 0, c, stand, _, _, hf, _ => absurd hf (Nat.not_lt_zero _)
  | f + 1, c, stand, hst, hc, hf, hre => by
    obtain ⟨o, ho, hex, hd⟩ := R.ob
    rw [setSearchFrom_succ]
    refine wpAny_bind (wpAny_setState_of ho hd R.fits ?_)
    dsimp only
    refine wp_if_neg R.gw ?_
    try refine wpAny_bind (wpAny_pure ?_)
    have hnd : (nth t.mask (runAt t.mask (SetTable.bits (thash P w k) % (t.mask + 1)) (SetTable.bits (thash P w k))) c).dummy = none := by
      have key : ∀ (n : Nat) (p : SetTable.Probe), p.dummy = none → (nth t.mask p n).dummy = none := by
        intro n
        induction n with
        | zero => intro p h; exact h
        | succ n ih =>
          intro p h
          refine ih (adv t.mask p) ?_
          unfold adv
          split <;> exact h
      exact key c _ rfl
    have sh : ∀ q, nth t.mask (nth t.mask (runAt t.mask (SetTable.bits (thash P w k) % (t.mask + 1)) (SetTable.bits (thash P w k))) c) q = nth t.mask (runAt t.mask (SetTable.bits (thash P w k) % (t.mask + 1)) (SetTable.bits (thash P w k))) (c + q) := fun q => (nth_add t.mask c _ q).symm
    have e1 : ∀ q, (nth t.mask (nth t.mask (runAt t.mask (SetTable.bits (thash P w k) % (t.mask + 1)) (SetTable.bits (thash P w k))) c) q).j = way t.mask (thash P w k) (c + q) := fun q => congrArg SetTable.Probe.j (sh q)
    have spec := go_spec t R.tab.ris R.tab.dm (fun i => (es[i]?.map (·.1)).getD 0) (thash P w k) (10 * SetTable.turns t.mask) (K - c) _ hnd (by omega)
      (fun q hq => by rw [e1]; exact hKb (c + q) (by omega)) (by rw [e1, show c + (K - c) = K by omega]; exact hK)
    have hashAt : ∀ (i : Nat) p, L[i]? = some p → (fun i => (es[i]?.map (·.1)).getD 0) i = thash P w p.2 := fun i p hp => by
      show (es[i]?.map (·.1)).getD 0 = _
      rw [R.entry hp] <;> rfl
    rcases spec with ⟨q, i, hq, hi, hh, hno, hpr⟩ | ⟨hno, hpr⟩
    · -- a candidate
      have hpr' : t.probe (fun i => (es[i]?.map (·.1)).getD 0) (thash P w k) (stand.getD (t.probeStart (thash P w k))) = some (.candidate (way t.mask (thash P w k) (c + q)) i (nth t.mask (runAt t.mask (SetTable.bits (thash P w k) % (t.mask + 1)) (SetTable.bits (thash P w k))) (c + (q + 1)))) := by
        rw [hst, ← e1, ← sh]
        exact hpr
      rw [hpr']
      dsimp only
      rw [e1] at hi
      -- the entry
      have hil : i < L.length := by
        have h1 : i < t.place.toList.length := (List.getElem?_eq_some_iff.mp hi).1
        have h2 := R.tab.sz
        rw [List.length_map] at h2
        rw [Array.length_toList] at h1
        omega
      have hp : L[i]? = some L[i] := List.getElem?_eq_getElem hil
      generalize hpe : L[i] = p at hp
      have hmem : p ∈ L := List.mem_of_getElem? hp
      have hpt := R.tup p hmem
      have rest : wpAny (model P w) A (searchRest a (.ref x) (thash P w k) true f es t (way t.mask (thash P w k) (c + q)) i (nth t.mask (runAt t.mask (SetTable.bits (thash P w k) % (t.mask + 1)) (SetTable.bits (thash P w k))) (c + (q + 1)))) Q E s := by
        unfold searchRest
        rw [R.entry hp]
        dsimp only
        refine wpAny_bind (wpAny_holding (wpAny_eqBool_tuple hu hpt hx ?_))
        refine wpAny_bind (wpAny_setState_of ho hd R.fits ?_)
        dsimp only
        by_cases hkk : p.2 = k
        · refine wp_if_pos (by simp [hkk]) ?_
          refine wpAny_pure (hin ?_)
          exact List.mem_map.mpr ⟨p, hmem, hkk⟩
        · refine wp_if_neg (by simp [hkk]) ?_
          try refine wpAny_bind (wpAny_pure ?_)
          rw [sameMem]
          dsimp only
          have hsl : t.slot (way t.mask (thash P w k) (c + q)) = .live i := slot_live R.tab.ris hi
          simp only [if_true, hsl, R.entry hp]
          refine wpAny_bind (wpAny_isSame_ref_self (wpAny_bind (wpAny_pure ?_)))
          simp only [if_true]
          refine wp_if_neg (by simp [hkk]) ?_
          refine search_from R hx hu hKf hK hKb hin hout f (c + (q + 1)) _ rfl (by omega) (by omega) fun i0 p0 h0 hk0 => ?_
          obtain ⟨c', a1, a2, a3⟩ := hre i0 p0 h0 hk0
          refine ⟨c', ?_, a2, a3⟩
          -- it isn't passed
          rcases Nat.lt_or_ge c' (c + q) with z | z
          · exfalso
            refine hno (c' - c) i0 (by omega) (by rw [e1, show c + (c' - c) = c' by omega]; exact a3) ?_
            exact (hashAt i0 p0 h0).trans (congrArg (thash P w) hk0)
          · rcases Nat.lt_or_ge (c + q) c' with y | y
            · omega
            · exfalso
              have ec : c' = c + q := Nat.le_antisymm y z
              rw [ec] at a3
              have s0 := slot_live R.tab.ris a3
              rw [hsl] at s0
              injection s0 with s0
              rw [← s0, hp] at h0
              exact hkk ((congrArg Prod.snd (Option.some.inj h0)).trans hk0)
      by_cases hl : t.led = true
      · refine wp_if_neg (by simp [hl]) ?_
        try refine wpAny_bind (wpAny_pure ?_)
        exact rest
      · refine wp_if_pos (by simp [hl]) ?_
        refine wpAny_bind (seen_tup hx (fun y hy => ?_) ?_)
        · obtain ⟨e, he, ee⟩ := List.mem_map.mp hy
          have he1 : e ∈ es ∧ e.1 = thash P w k := by simpa using he
          have he2 : e ∈ es.toList := by simpa using he1.1
          rw [R.rows] at he2
          obtain ⟨p2, hp2, e2⟩ := List.mem_map.mp he2
          refine ⟨p2.2, p2.1, ?_, R.tup p2 hp2⟩
          rw [← ee, ← e2]
        · refine wp_if_neg (by decide) ?_
          try refine wpAny_bind (wpAny_pure ?_)
          exact rest
    · -- the empty slot
      have hpr' : t.probe (fun i => (es[i]?.map (·.1)).getD 0) (thash P w k) (stand.getD (t.probeStart (thash P w k))) = some (.empty (way t.mask (thash P w k) K) none) := by
        have e2 : way t.mask (thash P w k) K = (nth t.mask (nth t.mask (runAt t.mask (SetTable.bits (thash P w k) % (t.mask + 1)) (SetTable.bits (thash P w k))) c) (K - c)).j := by
          rw [e1, show c + (K - c) = K by omega]
        rw [hst, e2]
        exact hpr
      rw [hpr']
      dsimp only
      refine wpAny_pure (hout fun hm => ?_)
      obtain ⟨p0, h0, hk0⟩ := List.mem_map.mp hm
      obtain ⟨i0, hi0, e0⟩ := List.getElem_of_mem h0
      have h00 : L[i0]? = some p0 := by rw [List.getElem?_eq_getElem hi0, e0]
      obtain ⟨c', a1, a2, a3⟩ := hre i0 p0 h00 hk0
      refine hno (c' - c) i0 (by omega) (by rw [e1, show c + (c' - c) = c' by omega]; exact a3) ?_
      exact (hashAt i0 p0 h00).trans (congrArg (thash P w) hk0)

/-- the search as adding asks for it -/
theorem search_at (R : SetTR P w s.heap a L es ep t) {x : Addr} {k : List Key} (hx : IsT P w s.heap k x) (hu : A.units < cLine) {Q : SetFound → Shared → Prop}
    (hin : k ∈ L.map (·.2) → Q (.there none) s)
    (hout : ∀ K, k ∉ L.map (·.2) → way t.mask (thash P w k) K ∉ t.place.toList → (∀ c, c < K → way t.mask (thash P w k) c ∈ t.place.toList) → Q (.free (way t.mask (thash P w k) K) false) s) :
    wpAny (model P w) A (setSearch a (.ref x) (thash P w k) true) Q E s := by
  have hroom := R.room
  obtain ⟨K, hKf, hK, hKb⟩ := R.tab.first (by rw [List.length_map]; omega) (thash P w k)
  have hbig : K < 100000 := by
    have : 10 * SetTable.turns t.mask ≤ 1420 := by
      unfold SetTable.turns
      rcases R.tab.mok with e | e | e <;> omega
    omega
  unfold setSearch
  refine search_from R hx hu hKf hK hKb hin (fun hn => hout K hn hK hKb) 100000 0 none rfl (Nat.zero_le _) (by omega) fun i p hp hk => ?_
  have hi : (L.map fun p => thash P w p.2)[i]? = some (thash P w k) := by rw [List.getElem?_map, hp, ← hk] <;> rfl
  have hil : i < t.place.toList.length := by
    have h1 : i < L.length := (List.getElem?_eq_some_iff.mp hp).1
    have h2 := R.tab.sz
    rw [List.length_map] at h2
    rw [Array.length_toList]
    omega
  have hj := List.getElem?_eq_getElem hil
  obtain ⟨c, hc, e⟩ := R.tab.before hK hi hj
  exact ⟨c, Nat.zero_le _, hc, by rw [hj, e]⟩
end

section
variable {P : Program} {w : World} {A : Around} {E : Value → Shared → Prop} {s : Shared}
/-- a tuple isn't the set -/
theorem isT_same {h h' : Heap} {k : List Key} {a b : Addr} {o : Obj} {es : Array (Int × Value)} {ep : Nat} {t : SetTable} (hb : IsT P w h k b) (ho : h.get? a = some o) (hd : o.data = .set es ep t) (hs : Heap.SameBut a h h') : IsT P w h' k b := by
  obtain ⟨o', items, n, ho', hc, hd', hi⟩ := hb
  have hne : b ≠ a := by
    rintro rfl
    obtain rfl : o' = o := Option.some.inj (ho'.symm.trans ho)
    rw [hd] at hd'
    exact nomatch hd'
  exact ⟨o', items, n, (hs.2 b hne).trans ho', hc, hd', hi⟩
theorem rows_put (L : List (Addr × List Key)) (p : Nat) (x : Addr) (k : List Key) : rowsOf P w (L.take p ++ (x, k) :: L.drop p) = (rowsOf P w L).take p ++ (thash P w k, Value.ref x) :: (rowsOf P w L).drop p := by
  unfold rowsOf
  rw [List.map_append, List.map_cons, List.map_take, List.map_drop]
theorem order_rows (L : List (Addr × List Key)) (es : Array (Int × Value)) (order : Array Nat) (hr : es.toList = rowsOf P w L) (hp : order.toList.Perm (List.range L.length)) :
    ∃ L2, (order.filterMap (es[·]?)).toList = rowsOf P w L2 ∧ L2.Perm L ∧ (L2.map fun p => thash P w p.2) = order.toList.map fun i => (es.map (·.1)).getD i 0 := by
  have hsz : es.size = L.length := by
    have h := congrArg List.length hr
    unfold rowsOf at h
    rw [Array.length_toList, List.length_map] at h
    exact h
  have ent : ∀ i (h : i < L.length), es[i]? = some (thash P w (L[i]).2, Value.ref (L[i]).1) := fun i h => by
    rw [← Array.getElem?_toList, hr]
    unfold rowsOf
    rw [List.getElem?_map, List.getElem?_eq_getElem h] <;> rfl
  have key : ∀ l : List Nat, (∀ i ∈ l, i < L.length) → ∃ L2 : List (Addr × List Key), l.filterMap (fun i => es[i]?) = rowsOf P w L2 ∧ L2 = l.filterMap (fun i => L[i]?) ∧ (L2.map fun p => thash P w p.2) = l.map fun i => (es.map (·.1)).getD i 0 := by
    intro l
    induction l with
    | nil => intro _; exact ⟨[], rfl, rfl, rfl⟩
    | cons i l ih =>
      intro hl
      have hi := hl i List.mem_cons_self
      obtain ⟨L2, e1, e2, e3⟩ := ih fun j hj => hl j (List.mem_cons_of_mem _ hj)
      refine ⟨L[i] :: L2, ?_, ?_, ?_⟩
      · rw [List.filterMap_cons_some (ent i hi), e1] <;> rfl
      · rw [List.filterMap_cons_some (List.getElem?_eq_getElem hi), e2]
      · rw [List.map_cons, List.map_cons, e3]
        have hi2 : i < (es.map (·.1)).size := by rw [Array.size_map, hsz]; exact hi
        have e4 : (es.map (·.1)).getD i 0 = thash P w (L[i]).2 := by
          have e5 : (es.map (·.1))[i]? = some (thash P w (L[i]).2) := by rw [Array.getElem?_map, ent i hi] <;> rfl
          simp [Array.getD_eq_getD_getElem?, e5]
        rw [e4]
  obtain ⟨L2, e1, e2, e3⟩ := key order.toList fun i hi => List.mem_range.mp (hp.mem_iff.mp hi)
  refine ⟨L2, by first | (rw [Array.toList_filterMap]; exact e1) | simpa using e1, ?_, e3⟩
  have h1 : L2.Perm ((List.range L.length).filterMap fun i => L[i]?) := by
    rw [e2]
    exact hp.filterMap _
  have h2 : (List.range L.length).filterMap (fun i => L[i]?) = L := by
    have key2 : ∀ n, n ≤ L.length → (List.range n).filterMap (fun i => L[i]?) = L.take n := by
      intro n
      induction n with
      | zero => intro _; rfl
      | succ n ih =>
        intro hn
        have hlt : n < L.length := hn
        rw [List.range_succ, List.filterMap_append, ih (Nat.le_of_lt hlt), List.take_succ, List.getElem?_eq_getElem hlt]
        rw [List.filterMap_cons_some (List.getElem?_eq_getElem hlt)] <;> rfl
    rw [key2 L.length (Nat.le_refl _), List.take_length]
  rw [h2] at h1
  exact h1

variable {a : Addr} {L : List (Addr × List Key)} {es : Array (Int × Value)} {ep : Nat} {t : SetTable}
/-- the table laid anew, larger -/
theorem relay_at {o : Obj} (ho : s.heap.get? a = some o) (hex : o.ExactSet) (hd : o.data = .set es ep t) (hrows : es.toList = rowsOf P w L) (hsz : t.place.size = es.size) (hdm : t.dummies = #[]) (hfl : es.size ≤ t.mask)
    (nd : (L.map (·.2)).Nodup) (tup : ∀ p ∈ L, IsT P w s.heap p.2 p.1) (ld : w.params.followText "set-order" = true ∨ t.led = true) (few : L.length < 64) {wanted M : Nat}
    (hw : SetTable.sizeAbove wanted - 1 = M) (hM : MaskOk M) (hw2 : SetTable.sizeAbove wanted ≤ 128) (hn : L.length * 5 < M * 3) {Q : Unit → Shared → Prop}
    (hQ : ∀ h' L' es' ep' t', Heap.SameBut a s.heap h' → SetTR P w h' a L' es' ep' t' → L'.Perm L → Q () { s with heap := h' }) : wpAny (model P w) A (setRelay a wanted) Q E s := by
  have hsl : es.size = L.length := by
    have h := congrArg List.length hrows
    unfold rowsOf at h
    rw [Array.length_toList, List.length_map] at h
    exact h
  have hfits : t.fits es.size = true := by
    unfold SetTable.fits SetTable.fill
    rw [hdm, Bool.and_eq_true, beq_iff_eq, decide_eq_true_eq]
    show t.place.size = es.size ∧ t.place.size + 0 ≤ t.mask
    omega
  obtain ⟨t', order, e, hp, T, em, el, ep', ed⟩ := relaid_ok t (hs := es.map (·.1)) (wanted := wanted) hw hM (by rw [Array.size_map, hsl]; omega)
  rw [Array.size_map, hsl] at hp
  obtain ⟨L2, r1, r2, r3⟩ := order_rows L es order hrows hp
  rw [← r3] at T
  have hs2 : (order.filterMap (es[·]?)).size = es.size := by
    have h := congrArg List.length r1
    unfold rowsOf at h
    rw [Array.length_toList, List.length_map, r2.length_eq] at h
    rw [h, hsl]
  rw [setRelay_eq]
  refine wpAny_bind (wpAny_setState_of ho hd hfits ?_)
  dsimp only
  refine wp_if_neg (by rw [sizeLine_eq]; omega) ?_
  try refine wpAny_bind (wpAny_pure ?_)
  rw [e]
  dsimp only
  refine wpAny_bind ?_
  refine wp_if_neg (by rw [hs2]; simp) ?_
  try refine wpAny_bind (wpAny_pure ?_)
  refine wpAny_pure ?_
  dsimp only
  refine wpAny_storeSet_of ho hd ?_ (by rw [hs2, hsl, sizeLine_eq]; omega)
  have sb : Heap.SameBut a s.heap (s.heap.update a (Obj.putSet (order.filterMap (es[·]?)) t')) := Heap.SameBut.update ..
  refine hQ _ L2 (order.filterMap (es[·]?)) (ep + 1) t' sb ?_ r2
  refine ⟨⟨_, store_at ho hd, ⟨hex.1, hex.2.1, hex.2.2⟩, rfl⟩, r1, T, ?_, fun p hpm => isT_same (tup p (r2.mem_iff.mp hpm)) ho hd sb, by rw [el]; exact ld, ?_, by rw [r2.length_eq]; exact few⟩
  · exact (r2.map (·.2)).nodup_iff.mpr nd
  · rw [r2.length_eq, em]
    exact hn

/-- ADDING -/
theorem add_at (R : SetTR P w s.heap a L es ep t) {x : Addr} {k : List Key} (hx : IsT P w s.heap k x) (hu : A.units < cLine) (hfew : L.length + 1 < 64) {Q : Bool → Shared → Prop}
    (hQ : ∀ b h' L' es' ep' t', Heap.SameBut a s.heap h' → SetTR P w h' a L' es' ep' t' → (k ∈ L.map (·.2) → L' = L) → (k ∉ L.map (·.2) → L'.Perm ((x, k) :: L)) → Q b { s with heap := h' }) :
    wpAny (model P w) A (setAddHashed a (.ref x) (thash P w k)) Q E s := by
  obtain ⟨o, ho, hex, hd⟩ := R.ob
  have hsl := R.size
  have hroom := R.room
  unfold setAddHashed
  refine wpAny_holding ?_
  rw [show (100000 : Nat) = 99999 + 1 from rfl, setAddHashedIn_succ]
  refine wpAny_bind (wpAny_setState_of ho hd R.fits ?_)
  dsimp only
  refine wp_if_neg (by simp [byScan, Value.scannable]) ?_
  try refine wpAny_bind (wpAny_pure ?_)
  refine wpAny_bind (search_at R hx hu (fun hm => ?_) fun K hm hK hb => ?_)
  · dsimp only
    exact wpAny_pure (hQ false s.heap L es ep t (Heap.SameBut.refl a s.heap) R (fun _ => rfl) fun z => absurd hm z)
  · dsimp only
    refine wpAny_bind (wpAny_setState_of ho hd R.fits ?_)
    dsimp only
    obtain ⟨q1, q2, q3, q4, q5, q6, q7, q8, q9⟩ := R.tab.put hK hb
    generalize hpt : t.put (way t.mask (thash P w k) K) = pt at q1 q3 q4 q5 q6 q7 q8 q9 ⊢
    obtain ⟨t1, p⟩ := pt
    dsimp only at q1 q3 q4 q5 q6 q7 q8 q9 ⊢
    subst q1
    refine wp_if_bind ?_
    refine wpAny_mono (Q := fun _ s' => s' = s) (E := E) ?_ (fun z s' es' => ?_) fun _ _ e => e
    · by_cases hp : t1.plain = true
      · refine wp_if_pos hp (hashBy_tup hx fun _ => rfl)
      · exact wp_if_neg hp (wpAny_pure rfl)
    have es2 := es'.symm
    subst es2
    have q3 := TabOk.flag q3 z
    have q4 : (if z = true then t1 else { t1 with plain := false }).mask = t.mask := by cases z <;> exact q4
    have q5 : (if z = true then t1 else { t1 with plain := false }).led = t.led := by cases z <;> exact q5
    have q9 : (if z = true then t1 else { t1 with plain := false }).fill = (L.map fun p => thash P w p.2).length + 1 := by cases z <;> exact q9
    generalize (if z = true then t1 else { t1 with plain := false }) = t1 at q3 q4 q5 q9 ⊢
    have hin : (SetTable.insertAt es (SetTable.below t.place (way t.mask (thash P w k) K)) (thash P w k, Value.ref x)).toList = rowsOf P w (L.take (SetTable.below t.place (way t.mask (thash P w k) K)) ++ (x, k) :: L.drop (SetTable.below t.place (way t.mask (thash P w k) K))) := by
      rw [SetTable.toList_insertAt, rows_put, R.rows]
    generalize hpp : SetTable.below t.place (way t.mask (thash P w k) K) = p at q2 q3 hin ⊢
    have pm := put_perm L p (x, k)
    have hlen : (L.take p ++ (x, k) :: L.drop p).length = L.length + 1 := pm.length_eq
    have hhs : (L.take p ++ (x, k) :: L.drop p).map (fun p => thash P w p.2) = (L.map fun p => thash P w p.2).take p ++ thash P w k :: (L.map fun p => thash P w p.2).drop p := by
      rw [List.map_append, List.map_cons, List.map_take, List.map_drop]
    rw [← hhs] at q3
    have nd1 : ((L.take p ++ (x, k) :: L.drop p).map (·.2)).Nodup := by
      refine (pm.map (·.2)).nodup_iff.mpr ?_
      rw [List.map_cons]
      exact List.nodup_cons.mpr ⟨hm, R.nd⟩
    have hes : (SetTable.insertAt es p (thash P w k, Value.ref x)).size = L.length + 1 := by
      have h := congrArg List.length hin
      unfold rowsOf at h
      rw [Array.length_toList, List.length_map, hlen] at h
      exact h
    generalize SetTable.insertAt es p (thash P w k, Value.ref x) = es1 at hin hes ⊢
    generalize L.take p ++ (x, k) :: L.drop p = L1 at pm hlen q3 nd1 hin
    refine wpAny_bind (wpAny_storeSet_of ho hd ?_ (by rw [hes, sizeLine_eq]; omega))
    have sb : Heap.SameBut a s.heap (s.heap.update a (Obj.putSet es1 t1)) := Heap.SameBut.update ..
    have ho1 := store_at (es' := es1) (t' := t1) ho hd
    generalize s.heap.update a (Obj.putSet es1 t1) = h1 at sb ho1 ⊢
    have tup1 : ∀ p ∈ L1, IsT P w h1 p.2 p.1 := fun p hp => by
      rcases List.mem_cons.mp (pm.mem_iff.mp hp) with e | hp
      · rw [e]; exact isT_same hx ho hd sb
      · exact isT_same (R.tup p hp) ho hd sb
    have ld1 : w.params.followText "set-order" = true ∨ t1.led = true := by rw [q5]; exact R.led
    by_cases hf : t1.tooFull = true
    · first
        | (refine wpAny_bind ?_; refine wp_if_pos (by simp [hf]) ?_)
        | (refine wp_if_pos (by simp [hf]) ?_; refine wpAny_bind ?_)
      have hfull : (L.length + 1) * 5 ≥ t1.mask * 3 := by
        have h := hf
        unfold SetTable.tooFull at h
        rw [decide_eq_true_eq, q9, List.length_map] at h
        exact h
      rw [hsl]
      have hsz1 : t1.place.size = es1.size := by
        have h := q3.sz
        rw [List.length_map, hlen] at h
        rw [h, hes]
      have cases2 : (t.mask = 7 ∧ L.length = 4) ∨ (t.mask = 31 ∧ L.length = 18) := by
        rcases R.tab.mok with e | e | e
        · left; rw [q4, e] at hfull; rw [e] at hroom; exact ⟨e, by omega⟩
        · right; rw [q4, e] at hfull; rw [e] at hroom; exact ⟨e, by omega⟩
        · exfalso; rw [q4, e] at hfull; omega
      have go : ∀ M, SetTable.sizeAbove (SetTable.grown (L.length + 1)) - 1 = M → MaskOk M → SetTable.sizeAbove (SetTable.grown (L.length + 1)) ≤ 128 → (L.length + 1) * 5 < M * 3 →
          wpAny (model P w) A (setRelay a (SetTable.grown (L.length + 1))) (fun _ s' => wpAny (model P w) A (pure true) Q E s') E { s with heap := h1 } := fun M h1' h2' h3' h4' => by
        refine relay_at (s := { s with heap := h1 }) ho1 ⟨hex.1, hex.2.1, hex.2.2⟩ rfl hin hsz1 q3.dm (by rw [hes, q4]; rcases cases2 with ⟨e, e2⟩ | ⟨e, e2⟩ <;> omega) nd1 tup1 ld1 (by rw [hlen]; exact hfew) h1' h2' h3' (by rw [hlen]; exact h4') ?_
        intro h2 L2 es2 ep2 t2 sb2 R2 pm2
        refine wpAny_pure (hQ true h2 L2 es2 ep2 t2 (sb.trans sb2) R2 (fun z => absurd z hm) fun _ => pm2.trans pm)
      rcases cases2 with ⟨_, e2⟩ | ⟨_, e2⟩
      · refine go 31 (by rw [e2, size_20]) (.inr (.inl rfl)) (by rw [e2, size_20]; decide) (by omega)
      · refine go 127 (by rw [e2, size_76]) (.inr (.inr rfl)) (by rw [e2, size_76]; decide) (by omega)
    · first
        | refine wp_if_neg (by simp [hf]) ?_
        | (refine wpAny_bind ?_; refine wp_if_neg (by simp [hf]) ?_; refine wpAny_pure ?_)
      refine wpAny_pure (hQ true h1 L1 es1 (ep + 1) t1 sb ⟨⟨_, ho1, ⟨hex.1, hex.2.1, hex.2.2⟩, rfl⟩, hin, q3, nd1, tup1, ld1, ?_, by rw [hlen]; exact hfew⟩ (fun z => absurd z hm) fun _ => pm)
      have h := hf
      unfold SetTable.tooFull at h
      rw [decide_eq_true_eq, q9, List.length_map] at h
      rw [hlen]
      omega
end

/-- what the set has got from the first i items -/
structure Got (ks : List (Addr × List Key)) (i : Nat) (L : List (Addr × List Key)) : Prop where
  sub : ∀ p ∈ L, p ∈ ks.take i
  all : ∀ p ∈ ks.take i, p.2 ∈ L.map (·.2)
  len : L.length ≤ i
theorem Got.zero (ks : List (Addr × List Key)) : Got ks 0 [] := ⟨fun p h => (by cases h), fun p h => (by simp at h), Nat.le_refl _⟩
theorem Got.same {ks L : List (Addr × List Key)} {i : Nat} {x : Addr × List Key} (g : Got ks i L) (h : ks[i]? = some x) (hm : x.2 ∈ L.map (·.2)) : Got ks (i + 1) L := by
  refine ⟨fun p hp => ?_, fun p hp => ?_, Nat.le_succ_of_le g.len⟩
  · rw [take_next h]
    exact List.mem_append_left _ (g.sub p hp)
  · rw [take_next h] at hp
    rcases List.mem_append.mp hp with z | z
    · exact g.all p z
    · rw [List.mem_singleton.mp z]; exact hm
theorem Got.more {ks L L' : List (Addr × List Key)} {i : Nat} {x : Addr × List Key} (g : Got ks i L) (h : ks[i]? = some x) (pm : L'.Perm (x :: L)) : Got ks (i + 1) L' := by
  refine ⟨fun p hp => ?_, fun p hp => ?_, ?_⟩
  · rw [take_next h]
    rcases List.mem_cons.mp (pm.mem_iff.mp hp) with e | z
    · rw [e]; exact List.mem_append_right _ (List.mem_singleton.mpr rfl)
    · exact List.mem_append_left _ (g.sub p z)
  · rw [(pm.map (·.2)).mem_iff, List.map_cons]
    rw [take_next h] at hp
    rcases List.mem_append.mp hp with z | z
    · exact List.mem_cons_of_mem _ (g.all p z)
    · rw [List.mem_singleton.mp z]; exact List.mem_cons_self
  · rw [pm.length_eq, List.length_cons]
    exact Nat.succ_le_succ g.len

section
variable {P : Program} {w : World} {A : Around} {E : Value → Shared → Prop} {s : Shared}
theorem isT_keep {h h' : Heap} {k : List Key} {b : Addr} (x : IsT P w h k b) (hk : ∀ c o, h.get? c = some o → h'.get? c = some o) : IsT P w h' k b := by
  obtain ⟨o, items, n, ho, r⟩ := x
  exact ⟨o, items, n, hk b o ho, r⟩
theorem SetTR.keep {h h' : Heap} {a : Addr} {L : List (Addr × List Key)} {es : Array (Int × Value)} {ep : Nat} {t : SetTable} (R : SetTR P w h a L es ep t) (ha : ∀ o, h.get? a = some o → h'.get? a = some o) (ht : ∀ p ∈ L, IsT P w h' p.2 p.1) : SetTR P w h' a L es ep t := by
  obtain ⟨o, ho, r⟩ := R.ob
  exact ⟨⟨o, ha o ho, r⟩, R.rows, R.tab, R.nd, ht, R.led, R.room, R.few⟩
/-- a new set -/
theorem setTR_fresh {h : Heap} {a : Addr} (ho : h.get? a = some { cls := .type "set", dict := none, data := .set #[] 0 (.fresh 0 0 (!w.params.followText "set-order")) }) : SetTR P w h a [] #[] 0 (.fresh 0 0 (!w.params.followText "set-order")) where
  ob := ⟨_, ho, ⟨rfl, rfl, rfl⟩, rfl⟩
  rows := rfl
  tab := ⟨List.Pairwise.nil, rfl, rfl, .inl rfl, fun x hx => (by cases hx), fun i h j hi => (by simp at hi)⟩
  nd := List.nodup_nil
  tup := fun p hp => (by cases hp)
  led := by
    show _ ∨ (!w.params.followText "set-order") = true
    cases w.params.followText "set-order"
    · exact .inr rfl
    · exact .inl rfl
  room := by
    show 0 * 5 < 7 * 3
    decide
  few := by
    show 0 < 64
    decide

/-- set.update's loop -/
theorem set_update_tups {I : Addr} {fp wr : List Addr} {G : Array GenState → Array GenState → Prop} {n : Nat} {Pv : Nat → Value → Prop} {St : Nat → Shared → Prop} {R : Result → Shared → Prop}
    (W : WalksS P w A.in1 I fp wr G n Pv St) (S : Addr) (hSf : S ∉ fp) (ks : List (Addr × List Key)) (hn : n = ks.length) (hfew : ks.length < 64) (hval : ∀ i v, Pv i v → ∃ p, ks[i]? = some p ∧ v = .ref p.1)
    (h0 : Heap) (hk : ∀ p ∈ ks, IsT P w h0 p.2 p.1) (hS0 : h0.get? S = none) (hw0 : ∀ b ∈ wr, h0.get? b = none) (hu : A.in1.units < cLine) :
    ∀ (k i : Nat) (s : Shared), n - i = k → i ≤ n → St i s → (∀ b o, h0.get? b = some o → s.heap.get? b = some o) → (∃ L es ep t, SetTR P w s.heap S L es ep t ∧ Got ks i L) →
      (∀ s' L es ep t, Moved (S :: wr) G s s' → SetTR P w s'.heap S L es ep t → Got ks n L → (∀ b o, h0.get? b = some o → s'.heap.get? b = some o) → R (.ok (.ret .none)) s') →
      codeAny (model P w) A (.builtin "set.update.loop" ⟨[.ref S, .ref I], []⟩) R s := by
  have hSw : S ∉ wr := fun h => hSf (W.sub _ h)
  have hsub : ∀ b ∈ wr, b ∈ S :: wr := fun b hb => List.mem_cons_of_mem _ hb
  have keepM : ∀ {s s' : Shared}, Moved wr G s s' → (∀ b o, h0.get? b = some o → s.heap.get? b = some o) → ∀ b o, h0.get? b = some o → s'.heap.get? b = some o := fun hm hkp b o e =>
    hm.heap b o (fun hb => by rw [hw0 b hb] at e; cases e) (hkp b o e)
  intro k
  induction k with
  | zero =>
    intro i s hk' hi hst hkp ⟨L, es, ep, t, hS, g⟩ hR
    have hin : i = n := by omega
    subst hin
    refine codeAny_builtin F.entry_set_update_loop ?_
    rw [Around.under_plainId F.plain_set_update_loop _]
    show wpAny _ A.in1 (pyNext (.ref I) >>= _) _ _ s
    refine wpAny_bind (W.done s _ _ hst fun s' hm => ?_)
    show wpAny _ A.in1 (ret Value.none) _ _ s'
    have hkp' := keepM hm hkp
    have sub : ∀ p ∈ L, p ∈ ks := fun p hp => List.mem_of_mem_take (g.sub p hp)
    exact wpAny_pure (hR s' L es ep t (hm.mono hsub) (hS.keep (fun o e => hm.heap S o hSw e) fun p hp => isT_keep (hk p (sub p hp)) hkp') g hkp')
  | succ k ih =>
    intro i s hk' hi hst hkp ⟨L, es, ep, t, hS, g⟩ hR
    have hlt : i < n := by omega
    refine codeAny_builtin F.entry_set_update_loop ?_
    rw [Around.under_plainId F.plain_set_update_loop _]
    show wpAny _ A.in1 (pyNext (.ref I) >>= _) _ _ s
    refine wpAny_bind (W.item i s _ _ hlt hst fun v s' hP hst' hm => ?_)
    obtain ⟨p, hp, rfl⟩ := hval i v hP
    have hkp' := keepM hm hkp
    have sub : ∀ p ∈ L, p ∈ ks := fun p hp => List.mem_of_mem_take (g.sub p hp)
    have hS' : SetTR P w s'.heap S L es ep t := hS.keep (fun o e => hm.heap S o hSw e) fun q hq => isT_keep (hk q (sub q hq)) hkp'
    have hx : IsT P w s'.heap p.2 p.1 := isT_keep (hk p (List.mem_of_getElem? hp)) hkp'
    show wpAny _ A.in1 (holding [Value.ref p.1] (setAdd S (.ref p.1)) >>= _) _ _ s'
    refine wpAny_bind (wpAny_holding ?_)
    unfold setAdd
    refine wpAny_holding ?_
    refine wpAny_bind (wpAny_pyHash_tuple hu hx ?_)
    refine add_at (s := { s' with toks := s'.toks + (p.2.length + 1) }) hS' hx hu (by have := g.len; omega) fun b h' L' es' ep' t' hsb hS2 c1 c2 => ?_
    have g' : Got ks (i + 1) L' := by
      rcases Classical.em (p.2 ∈ L.map (·.2)) with c | c
      · rw [c1 c]; exact g.same hp c
      · exact g.more hp (c2 c)
    have hkp2 : ∀ b o, h0.get? b = some o → h'.get? b = some o := fun b o e => (hsb.2 b (fun z => by rw [z, hS0] at e; cases e)).trans (hkp' b o e)
    refine wpAny_pure ⟨plainId_quiet F.plain_set_update_loop _, ih (i + 1) _ (by omega) hlt (W.frame _ s' _ _ hst' (Nat.le_add_right _ _) fun b hb o e => ?_) hkp2 ⟨L', es', ep', t', hS2, g'⟩ fun s'' L2 es2 ep2 t2 hm'' hS'' g'' hkp'' => ?_⟩
    · rw [hsb.2 b (fun h : b = S => hSf (by rw [← h]; exact hb))]; exact e
    · refine hR s'' L2 es2 ep2 t2 (Moved.trans W.gtrans ((hm.mono hsub).then_heap (Nat.le_add_right _ _) fun b o hb e => ?_) hm'') hS'' g'' hkp''
      rw [hsb.2 b (fun h : b = S => hb (by rw [h]; exact List.mem_cons_self))]; exact e

set_option maxRecDepth 100000 in
set_option maxHeartbeats 3200000 in
/-- set(xs) -/
theorem call_set_tups {l : Addr} {items : Array Value} (ks : List (Addr × List Key)) {Q : Value → Shared → Prop} (hh : A.handled = none) (hl : s.heap.IsList l items) (hit : items.toList = ks.map fun p => Value.ref p.1)
    (hk : ∀ p ∈ ks, IsT P w s.heap p.2 p.1) (hfew : ks.length < 64) (hu : A.units + 3 < cLine)
    (h : ∀ (h' : Heap) (tk : Nat) L es ep t, SetTR P w h' s.heap.objs.size L es ep t → Got ks ks.length L → (∀ b o, s.heap.get? b = some o → h'.get? b = some o) → Q (.ref s.heap.objs.size) { s with heap := h', toks := tk }) :
    wpAny (model P w) A (call (.type "set") [.ref l]) Q E s := by
  have hisz : items.size = ks.length := by
    have q := congrArg List.length hit
    rw [Array.length_toList, List.length_map] at q
    exact q
  obtain ⟨c, tl, hmro⟩ := F.called_set.mro
  have hmade := F.called_set.made
  have hsub := F.called_set.sub
  refine wpAny_call (codeAny_of_tree ?_)
  show wpAny _ _ (callAny (.type "set") _) _ _ _
  refine wpAny_pure ⟨Code.quiet_builtin _ (by decide +kernel), codeAny_builtin F.entry_type_call ?_⟩
  rw [Around.under_plain (weight_type_call_type "set" [.ref l] []) rfl]
  have h1 := F.called_set.notType
  have h2 := F.called_set.canCreate
  have hct := F.typeCall_set_1 (.ref l)
  repeat (any_goals (first | assumption | wp_step))

  refine codeAny_mono (code_set_led1 (.ref l) (E := E) (Q₁ := fun obj s₁ => obj = .ref s.heap.objs.size ∧ s₁ = { s with heap := s.heap.push { cls := .type "set", dict := none, data := .set #[] 0 (.fresh 0 0 (!w.params.followText "set-order")) } }) ⟨rfl, rfl⟩) fun r s₁ hr => ?_
  cases r with
  | error e => exact hr
  | ok fl =>
    cases fl with
    | ret obj =>
      obtain ⟨rfl, rfl⟩ := hr
      have hS : (s.heap.push { cls := .type "set", dict := none, data := .set #[] 0 (.fresh 0 0 (!w.params.followText "set-order")) }).get? s.heap.objs.size = some { cls := .type "set", dict := none, data := .set #[] 0 (.fresh 0 0 (!w.params.followText "set-order")) } := Heap.get?_push_size _ rfl
      have hT : Shared.TypeIs { s with heap := s.heap.push { cls := .type "set", dict := none, data := .set #[] 0 (.fresh 0 0 (!w.params.followText "set-order")) } } (.ref s.heap.objs.size) "set" := ⟨_, hS, rfl⟩
      have hli := F.called_set.init.lookup
      have hbi := F.called_set.init.bind (.ref s.heap.objs.size)
      repeat (any_goals (first | assumption | wp_step))

      refine codeAny_mono (codeAny_call_builtin (R := wants (fun r s₂ => r = .none ∧ ∃ h' tk L es ep t, s₂ = { s with heap := h', toks := tk } ∧ SetTR P w h' s.heap.objs.size L es ep t ∧ Got ks ks.length L ∧
          (∀ b o, s.heap.get? b = some o → h'.get? b = some o)) E) F.called_set.init.plain F.entry_set_init (check_set_init_1 hT ?_)) fun r₂ s₂ hr₂ => ?_
      · obtain ⟨ol, hol, hcl, nl, hdl⟩ := hl
        obtain ⟨ocls, odict, odata, oslots⟩ := ol
        simp only at hcl hdl
        subst hcl; subst hdl
        have hol' : (s.heap.push { cls := .type "set", dict := none, data := .set #[] 0 (.fresh 0 0 (!w.params.followText "set-order")) }).get? l = some { cls := .type "list", dict := odict, data := .seq items nl, slots := oslots } := Heap.get?_push_of_some _ hol
        have hsls := F.sub_list_set
        have hslf := F.sub_list_frozenset
        have hne : (Value.type "list" == Value.type "dict") = false := by decide
        have hl1 : (s.heap.push { cls := .type "set", dict := none, data := .set #[] 0 (.fresh 0 0 (!w.params.followText "set-order")) }).IsList l items := ⟨_, hol', rfl, nl, rfl⟩
        unfold Builtin.«set.__init__» noKeywords Builtin.Frozenset.updateFrom
        generalize hPI : pyIter = PI
        wp_walk
        subst hPI

        refine wpAny_pyIter_list hl1 ?_
        refine wpAny_bind (wpAny_runValue ?_)
        have hlS : l < s.heap.objs.size := Heap.lt_size hol
        have hh3 : A.in1.in1.in1.handled = none := by simp [hh]
        have hz1 : (s.heap.push { cls := .type "set", dict := none, data := .set #[] 0 (.fresh 0 0 (!w.params.followText "set-order")) }).objs.size = s.heap.objs.size + 1 := Heap.size_push ..
        have hneI : l ≠ (s.heap.push { cls := .type "set", dict := none, data := .set #[] 0 (.fresh 0 0 (!w.params.followText "set-order")) }).objs.size := by
          rw [Heap.size_push]; exact Nat.ne_of_lt (Nat.lt_succ_of_lt hlS)
        have hSf : s.heap.objs.size ∉ [(s.heap.push { cls := .type "set", dict := none, data := .set #[] 0 (.fresh 0 0 (!w.params.followText "set-order")) }).objs.size, l] := by
          rw [Heap.size_push]; simp only [List.mem_cons, List.mem_singleton, List.not_mem_nil, or_false, not_or]
          exact ⟨Nat.ne_of_lt (Nat.lt_succ_self _), Nat.ne_of_gt hlS⟩
        have hval : ∀ (i : Nat) (v : Value), items[i]? = some v → ∃ p, ks[i]? = some p ∧ v = .ref p.1 := fun i v hv => by
          have q : items.toList[i]? = some v := by rw [Array.getElem?_toList]; exact hv
          rw [hit, List.getElem?_map] at q
          cases hq : ks[i]? with
          | none => rw [hq] at q; cases q
          | some p =>
            rw [hq] at q
            exact ⟨p, rfl, (Option.some.inj q).symm⟩
        have none_of : ∀ b, s.heap.objs.size ≤ b → s.heap.get? b = none := fun b hb => by
          cases q : s.heap.get? b with
          | none => rfl
          | some o => exact absurd (Nat.lt_of_lt_of_le (Heap.lt_size q) hb) (Nat.lt_irrefl _)
        refine set_update_tups ((Walks.list hh3 _ l hneI items).toS) s.heap.objs.size
          hSf ks hisz hfew hval s.heap hk (none_of _ (Nat.le_refl _)) (fun b hb => none_of b (by
            rw [List.mem_singleton.mp hb, Heap.size_push]
            exact Nat.le_succ _)) hu (items.size - 0) 0 _ (by omega) (Nat.zero_le _)
          ⟨⟨_, Heap.get?_push_size _ rfl, rfl, rfl⟩, (hl1.push _)⟩ (fun b o e => Heap.get?_push_of_some _ (Heap.get?_push_of_some _ e)) ?hS0 ?hR
        case hS0 =>
          have hget : ((s.heap.push { cls := .type "set", dict := none, data := .set #[] 0 (.fresh 0 0 (!w.params.followText "set-order")) }).push { cls := .type "list_iterator", data := .fields #[.ref l, .int 0 0] }).get? s.heap.objs.size
              = some { cls := .type "set", dict := none, data := .set #[] 0 (.fresh 0 0 (!w.params.followText "set-order")) } := Heap.get?_push_of_some _ hS
          exact ⟨[], #[], 0, _, setTR_fresh hget, Got.zero ks⟩
        case hR =>
          intro s' L es ep t hm hS' g' hkp
          obtain ⟨h', g2, d', tk', os'⟩ := s'
          have eg : g2 = s.gens := hm.gens
          have ed : d' = s.drawn := hm.drawn
          have eo : os' = s.os := hm.os
          subst eg; subst ed; subst eo
          show wpAny _ _ _ _ _ _
          refine wpAny_pure ?_
          show wpAny _ _ (ret Value.none) _ _ _
          rw [hisz] at g'
          exact wpAny_pure ⟨rfl, h', tk', L, es, ep, t, rfl, hS', g', hkp⟩

      · cases r₂ with
        | error e => exact hr₂
        | ok fl₂ =>
          cases fl₂ with
          | ret r =>
            obtain ⟨rfl, h', tk, L, es, ep, t, rfl, hS', g', hk'⟩ := hr₂
            repeat (any_goals (first | assumption | wp_step))
            exact h _ _ _ _ _ _ hS' g' hk'
          | _ => exact hr₂.elim
    | _ => exact hr.elim

end
end Ku
/-! len(set(t)), t a tuple of texts that all differ. Written by turn_strs.py. -/
namespace Ku
open PySem PySem.Spec PyProof.Rows SS
section
variable {prog : Program} {w : World} {A : Around} {R : Result → Shared → Prop} {I : Addr} {fp wr : List Addr} {G : Array GenState → Array GenState → Prop} {n : Nat} {P : Nat → Value → Prop} {St : Nat → Shared → Prop}
theorem loopStr (W : WalksS prog w A.in1 I fp wr G n P St) (S : Addr) (hSf : S ∉ fp) (xs : List Str) (hsz : xs.length = n) (hnd : xs.Nodup) (hn1 : n < 4096)
    (hval : ∀ i v, P i v → ∃ t, v = .str (xs.getD i Str.empty) t) :
    ∀ (k i : Nat) (s : Shared), n - i = k → i ≤ n → St i s →
      s.heap.SetOf (PySem.strKind prog w) S (fun k' => (xs.take i).any (· == k')) i →
      (∀ s', Moved (S :: wr) G s s' → s'.heap.SetOf (PySem.strKind prog w) S (fun k' => (xs.take n).any (· == k')) n → R (.ok (.ret .none)) s') →
      codeAny (model prog w) A (.builtin "set.update.loop" ⟨[.ref S, .ref I], []⟩) R s := by
  have hSw : S ∉ wr := fun h => hSf (W.sub _ h)
  have hsub : ∀ b ∈ wr, b ∈ S :: wr := fun b hb => List.mem_cons_of_mem _ hb
  intro k
  induction k with
  | zero =>
    intro i s hk hi hst hS hR
    have hin : i = n := by omega
    subst hin
    refine codeAny_builtin PyProof.Rows.F.entry_set_update_loop ?_
    rw [Around.under_plainId PyProof.Rows.F.plain_set_update_loop _]
    show wpAny _ A.in1 (pyNext (.ref I) >>= _) _ _ s
    refine wpAny_bind (W.done s _ _ hst fun s' hm => ?_)
    show wpAny _ A.in1 (ret Value.none) _ _ s'
    exact wpAny_pure (hR s' (hm.mono hsub) (by
      obtain ⟨o, es, ep, t, ho, rest⟩ := hS
      exact ⟨o, es, ep, t, hm.heap S _ hSw ho, rest⟩))
  | succ k ih =>
    intro i s hk hi hst hS hR
    have hlt : i < n := by omega
    refine codeAny_builtin PyProof.Rows.F.entry_set_update_loop ?_
    rw [Around.under_plainId PyProof.Rows.F.plain_set_update_loop _]
    show wpAny _ A.in1 (pyNext (.ref I) >>= _) _ _ s
    refine wpAny_bind (W.item i s _ _ hlt hst fun v s' hP hst' hm => ?_)
    obtain ⟨t, rfl⟩ := hval i v hP
    have hS' : s'.heap.SetOf (PySem.strKind prog w) S (fun k' => (xs.take i).any (· == k')) i := by
      obtain ⟨o, es, ep, tb, ho, rest⟩ := hS
      exact ⟨o, es, ep, tb, hm.heap S _ hSw ho, rest⟩
    show wpAny _ A.in1 (holding [Value.str (xs.getD i Str.empty) t] (setAdd S (.str (xs.getD i Str.empty) t)) >>= _) _ _ s'
    refine wpAny_bind (wpAny_holding ?_)
    unfold setAdd
    refine wpAny_holding ?_
    refine wpAny_bind ((PySem.strKind prog w).pyHash (k := xs.getD i Str.empty) (strKind_is _ _ _ _) ?_)
    refine wpAny_setAddHashed_of (knd := PySem.strKind prog w) (s := { s' with toks := s'.toks + 1 }) (strKind_is _ _ _ _) rfl hS' (by unfold scanBound; omega) fun h' hsb hS2 => ?_
    have hSi : h'.SetOf (PySem.strKind prog w) S (fun k' => (xs.take (i + 1)).any (· == k')) (i + 1) := by
      have hx : xs[i]? = some (xs.getD i Str.empty) := by
        rw [List.getD_eq_getElem?_getD, List.getElem?_eq_getElem (by omega)]
        rfl
      have hnot : (xs.take i).any (· == xs.getD i Str.empty) = false := by
        rw [List.any_eq_false]
        intro y hy e
        have e2 : y = xs.getD i Str.empty := by simpa using e
        obtain ⟨j, hj, ej⟩ := List.mem_iff_getElem.mp hy
        rw [List.length_take] at hj
        rw [List.getElem_take, e2] at ej
        have h1 : xs[j]? = some (xs.getD i Str.empty) := by rw [List.getElem?_eq_getElem (by omega), ej]
        have hji : j = i := (List.getElem?_inj (show j < xs.length by omega) hnd).mp (h1.trans hx.symm)
        omega
      refine SetOf_congr hS2 (fun k' => ?_) (by rw [hnot]; rfl)
      rw [List.take_succ, hx, List.any_append]
      by_cases e : k' = xs.getD i Str.empty
      · subst e; simp
      · have hb : (xs.getD i Str.empty == k') = false := by simpa [beq_iff_eq] using (fun h' : xs.getD i Str.empty = k' => e h'.symm)
        simp only [Option.toList_some, List.any_cons, List.any_nil, hb, Bool.or_false, decide_eq_false e]
    refine wpAny_pure ⟨plainId_quiet PyProof.Rows.F.plain_set_update_loop _, ih (i + 1) _ (by omega) hlt (W.frame _ s' _ _ hst' (Nat.le_succ _) fun b hb o e => ?_) hSi fun s'' hm'' hS'' => ?_⟩
    · rw [hsb.2 b (fun h : b = S => hSf (by rw [← h]; exact hb))]; exact e
    · refine hR s'' (Moved.trans W.gtrans ((hm.mono hsub).then_heap (Nat.le_succ _) fun b o hb e => ?_) hm'') hS''
      rw [hsb.2 b (fun h : b = S => hb (by rw [h]; exact List.mem_cons_self))]; exact e
end

section
variable {prog : Program} {w : World} {A : Around} {E : Value → Shared → Prop} {s : Shared}
set_option maxHeartbeats 3200000 in
theorem call_set_tupleS {l : Addr} {items : Array Value} {xs : List Str} {Q : Value → Shared → Prop}
    (hh : A.handled = none) (hl : s.heap.IsTuple l items) (hi : PyProof.Rows.StrsAre items.toList xs) (hnd : xs.Nodup) (hn1 : xs.length < 4096)
    (h : ∀ (h' : Heap) (tk : Nat), h'.SetOf (PySem.strKind prog w) s.heap.objs.size (fun k' => (xs.take items.size).any (· == k')) items.size →
      (∀ b o, b < s.heap.objs.size → s.heap.get? b = some o → h'.get? b = some o) → Q (.ref s.heap.objs.size) { s with heap := h', toks := tk }) :
    wpAny (model prog w) A (call (.type "set") [.ref l]) Q E s := by
  obtain ⟨c, tl, hmro⟩ := PySem.F.called_set.mro
  have hmade := PySem.F.called_set.made
  have hsub := PySem.F.called_set.sub
  refine wpAny_call (codeAny_of_tree ?_)
  show wpAny _ _ (callAny (.type "set") _) _ _ _
  refine wpAny_pure ⟨Code.quiet_builtin _ (by decide +kernel), codeAny_builtin PySem.F.entry_type_call ?_⟩
  rw [Around.under_plain (weight_type_call_type "set" [.ref l] []) rfl]
  have h1 := PySem.F.called_set.notType
  have h2 := PySem.F.called_set.canCreate
  have hct := PySem.F.typeCall_set_1 (.ref l)
  repeat (any_goals (first | assumption | wp_step))

  refine codeAny_mono (code_set_new_1 (.ref l) (E := E) (Q₁ := fun obj s₁ => ∃ led : Bool, obj = .ref s.heap.objs.size ∧ s₁ = { s with heap := s.heap.push { cls := .type "set", dict := none, data := .set #[] 0 (.fresh 0 0 led) } }) fun led => ⟨led, rfl, rfl⟩) fun r s₁ hr => ?_
  cases r with
  | error e => exact hr
  | ok fl =>
    cases fl with
    | ret obj =>
      obtain ⟨led, rfl, rfl⟩ := hr
      have hS : (s.heap.push { cls := .type "set", dict := none, data := .set #[] 0 (.fresh 0 0 led) }).get? s.heap.objs.size = some { cls := .type "set", dict := none, data := .set #[] 0 (.fresh 0 0 led) } := Heap.get?_push_size _ rfl
      have hT : Shared.TypeIs { s with heap := s.heap.push { cls := .type "set", dict := none, data := .set #[] 0 (.fresh 0 0 led) } } (.ref s.heap.objs.size) "set" := ⟨_, hS, rfl⟩
      have hli := PySem.F.called_set.init.lookup
      have hbi := PySem.F.called_set.init.bind (.ref s.heap.objs.size)
      repeat (any_goals (first | assumption | wp_step))

      refine codeAny_mono (codeAny_call_builtin (R := wants (fun r s₂ => r = .none ∧ ∃ h' tk, s₂ = { s with heap := h', toks := tk } ∧
          h'.SetOf (PySem.strKind prog w) s.heap.objs.size (fun k' => (xs.take items.size).any (· == k')) items.size ∧
          (∀ b o, b < s.heap.objs.size → s.heap.get? b = some o → h'.get? b = some o)) E) PySem.F.called_set.init.plain PySem.F.entry_set_init (check_set_init_1 hT ?_)) fun r₂ s₂ hr₂ => ?_
      · obtain ⟨ol, hol, hcl, nl, hdl⟩ := hl
        obtain ⟨ocls, odict, odata, oslots⟩ := ol
        simp only at hcl hdl
        subst hcl; subst hdl
        have hol' : (s.heap.push { cls := .type "set", dict := none, data := .set #[] 0 (.fresh 0 0 led) }).get? l = some { cls := .type "tuple", dict := odict, data := .seq items nl, slots := oslots } := Heap.get?_push_of_some _ hol
        have hsls := PySem.F.sub_tuple_set
        have hslf := PySem.F.sub_tuple_frozenset
        have hne : (Value.type "tuple" == Value.type "dict") = false := by decide
        have hl1 : (s.heap.push { cls := .type "set", dict := none, data := .set #[] 0 (.fresh 0 0 led) }).IsTuple l items := ⟨_, hol', rfl, nl, rfl⟩
        unfold Builtin.«set.__init__» noKeywords Builtin.Frozenset.updateFrom
        generalize hPI : pyIter = PI
        wp_walk
        subst hPI

        refine wpAny_pyIter_tuple hl1 ?_
        refine wpAny_bind (wpAny_runValue ?_)
        have hlS : l < s.heap.objs.size := Heap.lt_size hol
        have hh3 : A.in1.in1.in1.handled = none := by simp [hh]
        have hneI : l ≠ (s.heap.push { cls := .type "set", dict := none, data := .set #[] 0 (.fresh 0 0 led) }).objs.size := by
          rw [Heap.size_push]; exact Nat.ne_of_lt (Nat.lt_succ_of_lt hlS)
        have hSf : s.heap.objs.size ∉ [(s.heap.push { cls := .type "set", dict := none, data := .set #[] 0 (.fresh 0 0 led) }).objs.size, l] := by
          rw [Heap.size_push]; simp only [List.mem_cons, List.mem_singleton, List.not_mem_nil, or_false, not_or]
          exact ⟨Nat.ne_of_lt (Nat.lt_succ_self _), Nat.ne_of_gt hlS⟩
        have hsz : xs.length = items.size := by rw [← StrsAre.len_eq hi, Array.length_toList]
        have hval : ∀ (i : Nat) (v : Value), items[i]? = some v → ∃ t, v = .str (xs.getD i Str.empty) t := fun i v hv => strs_at hi i v (by rw [Array.getElem?_toList]; exact hv)
        refine loopStr ((Walks.tuple hh3 _ l hneI items).toS) s.heap.objs.size
          hSf xs hsz hnd (by rw [← hsz]; exact hn1) hval (items.size - 0) 0 _ (by omega) (Nat.zero_le _)
          ⟨⟨_, Heap.get?_push_size _ rfl, rfl, rfl⟩, (hl1.push _)⟩ ?hS0 ?hR
        case hS0 =>
          have hget : ((s.heap.push { cls := .type "set", dict := none, data := .set #[] 0 (.fresh 0 0 led) }).push { cls := .type "tuple_iterator", data := .fields #[.ref l, .int 0 0] }).get? s.heap.objs.size
              = some { cls := .type "set", dict := none, data := .set #[] 0 (.fresh 0 0 led) } := Heap.get?_push_of_some _ hS
          exact PyProof.Rows.SetOf_congr ((PyProof.Rows.setObjOf_fresh (knd := PySem.strKind prog w) led).setOf hget (by unfold scanBound; omega)) (fun _ => rfl) rfl
        case hR =>
          intro s' hm hS'
          obtain ⟨h', g', d', tk', os'⟩ := s'
          have eg : g' = s.gens := hm.gens
          have ed : d' = s.drawn := hm.drawn
          have eo : os' = s.os := hm.os
          subst eg; subst ed; subst eo
          show wpAny _ _ _ _ _ _
          refine wpAny_pure ?_
          show wpAny _ _ (ret Value.none) _ _ _
          refine wpAny_pure ⟨rfl, h', tk', rfl, hS', fun b o hb e => ?_⟩
          have hb1 : b ≠ s.heap.objs.size := Nat.ne_of_lt hb
          have hb2 : b ≠ (s.heap.push { cls := .type "set", dict := none, data := .set #[] 0 (.fresh 0 0 led) }).objs.size := by
            rw [Heap.size_push]; exact Nat.ne_of_lt (Nat.lt_succ_of_lt hb)
          exact hm.heap b o (by simp only [List.mem_cons, List.mem_singleton, List.not_mem_nil, or_false, not_or]; exact ⟨hb1, hb2⟩) (Heap.get?_push_of_some _ (Heap.get?_push_of_some _ e))

      · cases r₂ with
        | error e => exact hr₂
        | ok fl₂ =>
          cases fl₂ with
          | ret r =>
            obtain ⟨rfl, h', tk, rfl, hS', hk'⟩ := hr₂
            repeat (any_goals (first | assumption | wp_step))
            exact h _ _ hS' hk'
          | _ => exact hr₂.elim
    | _ => exact hr.elim

end

section
open L2
variable {X : Cx}
def tLenSetS (K : PySem.W.Frag) (ta : TE) : TE := fun σ H Q => ta σ H fun x H1 => ∃ l, ∃ xs : List Str, x = .ref l ∧ SqT K H1 l (xs.map V.str) ∧ xs.Nodup ∧ xs.length ≤ 1000 ∧ Q (.int (xs.length : Nat)) H1
theorem pe_lenSetS {a : Expr} {ta : TE} {p p2 q pos : Pos} (hc : X.calm = true) (hg : Gl X "len") (hm : X.mg "len" = none) (hg2 : Gl X "set") (hm2 : X.mg "set" = none) (ha : PE X a ta)
    (na : starEach [a] X.env = (false, eval a X.env) :: starEach [] X.env := by rfl) : PE X (.Call (.Name "len" p) [.Call (.Name "set" p2) [a] [] q] [] pos) (tLenSetS X.K ta) := by
  refine ⟨fun pins s σ H Q I h => ?_⟩
  refine Call_ (ld_blt I hg hm boot_len ?_)
  refine PyProof.Rows.callWith_builtin1 (PyProof.Rows.args_cons ?_ rfl) rfl rfl
  refine Call_ (ld_blt I hg2 hm2 boot_set ?_)
  refine PyProof.Rows.callWith_type1 (PyProof.Rows.args_cons (thn (ha.run pins s σ H _ I h) fun v s1 ⟨x, H1, I1, r1, q1⟩ => PyProof.Rows.args_nil ?_) na) na rfl
  obtain ⟨l, xs, rfl, hq, hnd, h1, q1⟩ := q1
  cases r1
  obtain ⟨its, r, pl, hz⟩ := I1.tuple hq
  refine call_set_tupleS (I1.ok.hd hc) pl (by simpa using strsAre_of r) hnd (by omega) fun h' tk hS hk => ?_
  refine PyProof.Rows.args_nil ?_
  have hl : its.toArray.size = xs.length := by rw [List.size_toArray, ← r.length, List.length_map]
  rw [hl] at hS
  obtain ⟨o, es, ep, t, ho, hex, hd, _, _, _, hf, hn⟩ := hS
  have I2 : Inv X pins σ H1 { s1 with heap := h', toks := tk } := I1.kept fun b o e => hk b o (Heap.lt_size e) e
  refine call_len_set ho hex hd hf (by rw [hn] <;> omega) ⟨.int (xs.length : Nat), H1, I2.tok _, ⟨_, by rw [hn]⟩, q1⟩
end
end Ku
/-! What the program's orders and dicts are in plain Lean. -/
namespace Ku
open PySem L2
def sLt (x y : Str) : Bool := decide (x.cps.toList < y.cps.toList)
theorem str_ext {x y : Str} (h : x.cps.toList = y.cps.toList) : x = y := PySem.W.str_of_cps h
theorem slo_str : Kl.SLO sLt where
  irr := fun a => decide_eq_false (List.lt_irrefl _)
  trans := fun a b c x y => decide_eq_true (List.lt_trans (of_decide_eq_true x) (of_decide_eq_true y))
  tri := fun a b => by
    by_cases h1 : a.cps.toList < b.cps.toList
    · exact .inl (decide_eq_true h1)
    · by_cases h2 : b.cps.toList < a.cps.toList
      · exact .inr (.inr (decide_eq_true h2))
      · exact .inr (.inl (str_ext (List.le_antisymm (List.not_lt.mp h2) (List.not_lt.mp h1))))
abbrev lstC (cs : List Way) : List Way := Kl.least sLt cs
abbrev TabC (cs : List Way) : Prop := Kl.Tab sLt cs
/-- the items of a row -/
def rowK (w : Way) : List Key := [.inr w.1, .inr w.2.1, .inl w.2.2]
def prK (p : Str × Str) : List Key := [.inr p.1, .inr p.2]
theorem rowK_v (w : Way) : (rowK w).map kV = wayV w := rfl
theorem eqv_str (x y : Str) : PyData.eqv (.str x) (.str y) = decide (x = y) := by
  simp only [PyData.eqv]
  by_cases h : x = y <;> simp [h]
theorem dataLt_row (a b : Way) : PySem.W.dataLt (rowD (rowK a)) (rowD (rowK b)) = Kl.lt3 sLt a b := by
  show PySem.W.dataLt (.tuple [.str a.1, .str a.2.1, .int a.2.2]) (.tuple [.str b.1, .str b.2.1, .int b.2.2]) = _
  have e0 : PyProof.Rows.lexLt PyProof.Rows.itemOrd (PySem.W.keyToksAll []) (PySem.W.keyToksAll []) = false := PyProof.Rows.lex_irrefl _
  rw [PySem.W.dataLt_tuple, PySem.W.dataLt_cons (by simp [PySem.W.alike]), PySem.W.dataLt_cons (by simp [PySem.W.alike]), PySem.W.dataLt_cons (by simp [PySem.W.alike]), e0, PySem.W.dataLt_str, PySem.W.dataLt_str, PySem.W.dataLt_int, eqv_str, eqv_str]
  unfold Kl.lt3 Kl.lexB sLt
  simp only [PyData.eqv, beq_iff_eq, decide_eq_true_eq]
  by_cases h1 : a.1 = b.1
  · rw [if_pos h1, if_pos h1]
    by_cases h2 : a.2.1 = b.2.1
    · rw [if_pos h2, if_pos h2]
      by_cases h3 : a.2.2 = b.2.2
      · rw [if_pos h3]
        simp [h3]
      · rw [if_neg h3]
    · rw [if_neg h2, if_neg h2]
  · rw [if_neg h1, if_neg h1]
theorem dataLt_pr (a b : Str × Str) : PySem.W.dataLt (rowD (prK a)) (rowD (prK b)) = Kl.lt2 sLt a b := by
  show PySem.W.dataLt (.tuple [.str a.1, .str a.2]) (.tuple [.str b.1, .str b.2]) = _
  rw [PySem.W.dataLt_pair (by simp [PySem.W.alike]) (by simp [PySem.W.alike]), PySem.W.dataLt_str, PySem.W.dataLt_str, eqv_str, eqv_str]
  unfold Kl.lt2 Kl.lexB sLt
  simp only [decide_eq_true_eq]
  by_cases h1 : a.1 = b.1
  · rw [if_pos h1, if_pos h1]
    by_cases h2 : a.2 = b.2
    · rw [if_pos h2]
      simp [h2]
    · rw [if_neg h2]
  · rw [if_neg h1, if_neg h1]
theorem sort_rows (cs : List Way) : (cs.map rowK).mergeSort (PySem.W.dataLe false rowD) = (cs.mergeSort fun a b => !Kl.lt3 sLt b a).map rowK :=
  (PySem.W.sort_maps rowK fun a _ b _ => by rw [PySem.W.dataLe_eq]; show _ = (!PySem.W.dataLt (rowD (rowK b)) (rowD (rowK a))); rw [dataLt_row]).symm
theorem sort_rowsRev (cs : List Way) : (cs.map rowK).mergeSort (PySem.W.dataLe true rowD) = (cs.mergeSort fun a b => !Kl.lt3 sLt a b).map rowK :=
  (PySem.W.sort_maps rowK fun a _ b _ => by rw [PySem.W.dataLe_eq]; show _ = (!PySem.W.dataLt (rowD (rowK a)) (rowD (rowK b))); rw [dataLt_row]).symm
theorem sort_prs (cs : List (Str × Str)) : (cs.map prK).mergeSort (PySem.W.dataLe false rowD) = (cs.mergeSort fun a b => !Kl.lt2 sLt b a).map prK :=
  (PySem.W.sort_maps prK fun a _ b _ => by rw [PySem.W.dataLe_eq]; show _ = (!PySem.W.dataLt (rowD (prK b)) (rowD (prK a))); rw [dataLt_pr]).symm
theorem shaped_rows (cs : List Way) : Shaped (cs.map rowK) := by
  intro r hr
  obtain ⟨a, _, rfl⟩ := List.mem_map.mp hr
  refine ⟨fun e => by simp [rowK] at e, fun r' hr' => ?_⟩
  obtain ⟨b, _, rfl⟩ := List.mem_map.mp hr'
  show PySem.W.alike (.tuple [.str a.1, .str a.2.1, .int a.2.2]) (.tuple [.str b.1, .str b.2.1, .int b.2.2]) = true
  simp [PySem.W.alike, PySem.W.alikeAll]
theorem shaped_prs (cs : List (Str × Str)) : Shaped (cs.map prK) := by
  intro r hr
  obtain ⟨a, _, rfl⟩ := List.mem_map.mp hr
  refine ⟨fun e => by simp [prK] at e, fun r' hr' => ?_⟩
  obtain ⟨b, _, rfl⟩ := List.mem_map.mp hr'
  show PySem.W.alike (.tuple [.str a.1, .str a.2]) (.tuple [.str b.1, .str b.2]) = true
  simp [PySem.W.alike, PySem.W.alikeAll]
theorem rows_k {H : Hp} : ∀ {ps : List Addr} {cs : List Way}, RowsAt H ps cs → KRows H ps (cs.map rowK)
  | _, _, .nil => .nil
  | _, _, .cons h t => .cons h (rows_k t)
theorem k_rows {H : Hp} : ∀ {ps : List Addr} {cs : List Way}, KRows H ps (cs.map rowK) → RowsAt H ps cs
  | [], [], _ => .nil
  | [], _ :: _, h => by rw [List.map_cons] at h; cases h
  | _ :: _, [], h => by rw [List.map_nil] at h; cases h
  | p :: ps, c :: cs, h => by
    rw [List.map_cons] at h
    cases h with
    | cons a t => exact .cons a (k_rows t)
theorem least_length (cs : List Way) : (lstC cs).length ≤ cs.length := by
  unfold lstC Kl.least
  rw [(List.mergeSort_perm _ _).length_eq, List.length_map]
  have h : ∀ (l : List Way) (f : List ((Str × Str) × Int)), (l.foldl (fun f w => Kl.put f (Kl.pr w) w.2.2) f).length ≤ f.length + l.length := by
    intro l
    induction l with
    | nil => intro f; exact Nat.le_refl _
    | cons w l ih =>
      intro f
      rw [List.foldl_cons, List.length_cons]
      have e : (Kl.put f (Kl.pr w) w.2.2).length ≤ f.length + 1 := by
        unfold Kl.put
        split
        · rw [List.length_map]; omega
        · rw [List.length_append, List.length_singleton]; exact Nat.le_refl _
      have := ih (Kl.put f (Kl.pr w) w.2.2)
      omega
  have := h (cs.mergeSort fun a b => !Kl.lt3 sLt a b) []
  rw [(List.mergeSort_perm _ _).length_eq] at this
  simpa [Kl.knownOf] using this

/-! ### the dict of least costs, its keys pairs -/
def knownV (f : List ((Str × Str) × Int)) : List (List Key × V) := f.map fun e => (prK e.1, V.int e.2)
theorem prK_inj {p q : Str × Str} (h : prK p = prK q) : p = q := by
  obtain ⟨a, b⟩ := p
  obtain ⟨c, d⟩ := q
  simp only [prK, List.cons.injEq, Sum.inr.injEq, and_true] at h
  exact Prod.ext h.1 h.2
theorem knownV_put (f : List ((Str × Str) × Int)) (k : Str × Str) (c : Int) : putK (knownV f) (prK k) (.int c) = knownV (Kl.put f k c) := by
  have e1 : ((knownV f).any fun kv => decide (kv.1 = prK k)) = (f.any fun kv => decide (kv.1 = k)) := by
    unfold knownV
    rw [List.any_map]
    congr 1
    funext kv
    show decide (prK kv.1 = prK k) = decide (kv.1 = k)
    exact decide_eq_decide.mpr ⟨prK_inj, fun e => by rw [e]⟩
  unfold putK Kl.put
  rw [e1]
  split
  · unfold knownV
    rw [List.map_map, List.map_map]
    refine List.map_congr_left fun kv _ => ?_
    show (if prK kv.1 = prK k then (prK kv.1, V.int c) else (prK kv.1, V.int kv.2)) = _
    by_cases h : kv.1 = k
    · simp [h]
    · have h' : prK kv.1 ≠ prK k := fun e => h (prK_inj e)
      simp [h, h']
  · unfold knownV
    rw [List.map_append]
    rfl
end Ku
/-! least_costs. -/
namespace Ku
open PySem L2
theorem Same.put {H H' : Hp} (s : Same H H') {a : Addr} {o : HO} (n : H a = Option.none) : Same H (L2.upd H' a o) := fun b u e => by
  rw [upd_ne (ne_of_none e n)]
  exact s _ _ e
theorem Same.nope {H H' : Hp} (s : Same H H') {a : Addr} (n : H' a = Option.none) : H a = Option.none := by
  cases e : H a with
  | none => rfl
  | some u => have := s _ _ e; rw [n] at this; cases this
/-- tuples stay -/
def SameT (H H' : Hp) : Prop := ∀ b xs, H b = some (.tup xs) → H' b = some (.tup xs)
theorem SameT.of {H H' : Hp} (s : Same H H') : SameT H H' := fun b xs e => s _ _ e
theorem SameT.trans {H H' H'' : Hp} (s : SameT H H') (s' : SameT H' H'') : SameT H H'' := fun b xs e => s' _ _ (s _ _ e)
theorem SameT.upd {H : Hp} {a : Addr} {o : HO} (n : ∀ xs, H a ≠ some (.tup xs)) : SameT H (L2.upd H a o) := fun b xs e => by
  rw [upd_ne (fun z => n xs (by rw [← z]; exact e))]
  exact e
theorem RowsAt.sameT {H H' : Hp} (s : SameT H H') {ps : List Addr} {ws : List Way} (h : RowsAt H ps ws) : RowsAt H' ps ws := Paired.mapP h fun _ _ r => s _ _ r
theorem walk_itemsT {d : Addr} {o : Obj} {kvs : List (List Key × V)} : Walk (Itti d o kvs) kvs.length (fun H => H d = some (.frz o (.dT kvs)))
    (fun i H x H' => ∃ T q k v, kvs[i]? = some (k, v) ∧ x = .ref T ∧ H q = some (.tup (k.map kV)) ∧ H T = none ∧ H' = upd H T (.tup [.ref q, v])) :=
  ⟨fun _ _ hi q => ⟨q, hi⟩, fun _ q => ⟨q, Nat.le_refl _⟩, fun _ _ _ _ _ _ y => y⟩
theorem paired_snoc {α β : Type} {F : α → β → Prop} {a : α} {b : β} : ∀ {l : List α} {m : List β}, Paired F l m → F a b → Paired F (l ++ [a]) (m ++ [b])
  | _, _, .nil, f => .cons f .nil
  | _, _, .cons r t, f => .cons r (paired_snoc t f)
theorem boot_sorted : bootBuiltins "sorted" = some (.builtin "sorted") := by decide +kernel
def kn (l : List Way) : List ((Str × Str) × Int) := Kl.knownOf l
theorem kn_succ {l : List Way} {i : Nat} {w : Way} (h : l[i]? = some w) : kn (l.take (i + 1)) = Kl.put (kn (l.take i)) (Kl.pr w) w.2.2 := by
  unfold kn Kl.knownOf
  rw [List.take_succ, h, List.foldl_append]
  rfl
theorem kn_len (l : List Way) : (kn l).length ≤ l.length := by
  have h : ∀ (l : List Way) (f : List ((Str × Str) × Int)), (l.foldl (fun f w => Kl.put f (Kl.pr w) w.2.2) f).length ≤ f.length + l.length := by
    intro l
    induction l with
    | nil => intro f; exact Nat.le_refl _
    | cons w l ih =>
      intro f
      rw [List.foldl_cons, List.length_cons]
      have e : (Kl.put f (Kl.pr w) w.2.2).length ≤ f.length + 1 := by
        unfold Kl.put
        split
        · rw [List.length_map]; omega
        · rw [List.length_append, List.length_singleton]; exact Nat.le_refl _
      have := ih (Kl.put f (Kl.pr w) w.2.2)
      omega
  simpa [kn, Kl.knownOf] using h l []
section
variable {P : Program} {w : World} {K : PySem.W.Frag} {mg : Str → Option Value} {base : Heap}
def spLeast : Sp := fun vs H Q _ => ∃ (t : Addr) (cs : List Way), vs = [.ref t] ∧ TabAt H t cs ∧ (∀ c ∈ cs, WayOk c) ∧ ∀ H' t', Same H H' → TabAt H' t' (lstC cs) → Q (.ref t') H'
abbrev NL : List Str := ["thing", "known", "one", "other", "cost", "pair"]
theorem scLeast : FnScope NL ["thing"] (defScope sLeast) := ⟨rfl, rfl, rfl, by decide +kernel, rfl, by decide +kernel, by decide +kernel⟩
theorem ok_least {f : Addr} {fd : FuncData} (F : Fun K "least_costs" "least_costs" sLeast f fd) (G : Glb mg) (D1 : Def P w K mg base "are_costs" 5 ["thing"] spAreCosts) : FnOk P w K mg base CX0 6 f fd ["thing"] spLeast := by
  refine F.ok scLeast (fun vs H Q E h => ?_) (fun cdv A outer s H vs Q E hr h => ?_)
  · obtain ⟨t, cs, rfl, _⟩ := h
    rfl
  · obtain ⟨t, cs, rfl, ⟨ps, hl, ht, hr2⟩, hc, k⟩ := h
    have hu := hr.units
    refine ⟨_, pss_cons (ps_if (pt_not (pt_val (pe_def D1 hr (pa_cons (pv 0) pa_nil)))) (pss_one (ps_ret (pv 0))) pss_nil)
      (pss_cons (ps_setDcT (i := 1) (own := [("one", 2), ("other", 3), ("cost", 4)]) (g := gTup K 3 (gCons (gName 2) (gCons (gName 3) (gCons (gName 4) gNil)))) (tt := tYes) rfl scLeast.nd rfl rfl (swD_true rfl rfl rfl (by decide +kernel))
          (pi_list (pe_callBK (cr_sortRowsRev (b := true)) (by rfl) G.sorted boot_sorted (pa_cons (pv 0) pa_nil) (pk_cons pe_bl pk_nil))) (blkOk_by (own := [("one", 2), ("other", 3), ("cost", 4)]) (N := NL) (sc := defScope sLeast) (by decide +kernel))
          (fun _ _ _ _ _ => pg_tup (n := 3) rfl (pgs_cons (pg_name (i := 2) scLeast.nd rfl (Or.inl rfl)) (pgs_cons (pg_name (i := 3) scLeast.nd rfl (Or.inl rfl)) (pgs_cons (pg_name (i := 4) scLeast.nd rfl (Or.inl rfl)) pgs_nil))))
          (fun _ _ _ _ _ => pts_nil) (fun _ _ _ _ _ => pe_tup (pa_cons (pv 2) (pa_cons (pv 3) pa_nil))) (fun _ _ _ _ _ => pv 4))
      (pss_one (ps_ret (pe_callTy call_tuple_of (by rfl) G.tuple bt_tuple (pa_cons (pe_callB cr_sortRows (by rfl) G.sorted boot_sorted (pa_cons
        (pe_lock (pe_lc (own := [("pair", 5), ("cost", 4)]) (g := gTup K 2 (gCons (gName 5) (gCons (gName 4) gNil))) (tt := tYes) (te := tTup (StX.tStar K (tVar 5) (tCons (tVar 4) tNil))) rfl scLeast.nd
          (pi_itemsT (pv 1)) (blkOk_by (own := [("pair", 5), ("cost", 4)]) (N := NL) (sc := defScope sLeast) (by decide +kernel))
          (fun _ _ _ _ _ => pg_tup (n := 2) rfl (pgs_cons (pg_name (i := 5) scLeast.nd rfl (Or.inl rfl)) (pgs_cons (pg_name (i := 4) scLeast.nd rfl (Or.inl rfl)) pgs_nil)))
          (fun _ _ _ _ _ => pts_nil) (fun _ _ _ _ _ => pe_tup (StX.pa_star (pv 5) (pa_cons (pv 4) pa_nil))))) pa_nil)) pa_nil))))), ?_⟩
    refine ⟨_, rfl, t, cs, rfl, ⟨ps, hl, ht, hr2⟩, hc, fun H1 s1 => ⟨_, rfl, iteF ?_⟩⟩
    have len1 : ps.length = cs.length := Paired.length hr2
    refine ⟨_, rfl, rfl, t, ps, cs.map rowK, rfl, .inl (SqT.of (s1 _ _ ht)), rows_k (hr2.same s1), shaped_rows cs, by rw [List.length_map]; omega, (show A.units + 3 + 64 < cLine from hu), ?_⟩
    intro q ps' kr hq
    rw [sort_rowsRev] at kr
    generalize hS : (cs.mergeSort fun a b => !Kl.lt3 sLt a b) = srt at kr
    have lenS : srt.length = cs.length := by rw [← hS]; exact (List.mergeSort_perm _ _).length_eq
    have rs := k_rows kr
    have len2 : ps'.length = cs.length := by rw [Paired.length rs, lenS]
    refine ⟨q, rfl, ⟨_, SqL.of upd_same⟩, fun D hD => ?_⟩
    have sq : Same H1 (upd H1 q (.lst (ps'.map V.ref))) := Same.upd hq
    refine dcT_it (walk_list (xs := ps'.map V.ref)) (fun i H' => Same (upd H1 q (.lst (ps'.map V.ref))) H' ∧ H' D = some (.dT (knownV (kn (srt.take i))))) ⟨Same.upd hD, upd_same⟩ (fun _ _ _ z => SqL.of (z.1 _ _ upd_same)) ?_ ?_
    · rintro i x H2 H3 hi ⟨s2, eD⟩ ⟨rfl, ex⟩
      rw [List.getElem?_map] at ex
      obtain ⟨p, ep, rfl⟩ := Option.map_eq_some_iff.mp ex
      obtain ⟨c, ec, hp⟩ := paired_get rs ep
      rw [List.length_map] at hi
      refine ⟨p, _, rfl, SqT.of (s2 _ _ (sq _ _ hp)), rfl, _, _, rfl, _, _, rfl, _, _, rfl, ⟨rfl, rfl, ?_⟩⟩
      refine ⟨_, rfl, _, rfl, (by show (2 : Nat) ≤ sizeLine; decide), fun b hb => ?_⟩
      refine ⟨_, rfl, _, prK (c.1, c.2.1), b, rfl, upd_same, by rw [upd_ne (ne_of_none eD hb)]; exact eD, ?_, hu_of hr, ?_, ?_⟩
      · unfold knownV
        rw [List.length_map]
        have := kn_len (srt.take i)
        rw [List.length_take] at this
        exact small1000 (by omega)
      · exact Same.put (Same.put s2 (by
          cases e : upd H1 q (.lst (ps'.map V.ref)) b with
          | none => rfl
          | some u => have := s2 _ _ e; rw [hb] at this; cases this)) hD
      · rw [upd_same, knownV_put, kn_succ ec]
        rfl
    · rintro H2 ⟨s2, eD⟩
      rw [show (ps'.map V.ref).length = srt.length by rw [List.length_map, len2, lenS], List.take_length] at eD
      generalize hkn : kn srt = f at eD
      have hf : f.length ≤ 1000 := by
        rw [← hkn]
        have := kn_len srt
        omega
      have s2' : Same H1 H2 := sq.trans s2
      have hD1 : H1 D = none := by
        cases e : H1 D with
        | none => rfl
        | some u => have := sq _ _ e; rw [hD] at this; cases this
      -- the rows
      refine ⟨D, _, eD, trivial, fun od => ?_⟩
      refine ⟨_, rfl, D, od, knownV f, rfl, upd_same, fun L hL => ?_⟩
      have LD : L ≠ D := fun z => by rw [z, upd_same] at hL; cases hL
      rw [upd_ne LD] at hL
      have hL1 : H1 L = none := by
        cases e : H1 L with
        | none => rfl
        | some u => have := s2' _ _ e; rw [hL] at this; cases this
      refine lc_it (walk_itemsT (d := D) (o := od) (kvs := knownV f)) (fun i H' => Same H1 H' ∧ SameT H2 H' ∧ H' D = some (.frz od (.dT (knownV f))) ∧ ∃ rp : List Addr, RowsAt H' rp ((f.take i).map Kl.rowOf) ∧ H' L = some (.lst (rp.map V.ref)))
        ⟨Same.put (Same.put s2' hD1) hL1, ?_, ?_, [], .nil, upd_same⟩ (fun _ _ _ z => z.2.2.1) ?_ ?_
      · refine SameT.trans (SameT.upd (a := D) fun xs z => ?_) (SameT.upd (a := L) fun xs z => ?_)
        · rw [eD] at z; cases z
        · rw [upd_ne LD, hL] at z; cases z
      · rw [upd_ne (Ne.symm LD), upd_same]
      · rintro i x H3 H4 hi ⟨s3, s3', eD3, rp, hrp, eL⟩ ⟨T, qa, kk, v, ekv, rfl, hqa, hT, rfl⟩
        have hi' : i < f.length := by simpa [knownV] using hi
        have ef : f[i]? = some f[i] := List.getElem?_eq_getElem hi'
        have e2 : (prK f[i].1, V.int f[i].2) = (kk, v) := by
          unfold knownV at ekv
          rw [List.getElem?_map, ef] at ekv
          exact Option.some.inj ekv
        obtain ⟨rfl, rfl⟩ := Prod.mk.inj e2
        refine ⟨T, _, rfl, SqT.of upd_same, rfl, _, _, rfl, _, _, rfl, ⟨rfl, rfl, ?_⟩⟩
        have hqa' : upd H3 T (.tup [.ref qa, .int f[i].2]) qa = some (.tup ((prK f[i].1).map kV)) := by rw [upd_ne (ne_of_none hqa hT)]; exact hqa
        refine ⟨_, rfl, qa, _, rfl, .inl (SqT.of hqa'), _, rfl, (by show (3 : Nat) ≤ sizeLine; decide), fun b hb => ?_⟩
        have hbT : b ≠ T := fun z => by rw [z, upd_same] at hb; cases hb
        have hb3 : H3 b = none := by rw [upd_ne hbT] at hb; exact hb
        have nD : D ≠ T := ne_of_none eD3 hT
        have nL : L ≠ T := ne_of_none eL hT
        have nDb : D ≠ b := ne_of_none eD3 hb3
        have nLb : L ≠ b := ne_of_none eL hb3
        have lenr : rp.length = i := by
          have := Paired.length hrp
          rw [List.length_map, List.length_take] at this
          omega
        refine ⟨rp.map V.ref, by rw [upd_ne nLb, upd_ne nL]; exact eL, by rw [List.length_map, lenr]; exact small1000 (by omega), ?_⟩
        have sT : SameT H3 (upd (upd (upd H3 T (.tup [.ref qa, .int f[i].2])) b (.tup ((prK f[i].1).map kV ++ [.int f[i].2]))) L (.lst (rp.map V.ref ++ [.ref b]))) := by
          refine SameT.trans (SameT.of (Same.upd hT)) (SameT.trans (SameT.of (Same.upd hb)) (SameT.upd fun xs z => ?_))
          rw [upd_ne nLb, upd_ne nL, eL] at z
          cases z
        have hT1 : H1 T = none := by
          cases e : H1 T with
          | none => rfl
          | some u => have := s3 _ _ e; rw [hT] at this; cases this
        have hb1 : H1 b = none := by
          cases e : H1 b with
          | none => rfl
          | some u => have := s3 _ _ e; rw [hb3] at this; cases this
        refine ⟨Same.put (Same.put (Same.put s3 hT1) hb1) hL1, s3'.trans sT, by rw [upd_ne (Ne.symm LD), upd_ne nDb, upd_ne nD]; exact eD3, rp ++ [b], ?_, by rw [upd_same, List.map_append]; rfl⟩
        rw [List.take_succ, ef, List.map_append]
        refine paired_snoc (hrp.sameT sT) ?_
        show upd _ L _ b = some _
        rw [upd_ne (Ne.symm nLb), upd_same]
        rfl
      · rintro H3 ⟨s3, s3', eD3, rp, hrp, eL⟩
        rw [show (knownV f).length = f.length by simp [knownV], List.take_length] at hrp
        refine ⟨eD3, ?_⟩
        have lenr : rp.length = f.length := by rw [Paired.length hrp, List.length_map]
        have sT : SameT H3 (upd H3 D (.dT (knownV f))) := SameT.upd fun xs z => by rw [eD3] at z; cases z
        have hrp' := hrp.sameT sT
        refine ⟨L, rp, (f.map Kl.rowOf).map rowK, rfl, .inr (SqL.of (by rw [upd_ne LD]; exact eL)), rows_k hrp', shaped_rows _, by rw [List.length_map, List.length_map]; exact hf, (show A.units + 3 + 64 < cLine from hu), ?_⟩
        intro q2 rp2 kr2 hq2
        rw [sort_rows] at kr2
        have rs2 := k_rows kr2
        refine ⟨q2, _, rfl, .inl ⟨SqL.of upd_same, fun t' ht' => ?_⟩⟩
        have sD : Same H1 (upd H3 D (.dT (knownV f))) := Same.put s3 hD1
        have hn1 : ∀ {a : Addr}, upd H3 D (.dT (knownV f)) a = none → H1 a = none := fun {a} e => Same.nope sD e
        have hq21 : H1 q2 = none := hn1 hq2
        have ht'q : t' ≠ q2 := fun z => by rw [z, upd_same] at ht'; cases ht'
        have ht1 : H1 t' = none := hn1 (by rw [upd_ne ht'q] at ht'; exact ht')
        refine k _ t' (s1.trans (Same.put (Same.put (Same.put s3 hD1) hq21) ht1)) ⟨rp2, ?_, upd_same, ?_⟩
        · rw [Paired.length rs2, (List.mergeSort_perm _ _).length_eq, List.length_map]; exact hf
        · have z : lstC cs = (f.map Kl.rowOf).mergeSort fun a b => !Kl.lt3 sLt b a := by
            rw [← hkn, ← hS]
            rfl
          rw [z]
          exact rs2.same (Same.trans (Same.upd hq2) (Same.upd ht'))
end
end Ku
/-! paths_from. -/
namespace Ku
open PySem L2
abbrev Fnd := List (Str × (Int × List Str))
/-- an entry of the dict of paths -/
def EntAt (H : Hp) (kv : Key × V) (e : Str × (Int × List Str)) : Prop := kv.1 = .inr e.1 ∧ ∃ p n, kv.2 = .ref p ∧ H p = some (.tup [.int e.2.1, .ref n]) ∧ H n = some (.tup (e.2.2.map V.str))
abbrev EntsAt (H : Hp) : List (Key × V) → Fnd → Prop := Paired (EntAt H)
def FoundAt (H : Hp) (D : Addr) (f : Fnd) : Prop := ∃ kvs, H D = some (.dK kvs) ∧ EntsAt H kvs f
theorem EntsAt.same {H H' : Hp} (s : SameT H H') {kvs : List (Key × V)} {f : Fnd} (h : EntsAt H kvs f) : EntsAt H' kvs f := Paired.mapP h fun _ _ ⟨e, p, n, h1, h2, h3⟩ => ⟨e, p, n, h1, s _ _ h2, s _ _ h3⟩
theorem FoundAt.same {H H' : Hp} (s : Same H H') {D : Addr} {f : Fnd} (h : FoundAt H D f) : FoundAt H' D f := let ⟨kvs, h1, h2⟩ := h; ⟨kvs, s _ _ h1, EntsAt.same (SameT.of s) h2⟩
theorem ents_look {H : Hp} : ∀ {kvs : List (Key × V)} {f : Fnd}, EntsAt H kvs f → ∀ v : Str, (Kp.look f v = none ∧ valV kvs (.inr v) = none) ∨ ∃ d p pa n, Kp.look f v = some (d, p) ∧ valV kvs (.inr v) = some (.ref pa) ∧ H pa = some (.tup [.int d, .ref n]) ∧ H n = some (.tup (p.map V.str))
  | _, _, .nil, v => .inl ⟨rfl, rfl⟩
  | _, _, .cons (l₁ := kvs) (l₂ := f) (a := kv) (b := e) ⟨hk, pa, n, h1, h2, h3⟩ t, v => by
    obtain ⟨k, x⟩ := kv
    obtain ⟨ek, d, p⟩ := e
    obtain rfl := (show k = .inr ek from hk)
    obtain rfl := (show x = .ref pa from h1)
    rw [Kp.look_cons]
    by_cases h : ek = v
    · subst h
      rw [if_pos rfl]
      exact .inr ⟨d, p, pa, n, rfl, by simp [valV], h2, h3⟩
    · rw [if_neg h]
      have hv : valV ((Sum.inr ek, V.ref pa) :: kvs) (.inr v) = valV kvs (.inr v) := by
        unfold valV
        rw [List.find?_cons_of_neg (by simpa using h)]
      rw [hv]
      exact ents_look t v
theorem ents_len {H : Hp} {kvs : List (Key × V)} {f : Fnd} (h : EntsAt H kvs f) : kvs.length = f.length := Paired.length h
theorem ents_any {H : Hp} {v : Str} : ∀ {kvs : List (Key × V)} {f : Fnd}, EntsAt H kvs f → (kvs.any fun kv => decide (kv.1 = (.inr v : Key))) = (Kp.look f v).isSome
  | _, _, .nil => rfl
  | _, _, .cons (l₁ := kvs) (l₂ := f) (a := kv) (b := e) ⟨hk, _⟩ t => by
    obtain ⟨k, x⟩ := kv
    obtain ⟨ek, d⟩ := e
    obtain rfl := (show k = .inr ek from hk)
    rw [List.any_cons, Kp.look_cons, ents_any t]
    by_cases h : ek = v
    · simp [h]
    · have h' : ¬ (Sum.inr ek : Key) = .inr v := fun z => h (Sum.inr.inj z)
      simp [h]
theorem ents_map {H : Hp} {v : Str} {z : V} {e' : Int × List Str} (hz : EntAt H ((.inr v : Key), z) (v, e')) : ∀ {kvs : List (Key × V)} {f : Fnd}, EntsAt H kvs f →
    EntsAt H (kvs.map fun kv => if kv.1 = (.inr v : Key) then (kv.1, z) else kv) (f.map fun kv => if kv.1 = v then (v, e') else kv)
  | _, _, .nil => .nil
  | _, _, .cons (l₁ := kvs) (l₂ := f) (a := kv) (b := e) h t => by
    obtain ⟨k, x⟩ := kv
    obtain ⟨ek, d⟩ := e
    obtain rfl := (show k = .inr ek from h.1)
    rw [List.map_cons, List.map_cons]
    refine .cons ?_ (ents_map hz t)
    by_cases hh : ek = v
    · subst hh
      rw [if_pos rfl, if_pos rfl]
      exact hz
    · rw [if_neg (fun q => hh (Sum.inr.inj q)), if_neg hh]
      exact h
theorem ents_put {H : Hp} {v : Str} {z : V} {e' : Int × List Str} (hz : EntAt H ((.inr v : Key), z) (v, e')) {kvs : List (Key × V)} {f : Fnd} (h : EntsAt H kvs f) : EntsAt H (putK kvs (.inr v) z) (Kp.put f v e') := by
  unfold putK Kp.put
  rw [ents_any h]
  split
  · exact ents_map hz h
  · exact paired_snoc h hz
/-- a dict taken over into a new one is itself -/
theorem merge_self : ∀ (kvs acc : List (Key × V)), ((acc ++ kvs).map (·.1)).Nodup → mergeK acc kvs = acc ++ kvs
  | [], acc, _ => by simp [mergeK]
  | kv :: kvs, acc, h => by
    have hn : (acc.any fun x => decide (x.1 = kv.1)) = false := by
      rw [List.any_eq_false]
      intro x hx e
      have e' : x.1 = kv.1 := by simpa using e
      rw [List.map_append, List.nodup_append] at h
      exact h.2.2 x.1 (List.mem_map.mpr ⟨x, hx, rfl⟩) kv.1 (by simp) e'
    have e : mergeK acc (kv :: kvs) = mergeK (putK acc kv.1 kv.2) kvs := rfl
    have e2 : putK acc kv.1 kv.2 = acc ++ [kv] := by
      unfold putK
      rw [hn, if_neg Bool.false_ne_true]
    rw [e, e2, merge_self kvs (acc ++ [kv]) (by rwa [List.append_assoc, List.singleton_append]), List.append_assoc, List.singleton_append]
theorem ents_keys {H : Hp} : ∀ {kvs : List (Key × V)} {f : Fnd}, EntsAt H kvs f → kvs.map (·.1) = (f.map (·.1)).map Sum.inr
  | _, _, .nil => rfl
  | _, _, .cons h t => by rw [List.map_cons, List.map_cons, List.map_cons, ents_keys t, h.1]
/-- what holds of the dict of paths at every turn -/
structure Fine (cs : List Way) (u : Str) (f : Fnd) : Prop where
  good : Kp.Good cs u f
  nd : (f.map (·.1)).Nodup
  sub : ∀ v ∈ f.map (·.1), v ∈ u :: cs.map (·.2.1)
theorem put_keys' (f : Fnd) (v : Str) (e : Int × List Str) : (Kp.put f v e).map (·.1) = if (Kp.look f v).isSome = true then f.map (·.1) else f.map (·.1) ++ [v] := by
  unfold Kp.put
  split
  · rw [List.map_map]
    refine List.map_congr_left fun kv _ => ?_
    show (if kv.1 = v then (v, e) else kv).1 = kv.1
    split
    · rename_i h; exact h.symm
    · rfl
  · rw [List.map_append]; rfl
theorem look_key {f : Fnd} {v : Str} (h : Kp.look f v = none) : v ∉ f.map (·.1) := by
  induction f with
  | nil => simp
  | cons kv f ih =>
    obtain ⟨k, e⟩ := kv
    rw [Kp.look_cons] at h
    by_cases hk : k = v
    · rw [if_pos hk] at h; cases h
    · rw [if_neg hk] at h
      rw [List.map_cons, List.mem_cons]
      rintro (z | z)
      · exact hk z.symm
      · exact ih h z
theorem Fine.relax {cs : List Way} {u : Str} {f : Fnd} (h : Fine cs u f) (hp : Kp.Pos1 cs) {w : Way} (hw : w ∈ cs) : Fine cs u (Kp.relax f w) := by
  refine ⟨Kp.relax_good hp hw h.good, ?_, ?_⟩
  · rcases Kp.relax_cases f w with ⟨e, _⟩ | ⟨own, names, _, e, _⟩
    · rw [e]; exact h.nd
    · rw [e, put_keys']
      split
      · exact h.nd
      · rename_i hn
        rw [List.nodup_append]
        refine ⟨h.nd, by simp, fun a ha b hb e => ?_⟩
        have e2 : b = w.2.1 := by simpa using hb
        rw [e, e2] at ha
        exact look_key (by cases q : Kp.look f w.2.1 with | none => rfl | some _ => rw [q] at hn; simp at hn) ha
  · rcases Kp.relax_cases f w with ⟨e, _⟩ | ⟨own, names, _, e, _⟩
    · rw [e]; exact h.sub
    · rw [e, put_keys']
      split
      · exact h.sub
      · intro v hv
        rcases List.mem_append.mp hv with z | z
        · exact h.sub v z
        · rw [List.mem_singleton.mp z]
          exact List.mem_cons_of_mem _ (List.mem_map.mpr ⟨w, hw, rfl⟩)
theorem Fine.len {cs : List Way} {u : Str} {f : Fnd} (h : Fine cs u f) : f.length ≤ cs.length + 1 := by
  have := Kp.nodup_le h.nd h.sub
  simpa using this
theorem Fine.names {cs : List Way} {u : Str} {f : Fnd} (h : Fine cs u f) {v : Str} {d : Int} {p : List Str} (e : Kp.look f v = some (d, p)) : p.length ≤ cs.length + 1 := by
  obtain ⟨h1, h2⟩ := h.good.path _ _ _ e
  exact h1.length_le h2
theorem fine0 {cs : List Way} {u : Str} : Fine cs u [(u, (0, [u]))] := ⟨Kp.good0, by simp, by simp⟩
theorem Fine.fold {cs : List Way} {u : Str} (hp : Kp.Pos1 cs) : ∀ {l : List Way} {f : Fnd}, (∀ w ∈ l, w ∈ cs) → Fine cs u f → Fine cs u (l.foldl Kp.relax f)
  | [], _, _, h => h
  | w :: l, f, hs, h => Fine.fold hp (l := l) (fun x hx => hs x (by simp [hx])) (h.relax hp (hs w (by simp)))
theorem fine_rounds {cs : List Way} {u : Str} (hp : Kp.Pos1 cs) : ∀ n, Fine cs u (Kp.rounds cs n [(u, (0, [u]))])
  | 0 => fine0
  | n + 1 => Fine.fold hp (fun w hw => hw) (fine_rounds hp n)
theorem fold_take {cs : List Way} {f : Fnd} {i : Nat} {w : Way} (h : cs[i]? = some w) : (cs.take (i + 1)).foldl Kp.relax f = Kp.relax ((cs.take i).foldl Kp.relax f) w := by
  rw [List.take_succ, h, List.foldl_append]
  rfl
theorem pos_of {cs : List Way} (hc : ∀ c ∈ cs, WayOk c) : Kp.Pos1 cs := fun w hw => (hc w hw).pos
section
variable {P : Program} {w : World} {K : PySem.W.Frag} {mg : Str → Option Value} {base : Heap}
def spPaths : Sp := fun vs H Q _ => ∃ (t : Addr) (u : Str) (cs : List Way), vs = [.ref t, .str u] ∧ TabAt H t cs ∧ cs.length ≤ 900 ∧ (∀ c ∈ cs, WayOk c) ∧ ∀ H' D, Same H H' → FoundAt H' D (Kp.paths cs u) → Fine cs u (Kp.paths cs u) → Q (.ref D) H'
abbrev NP : List Str := ["costs", "one", "found", "turn", "first", "last", "cost", "own", "names"]
theorem scPaths : FnScope NP ["costs", "one"] (defScope sPaths) := ⟨rfl, rfl, rfl, by decide +kernel, rfl, by decide +kernel, by decide +kernel⟩
theorem ok_paths {f : Addr} {fd : FuncData} (F : Fun K "paths_from" "paths_from" sPaths f fd) (G : Glb mg) : FnOk P w K mg base CX0 1 f fd ["costs", "one"] spPaths := by
  refine F.ok scPaths (fun vs H Q E h => ?_) (fun cdv A outer s H vs Q E hr h => ?_)
  · obtain ⟨t, u, cs, rfl, _⟩ := h
    rfl
  · obtain ⟨t, u, cs, rfl, ⟨ps, hl, ht, hr2⟩, hcl, hc, k⟩ := h
    have hu := hu_of hr
    have hp := pos_of hc
    refine ⟨_, pss_cons (ps_set (i := 2) scPaths.nd rfl (Or.inl rfl) (pe_disp (pps_cons (pv 1) (pe_tup (pa_cons pe_int (pa_cons (pe_tup (pa_cons (pv 1) pa_nil)) pa_nil))) pps_nil) rfl rfl (by simp) (by decide)))
      (pss_cons (ps_for PassesOwn.never rfl (pi_range1 (by rfl) G.range (pa_cons (pe_op op_add (pe_callB call_len_seq (by rfl) G.len PySem.boot_len (pa_cons (pv 0) pa_nil)) pe_int) pa_nil)) (pg_name (i := 3) scPaths.nd rfl (Or.inl rfl))
        (pss_one (ps_for PassesOwn.never rfl (pi_tup (pv 0)) (pg_tup (n := 3) rfl (pgs_cons (pg_name (i := 4) scPaths.nd rfl (Or.inl rfl)) (pgs_cons (pg_name (i := 5) scPaths.nd rfl (Or.inl rfl)) (pgs_cons (pg_name (i := 6) scPaths.nd rfl (Or.inl rfl)) pgs_nil))))
          (pss_one (ps_if (pt_cmp (pc_din hu (pv 4) (pv 2))) (pss_cons (ps_asg (pe_dget hu (pv 2) (pv 4) (fun _ _ => rfl)) (pg_tup (n := 2) rfl (pgs_cons (pg_name (i := 7) scPaths.nd rfl (Or.inl rfl)) (pgs_cons (pg_name (i := 8) scPaths.nd rfl (Or.inl rfl)) pgs_nil))))
            (pss_one (ps_if (PW.pt (pw_or (pt_cmp (pc_dnotin hu (pv 5) (pv 2))) (pw_or1 (pt_cmpR op_lt (pe_op op_add (pv 7) (pv 6)) (pe_ix ix_tup (pe_dget hu (pv 2) (pv 5) (fun _ _ => rfl)) pe_int (fun _ _ => rfl)) (nomark _)))))
              (pss_one (ps_set (i := 2) scPaths.nd rfl (Or.inl rfl) (pe_dstar (pv 2) (pv 5) (pe_tup (pa_cons (pe_op op_add (pv 7) (pv 6)) (pa_cons (pe_tup (StX.pa_star (pv 8) (pa_cons (pv 5) pa_nil))) pa_nil)))))) pss_nil))) pss_nil)))))
      (pss_one (ps_ret (pv 2)))), ?_⟩
    -- found = {one: (0, (one,))}
    intro D hD
    have sD : Same H (upd H D (.dK [])) := Same.upd hD
    refine ⟨_, rfl, _, rfl, (by show (1 : Nat) ≤ sizeLine; decide), fun n hn => ⟨(by show (2 : Nat) ≤ sizeLine; decide), fun p hpn => ?_⟩⟩
    have nD : D ≠ n := fun z => by rw [← z, upd_same] at hn; cases hn
    have pn : p ≠ n := fun z => by rw [z, upd_same] at hpn; cases hpn
    have pD : p ≠ D := fun z => by rw [z, upd_ne nD, upd_same] at hpn; cases hpn
    have hn0 : H n = none := Same.nope sD hn
    have hp0 : H p = none := by
      rw [upd_ne pn, upd_ne pD] at hpn
      exact hpn
    refine ⟨by rw [upd_ne (Ne.symm pD), upd_ne nD, upd_same], [(.inr u, .ref p)], rfl, (by show (1 : Nat) ≤ 15; decide), ?_⟩
    generalize eH1 : upd (upd (upd (upd H D (.dK [])) n (.tup [.str u])) p (.tup [.int 0, .ref n])) D (.dK (mergeK [] [(.inr u, .ref p)])) = H1
    have s1 : Same H H1 := by
      rw [← eH1]
      exact Same.put (Same.put (Same.put sD hn0) hp0) hD
    have F0 : FoundAt H1 D [(u, (0, [u]))] := by
      rw [← eH1]
      refine ⟨[(.inr u, .ref p)], upd_same, .cons ⟨rfl, p, n, rfl, ?_, ?_⟩ .nil⟩
      · rw [upd_ne pD, upd_same]
      · rw [upd_ne (Ne.symm nD), upd_ne (Ne.symm pn), upd_same]
        rfl
    have ht1 := s1 _ _ ht
    have len1 : ps.length = cs.length := Paired.length hr2
    -- for turn in range(len(costs) + 1)
    refine ⟨_, rfl, t, _, rfl, .inr (SqT.of ht1), _, _, rfl, rfl, _, rfl, ?_, ?_, ?_⟩
    · rw [List.length_map]; omega
    · rw [List.length_map]; omega
    have en : (((ps.map V.ref).length : Nat) + (1 : Int)).toNat = cs.length + 1 := by
      rw [List.length_map]; omega
    rw [en]
    refine for_it walk_range (fun i σ H' => Same H H' ∧ ∃ D a3 a4 a5 a6 a7 a8, σ = [some (.ref t), some (.str u), some (.ref D), a3, a4, a5, a6, a7, a8] ∧ FoundAt H' D (Kp.rounds cs i [(u, (0, [u]))]))
      ⟨s1, D, none, none, none, none, none, none, rfl, F0⟩ (fun _ _ _ _ _ => trivial) ?_ ?_
    · rintro i x σ H2 H2' hi ⟨s2, D2, a3, a4, a5, a6, a7, a8, rfl, F2⟩ ⟨rfl, rfl⟩
      refine ⟨_, rfl, t, rfl, ⟨_, SqT.of (s2 _ _ ht)⟩, ?_⟩
      refine for_it (walk_tup (xs := ps.map V.ref)) (fun j σ H' => Same H H' ∧ ∃ D a3 a4 a5 a6 a7 a8, σ = [some (.ref t), some (.str u), some (.ref D), a3, a4, a5, a6, a7, a8] ∧ FoundAt H' D ((cs.take j).foldl Kp.relax (Kp.rounds cs i [(u, (0, [u]))])))
        ⟨s2, D2, _, a4, a5, a6, a7, a8, rfl, F2⟩ (fun _ _ _ _ z => SqT.of (z.1 _ _ ht)) ?_ ?_
      · rintro j x σ H3' H3 hj ⟨s3, D3, b3, b4, b5, b6, b7, b8, rfl, kvs, hkvs, ents⟩ ⟨rfl, ex⟩
        rw [List.getElem?_map] at ex
        obtain ⟨pc, epc, rfl⟩ := Option.map_eq_some_iff.mp ex
        obtain ⟨c, ec, hpc⟩ := paired_get hr2 epc
        have hcm : c ∈ cs := List.mem_of_getElem? ec
        have fine : Fine cs u ((cs.take j).foldl Kp.relax (Kp.rounds cs i [(u, (0, [u]))])) := Fine.fold hp (fun x hx => List.mem_of_mem_take hx) (fine_rounds hp i)
        generalize hf : (cs.take j).foldl Kp.relax (Kp.rounds cs i [(u, (0, [u]))]) = f at fine ents
        have ef : (cs.take (j + 1)).foldl Kp.relax (Kp.rounds cs i [(u, (0, [u]))]) = Kp.relax f c := by rw [fold_take ec, hf]
        have hkl : kvs.length ≤ 1000 := by rw [ents_len ents]; have := fine.len; omega
        refine ⟨pc, _, rfl, SqT.of (s3 _ _ hpc), rfl, _, _, rfl, _, _, rfl, _, _, rfl, ⟨rfl, ?_⟩⟩
        -- if first in found
        refine ⟨_, rfl, _, rfl, D3, _, rfl, .inl ⟨kvs, .inr c.1, .inl hkvs, rfl, rfl⟩, _, rfl, ?_⟩
        rcases ents_look ents c.1 with ⟨l1, v1⟩ | ⟨own, names, pa, na, l1, v1, h1, h2⟩
        · rw [v1]
          refine iteF ?_
          refine ⟨s3, D3, _, _, _, _, _, _, rfl, kvs, hkvs, ?_⟩
          have er : Kp.relax f c = f := by unfold Kp.relax; rw [l1]
          rw [ef, er]
          exact ents
        · rw [v1]
          refine iteT ?_
          -- own, names = found[first]
          refine ⟨_, rfl, _, rfl, D3, _, rfl, .inl ⟨kvs, .inr c.1, .inl hkvs, rfl, v1.symm⟩, pa, _, rfl, SqT.of h1, rfl, _, _, rfl, _, _, rfl, ⟨rfl, ?_⟩⟩
          have hnl : names.length ≤ cs.length + 1 := fine.names l1
          -- the store
          have store : ∀ (b3 b7 b8 : Option V), Kp.relax f c = Kp.put f c.2.1 (own + c.2.2, names ++ [c.2.1]) →
              tSeq (tAsg (tDStar (tVar 2) (tVar 5) (tTup (tCons (tOp (rI0 fun i j => .int (i + j)) (tVar 7) (tVar 6)) (tCons (tTup (StX.tStar K (tVar 8) (tCons (tVar 5) tNil))) tNil)))) (gName 2)) tNext
                { nx := fun σ H' => Same H H' ∧ ∃ D a3 a4 a5 a6 a7 a8, σ = [some (.ref t), some (.str u), some (.ref D), a3, a4, a5, a6, a7, a8] ∧ FoundAt H' D ((cs.take (j + 1)).foldl Kp.relax (Kp.rounds cs i [(u, (0, [u]))])), rt := Q }
                [some (.ref t), some (.str u), some (.ref D3), b3, some (.str c.1), some (.str c.2.1), some (.int c.2.2), some (.int own), some (.ref na)] H3 := by
            intro b3 b7 b8 er
            intro d hd
            have dD : D3 ≠ d := ne_of_none hkvs hd
            refine ⟨_, rfl, D3, kvs, rfl, dD, hkl, by rw [upd_ne dD]; exact hkvs, upd_same, fun p hpd hpn => ?_⟩
            have hp3 : H3 p = none := by rw [upd_ne hpd] at hpn; exact hpn
            have pD3 : D3 ≠ p := ne_of_none hkvs hp3
            have em : mergeK [] kvs = kvs := by
              have := merge_self kvs [] (by
                rw [List.nil_append, ents_keys ents]
                exact List.pairwise_map.mpr (fine.nd.imp fun hne e => hne (Sum.inr.inj e)))
              simpa using this
            rw [em]
            have sB : Same H3 (upd (upd (upd H3 d (.dK [])) d (.dK kvs)) p (.dK [])) := Same.put (Same.put (Same.upd hd) hd) hp3
            refine ⟨_, rfl, _, rfl, _, rfl, _, _, rfl, rfl, ?_⟩
            refine ⟨_, rfl, na, _, rfl, .inl (SqT.of (sB _ _ h2)), _, rfl, ?_, fun n2 hn2 => ⟨(by show (2 : Nat) ≤ sizeLine; decide), fun p2 hp2 => ?_⟩⟩
            · rw [List.length_append, List.length_map]
              show names.length + 1 ≤ sizeLine
              rw [sizeLine_eq]
              omega
            have n2d : n2 ≠ d := fun z => by rw [z, upd_ne (Ne.symm hpd), upd_same] at hn2; cases hn2
            have n2p : n2 ≠ p := fun z => by rw [z, upd_same] at hn2; cases hn2
            have p2n : p2 ≠ n2 := fun z => by rw [z, upd_same] at hp2; cases hp2
            have p2p : p2 ≠ p := fun z => by rw [z, upd_ne (Ne.symm n2p), upd_same] at hp2; cases hp2
            have p2d : p2 ≠ d := fun z => by rw [z, upd_ne (Ne.symm n2d), upd_ne (Ne.symm hpd), upd_same] at hp2; cases hp2
            have hn23 : H3 n2 = none := Same.nope sB hn2
            have hp23 : H3 p2 = none := Same.nope (Same.put sB hn23) hp2
            refine ⟨.inr c.2.1, rfl, ?_, ?_, ?_⟩
            · rw [upd_ne (Ne.symm p2d), upd_ne (Ne.symm n2d), upd_ne (Ne.symm hpd), upd_same]
            · rw [upd_ne (Ne.symm p2p), upd_ne (Ne.symm n2p), upd_same]
            · have sE : Same H3 (upd (upd (upd (upd (upd (upd (upd H3 d (.dK [])) d (.dK kvs)) p (.dK [])) n2 (.tup (names.map V.str ++ [.str c.2.1]))) p2 (.tup [.int (own + c.2.2), .ref n2])) p (.dK [(.inr c.2.1, .ref p2)])) d (.dK (putK kvs (.inr c.2.1) (.ref p2)))) :=
                Same.put (Same.put (Same.put (Same.put sB hn23) hp23) hp3) hd
              refine ⟨s3.trans sE, d, _, _, _, _, _, _, rfl, putK kvs (.inr c.2.1) (.ref p2), upd_same, ?_⟩
              rw [ef, er]
              refine ents_put ⟨rfl, p2, n2, rfl, ?_, ?_⟩ (EntsAt.same (SameT.of sE) ents)
              · rw [upd_ne p2d, upd_ne p2p, upd_same]
              · rw [upd_ne n2d, upd_ne n2p, upd_ne (Ne.symm p2n), upd_same, List.map_append]
                rfl
          -- if last not in found or own + cost < found[last][0]
          refine ⟨_, rfl, _, rfl, D3, _, rfl, .inl ⟨kvs, .inr c.2.1, .inl hkvs, rfl, rfl⟩, _, rfl, ?_⟩
          rcases ents_look ents c.2.1 with ⟨l2, v2⟩ | ⟨d2, names2, pa2, na2, l2, v2, h3, h4⟩
          · rw [v2]
            refine iteT (iteT ?_)
            exact store _ none none (by unfold Kp.relax; rw [l1]; dsimp only; rw [l2])
          · rw [v2]
            refine iteF ?_
            refine ⟨_, rfl, _, rfl, _, _, rfl, rfl, ?_⟩
            refine ⟨_, rfl, _, rfl, D3, _, rfl, .inl ⟨kvs, .inr c.2.1, .inl hkvs, rfl, v2.symm⟩, pa2, _, 0, _, rfl, rfl, SqT.of h3, rfl, _, _, rfl, rfl, _, rfl, ?_⟩
            refine ite2 (fun hlt => ?_) (fun hlt => ?_)
            · have hlt' : own + c.2.2 < d2 := of_decide_eq_true hlt
              exact store _ none none (by unfold Kp.relax; rw [l1]; dsimp only; rw [l2]; dsimp only; rw [if_pos hlt'])
            · have hlt' : ¬ own + c.2.2 < d2 := (fun z => hlt (decide_eq_true z))
              refine ⟨s3, D3, _, _, _, _, _, _, rfl, kvs, hkvs, ?_⟩
              have er : Kp.relax f c = f := by unfold Kp.relax; rw [l1]; dsimp only; rw [l2]; dsimp only; rw [if_neg hlt']
              rw [ef, er]
              exact ents
      · rintro σ H3 ⟨s3, D3, b3, b4, b5, b6, b7, b8, rfl, F3⟩
        refine ⟨s3, D3, b3, b4, b5, b6, b7, b8, rfl, ?_⟩
        rw [show (ps.map V.ref).length = cs.length by rw [List.length_map, len1], List.take_length] at F3
        exact F3
    · rintro σ H2 ⟨s2, D2, a3, a4, a5, a6, a7, a8, rfl, F2⟩
      exact ⟨_, rfl, k _ D2 s2 F2 (fine_rounds hp _)⟩
end
end Ku
/-! The class Costs: its facts, __init__, the three calls of the class. -/
namespace Ku
open PySem L2 SlX StX
/-- what the top says of the class -/
structure CC (K : PySem.W.Frag) (mg : Str → Option Value) (C : Addr) : Prop where
  sc : SCls K C
  si : SIsi K C
  slot : ∃ p, Slot1 K C "own_costs" p 0
  mgC : mg "Costs" = some (.ref C)
/-- a table stands at a -/
def CostsAt (H : Hp) (a C : Addr) (cs : List Way) : Prop := ∃ dx t, Slt H a C dx [some (.ref t)] ∧ TabAt H t cs
theorem Slt.same {H H' : Hp} (s : Same H H') {a C dx : Addr} {vs : List (Option V)} (h : Slt H a C dx vs) : Slt H' a C dx vs := h.elim (fun z => .inl ⟨s _ _ z.1, z.2⟩) fun z => .inr ⟨s _ _ z.1, s _ _ z.2⟩
theorem CostsAt.same {H H' : Hp} (s : Same H H') {a C : Addr} {cs : List Way} (h : CostsAt H a C cs) : CostsAt H' a C cs := let ⟨dx, t, h1, h2⟩ := h; ⟨dx, t, Slt.same s h1, h2.same s⟩
theorem TabAt.len {H : Hp} {t : Addr} {cs : List Way} (h : TabAt H t cs) : cs.length ≤ 1000 := by
  obtain ⟨ps, h1, _, h2⟩ := h
  rw [← Paired.length h2]
  exact h1
/-- the instance under way: x its own, all else as it was -/
def spInit0 (C : Addr) : Sp := fun vs H Q _ => ∃ (x dx t : Addr) (cs : List Way), vs = [.ref x, .ref t] ∧ H x = some (.ins C dx []) ∧ H dx = some (.own x) ∧ dx ≠ x ∧ TabAt H t cs ∧ (∀ c ∈ cs, WayOk c) ∧
  ∀ H', (∀ b u, b ≠ x → b ≠ dx → H b = some u → H' b = some u) → CostsAt H' x C (lstC cs) → Q .non H'
def spInit (C : Addr) : Sp := fun vs H Q E => ∃ ws rest, vs = ws ++ rest ∧ ws.length = ["self"].length ∧ rest.length ≤ sizeLine ∧ ∀ p, H p = Option.none → spInit0 C (ws ++ [V.ref p]) (upd H p (.tup rest)) Q E
section
variable {P : Program} {w : World} {K : PySem.W.Frag} {mg : Str → Option Value} {base : Heap} {C : Addr}
abbrev NI : List Str := ["self", "costs", "k", "cost"]
theorem scInit : FnScope NI ["self", "costs"] (defScope sInit) := ⟨rfl, rfl, rfl, by decide +kernel, rfl, by decide +kernel, by decide +kernel⟩
theorem ok_init {f : Addr} {fd : FuncData} (F : Fun K "__init__" "Costs.__init__" sInit f fd) (G : Glb mg) (T : CC K mg C) (D1 : Def P w K mg base "is_cost" 4 ["thing"] spCost) (D2 : Def P w K mg base "least_costs" 6 ["thing"] spLeast) : FnR P w K mg base CX0 7 f (spInit C) := by
  obtain ⟨oc, od, kV, doc, pm, an, cdv, ct, osl, rfl, lk, hcd⟩ := F.ex
  refine fn_star (k := 6) (ps := ["self"]) (pv := "costs") (sp := spInit0 C) lk hcd scInit cxUp_none (bind_star1 (B := fun us => bindArgs (PySem.W.fnOf "__init__" "Costs.__init__" (defArgs sInit) (defBody sInit) (defScope sInit) .none kV doc pm an cdv ct) ⟨us, []⟩) (p1 := "self") (pv := "costs") (fun _ => rfl) (fun _ _ _ => rfl)) fun A outer s H vs Q E hr h => ?_
  obtain ⟨x, dx, t, cs, rfl, hx, hdx, ne, ⟨ps, hl, ht, hr2⟩, hc, k⟩ := h
  obtain ⟨p, hp⟩ := T.slot
  refine ⟨_, PSs.nox (pss_cons (ps_for PassesOwn.never rfl (pi_enumT (by rfl) G.enumerate (pa_cons (pv 1) pa_nil)) (pg_tup (n := 2) rfl (pgs_cons (pg_name (i := 2) scInit.nd rfl (Or.inl rfl)) (pgs_cons (pg_name (i := 3) scInit.nd rfl (Or.inl rfl)) pgs_nil)))
      (pss_one (ps_if (pt_not (pt_val (pe_def D1 (hr.mono (by decide)) (pa_cons (pv 3) pa_nil)))) (pss_never) pss_nil)))
    (pss_one (ps_sl (pv 0) (pe_def D2 hr (pa_cons (pv 1) pa_nil))))), ?_⟩
  have len1 : ps.length = cs.length := Paired.length hr2
  refine ⟨_, rfl, t, _, rfl, ht, ?_⟩
  refine for_it (walk_enumT (t := t) (xs := ps.map V.ref)) (fun i σ H' => Same H H' ∧ ∃ a2 a3, σ = [some (.ref x), some (.ref t), a2, a3]) ⟨fun _ _ e => e, none, none, rfl⟩ (fun _ _ _ _ z => z.1 _ _ ht) ?_ ?_
  · rintro i v σ H1 H2 hi ⟨s1, a2, a3, rfl⟩ ⟨T2, y1, y2, rfl, hT, rfl, e1, e2⟩
    obtain rfl := Option.some.inj e1
    have e2 : (ps.map V.ref)[i]? = some y2 := e2
    rw [List.getElem?_map] at e2
    obtain ⟨pc, epc, rfl⟩ := Option.map_eq_some_iff.mp e2
    obtain ⟨c, ec, hpc⟩ := paired_get hr2 epc
    have s2 : Same H (upd H1 T2 (.tup [.int (i : Nat), .ref pc])) := Same.put s1 (Same.nope s1 hT)
    refine ⟨T2, _, rfl, SqT.of upd_same, rfl, _, _, rfl, _, _, rfl, ⟨rfl, ?_⟩⟩
    refine ⟨_, rfl, pc, c, rfl, s2 _ _ hpc, hc c (List.mem_of_getElem? ec), fun H3 s3 => ⟨_, rfl, iteF ?_⟩⟩
    exact ⟨s2.trans s3, _, _, rfl⟩
  · rintro σ H1 ⟨s1, a2, a3, rfl⟩
    refine ⟨_, rfl, t, cs, rfl, ⟨ps, hl, s1 _ _ ht, hr2.same s1⟩, hc, fun H2 t2 s2 T2 => ?_⟩
    have s12 : Same H H2 := s1.trans s2
    refine ⟨_, rfl, x, C, dx, p, [], 0, rfl, .inl ⟨s12 _ _ hx, rfl⟩, T.sc, hp, ?_⟩
    refine k _ (fun b u nx nd e => ?_) ⟨dx, t2, slH_slt ne, ?_⟩
    · rw [slH_ne nx nd]
      exact s12 _ _ e
    · obtain ⟨ps2, hl2, ht2, hr3⟩ := T2
      have keep : ∀ b xs, H2 b = some (.tup xs) → slH H2 x C dx (putS 0 (.ref t2) []) b = some (.tup xs) := fun b xs e => by
        have n1 : b ≠ x := fun z => by rw [z, s12 _ _ hx] at e; cases e
        have n2 : b ≠ dx := fun z => by rw [z, s12 _ _ hdx] at e; cases e
        rw [slH_ne n1 n2]
        exact e
      exact ⟨ps2, hl2, keep _ _ ht2, hr3.sameT keep⟩
/-- a new table of the ways that stand in the arguments -/
def spMake (C : Addr) : List V → Hp → (V → Hp → Prop) → Prop := fun vs H Q => ∃ (ps : List Addr) (cs : List Way), vs = ps.map V.ref ∧ RowsAt H ps cs ∧ (∀ c ∈ cs, WayOk c) ∧ cs.length ≤ 1000 ∧ ∀ H' a, Same H H' → CostsAt H' a C (lstC cs) → Q (.ref a) H'
theorem make_ok {vs : List V} {H : Hp} {Q : VK} (h : spMake C vs H Q) {x dx : Addr} (hx : H x = none) (hd : H dx = none) (ne : dx ≠ x) : spInit C (V.ref x :: vs) (upd (upd H dx (.own x)) x (.ins C dx [])) (fun v H2 => v = .non ∧ Q (.ref x) H2) E0 := by
  obtain ⟨ps, cs, rfl, hr, hc, hl, k⟩ := h
  have len1 : ps.length = cs.length := Paired.length hr
  have s0 : Same H (upd (upd H dx (.own x)) x (.ins C dx [])) := Same.put (Same.upd hd) hx
  refine ⟨[V.ref x], ps.map V.ref, rfl, rfl, by rw [List.length_map, sizeLine_eq]; omega, fun p hp => ?_⟩
  have px : p ≠ x := fun z => by rw [z, upd_same] at hp; cases hp
  have pd : p ≠ dx := fun z => by rw [z, upd_ne ne, upd_same] at hp; cases hp
  have sp : Same H (upd (upd (upd H dx (.own x)) x (.ins C dx [])) p (.tup (ps.map V.ref))) := Same.put s0 (Same.nope s0 hp)
  refine ⟨x, dx, p, cs, rfl, by rw [upd_ne (Ne.symm px), upd_same], by rw [upd_ne (Ne.symm pd), upd_ne ne, upd_same], ne, ⟨ps, by omega, upd_same, hr.same sp⟩, hc, fun H' keep cA => ⟨rfl, k H' x (fun b u e => ?_) cA⟩⟩
  exact keep b u (ne_of_none e hx) (ne_of_none e hd) (sp _ _ e)
/-- the class that keeps its promise -/
structure Cls (P : Program) (w : World) (K : PySem.W.Frag) (mg : Str → Option Value) (base : Heap) (C : Addr) : Prop where
  cc : CC K mg C
  made : ∃ f, Mk K C f ∧ FnR P w K mg base CX0 7 f (spInit C)
section
variable {X : Cx} {e : Expr} {es : List Expr} {te : TE} {t : TA} {p pos pos2 : Pos}
theorem PE.imp {e : Expr} {t t' : TE} (h : PE X e t) (i : ∀ σ H Q, t' σ H Q → t σ H Q) : PE X e t' := ⟨fun pins s σ H Q I q => h.run pins s σ H Q I (i _ _ _ q)⟩
/-- Costs() -/
theorem pe_new0 (T : Cls X.prog X.w X.K X.mg X.base C) (hr : Room 8 X.A) (hg : Gl X "Costs" := by rfl) : PE X (.Call (.Name "Costs" p) [] [] pos) (fun σ H Q => spMake C [] H Q) := by
  obtain ⟨f, M, F⟩ := T.made
  exact PE.imp (pe_makeR0 M F hr hg T.cc.mgC pass0 (by decide)) fun σ H Q h x dx hx hd ne => make_ok h hx hd ne
/-- Costs(e, ..) -/
theorem pe_newN (T : Cls X.prog X.w X.K X.mg X.base C) (hr : Room 8 X.A) (ha : PA X (e :: es) t) (hg : Gl X "Costs" := by rfl) (he : starEach (e :: es) X.env = (false, eval e X.env) :: starEach es X.env := by rfl)
    (hpl : (backTo pos (starEach es X.env)).any (·.1) = false := by rfl) : PE X (.Call (.Name "Costs" p) (e :: es) [] pos) (fun σ H Q => t σ H fun vs H1 => spMake C vs H1 Q) := by
  obtain ⟨f, M, F⟩ := T.made
  refine ⟨fun pins s σ H Q I h => ?_⟩
  refine wpAny_Call_Name_kw (ld_glob I hg T.cc.mgC ?_ (by decide))
  refine PySem.W.callWith_K (h₀ := X.base) I.ok.mod.kin M.kp (thn (ha.run pos pins s σ H _ I h) fun us s1 ⟨vs, H1, I1, r, q⟩ => ⟨I1.kIn, ?_⟩) he hpl
  exact run_makeR M F hr pass0 I1 r fun x dx hx hd ne => make_ok q hx hd ne
/-- Costs(*e) -/
theorem pe_newS (T : Cls X.prog X.w X.K X.mg X.base C) (hr : Room 8 X.A) (he : PE X e te) (hg : Gl X "Costs" := by rfl) (hst : starEach [.Starred e pos2] X.env = [(true, eval e X.env)] := by rfl) :
    PE X (.Call (.Name "Costs" p) [.Starred e pos2] [] pos) (fun σ H Q => te σ H fun y H1 => ∃ a vs, y = V.ref a ∧ (SqT X.K H1 a vs ∨ SqL X.K H1 a vs) ∧ spMake C vs H1 Q) := by
  obtain ⟨f, M, F⟩ := T.made
  refine ⟨fun pins s σ H Q I h => ?_⟩
  refine wpAny_Call_Name_kw (ld_glob I hg T.cc.mgC ?_ (by decide))
  refine PySem.W.callWith_S (h₀ := X.base) I.ok.mod.kin M.kp (thn (he.run pins s σ H _ I h) fun v s1 ⟨y, H1, I1, ry, a, xs, ey, hxs, q⟩ => ?_) hst
  subst ey
  obtain rfl : v = Value.ref a := ry
  exact star_any I1 hxs fun us s2 I2 rv => ⟨I2.kIn, run_makeR M F hr pass0 I2 rv fun x dx hx hd ne => make_ok q hx hd ne⟩
end
end
end Ku
/-! Rows, pairs and tables as data; the five names. -/
namespace Ku
open PySem PySem.Spec PyProof.Rows L2
def rwD (w : Way) : PyData := .tuple [.str w.1, .str w.2.1, .int w.2.2]
def pD (p : Str × Str) : PyData := .tuple [.str p.1, .str p.2]
theorem dp_row {K : PySem.W.Frag} {H : Hp} {p : Addr} {w : Way} (h : RowAt H p w) : Dp K H (.ref p) (rwD w) := .tup (SqT.of h) (.cons (.str _) (.cons (.str _) (.cons (.int _) .nil)))
theorem dp_pr {K : PySem.W.Frag} {H : Hp} {p : Addr} {u v : Str} (h : H p = some (.tup [.str u, .str v])) : Dp K H (.ref p) (pD (u, v)) := .tup (SqT.of h) (.cons (.str _) (.cons (.str _) .nil))
theorem dp_rows {K : PySem.W.Frag} {H : Hp} : ∀ {ps : List Addr} {cs : List Way}, RowsAt H ps cs → DpAll K H (ps.map V.ref) (cs.map rwD)
  | _, _, .nil => .nil
  | _, _, .cons h t => .cons (dp_row h) (dp_rows t)
def PrAt (H : Hp) (p : Addr) (q : Str × Str) : Prop := H p = some (.tup [.str q.1, .str q.2])
abbrev PrsAt (H : Hp) : List Addr → List (Str × Str) → Prop := Paired (PrAt H)
theorem PrsAt.sameT {H H' : Hp} (s : SameT H H') {ps : List Addr} {ws : List (Str × Str)} (h : PrsAt H ps ws) : PrsAt H' ps ws := Paired.mapP h fun _ _ r => s _ _ r
theorem dp_prs {K : PySem.W.Frag} {H : Hp} : ∀ {ps : List Addr} {cs : List (Str × Str)}, PrsAt H ps cs → DpAll K H (ps.map V.ref) (cs.map pD)
  | _, _, .nil => .nil
  | _, _, .cons h t => .cons (dp_pr h) (dp_prs t)
/-- names of a size that a text may have -/
def PrOk (p : Str × Str) : Prop := PyData.strOk p.1 = true ∧ PyData.strOk p.2 = true
theorem NameOk.str {z : Str} (h : NameOk z) : PyData.strOk z = true := by
  unfold PyData.strOk
  rw [Array.all_eq_true']
  intro c hc
  have h1 := h.2.2 c (by simpa using hc)
  have h2 : (letters.cps.toList.all fun c => decide (c < 0x110000)) = true := by decide +kernel
  exact List.all_eq_true.mp h2 c h1
theorem WayOk.pr {w : Way} (h : WayOk w) : PrOk (Kl.pr w) := ⟨h.one.str, h.other.str⟩
theorem lay_row {w : Way} (h : PrOk (Kl.pr w)) : (rwD w).canLay0 = true := by
  have h1 : PyData.strOk w.1 = true := h.1
  have h2 : PyData.strOk w.2.1 = true := h.2
  simp [rwD, PyData.canLay0, PyData.canLayAll0, h1, h2]
theorem lay_pr {p : Str × Str} (h : PrOk p) : (pD p).canLay0 = true := by simp [pD, PyData.canLay0, PyData.canLayAll0, h.1, h.2]
theorem lay_rows : ∀ cs : List Way, (∀ c ∈ cs, PrOk (Kl.pr c)) → PyData.canLayAll0 (cs.map rwD) = true
  | [], _ => rfl
  | c :: cs, h => by rw [List.map_cons, PyData.canLayAll0, lay_row (h c (by simp)), lay_rows cs fun x hx => h x (by simp [hx])]; rfl
theorem lay_prs : ∀ cs : List (Str × Str), (∀ c ∈ cs, PrOk c) → PyData.canLayAll0 (cs.map pD) = true
  | [], _ => rfl
  | c :: cs, h => by rw [List.map_cons, PyData.canLayAll0, lay_pr (h c (by simp)), lay_prs cs fun x hx => h x (by simp [hx])]; rfl
theorem dep_row (w : Way) : (rwD w).depth = 1 := by simp [rwD, PyData.depth, PyData.depthAll]
theorem dep_pr (p : Str × Str) : (pD p).depth = 1 := by simp [pD, PyData.depth, PyData.depthAll]
theorem dep_rows : ∀ cs : List Way, PyData.depthAll (cs.map rwD) ≤ 1
  | [] => by simp [PyData.depthAll]
  | c :: cs => by have := dep_rows cs; simp only [List.map_cons, PyData.depthAll, dep_row]; omega
theorem dep_prs : ∀ cs : List (Str × Str), PyData.depthAll (cs.map pD) ≤ 1
  | [] => by simp [PyData.depthAll]
  | c :: cs => by have := dep_prs cs; simp only [List.map_cons, PyData.depthAll, dep_pr]; omega
theorem shaped_row {w : Way} (h : PrOk (Kl.pr w)) : SeqAt.shaped (rwD w) = true := by
  unfold SeqAt.shaped
  rw [dep_row, lay_row h]
  rfl
theorem shaped_pr {p : Str × Str} (h : PrOk p) : SeqAt.shaped (pD p) = true := by
  unfold SeqAt.shaped
  rw [dep_pr, lay_pr h]
  rfl
theorem shaped_tab {cs : List Way} (hc : ∀ c ∈ cs, PrOk (Kl.pr c)) : SeqAt.shaped (.tuple (cs.map rwD)) = true := by
  have h := dep_rows cs
  unfold SeqAt.shaped
  rw [PyData.canLay0, lay_rows cs hc, PyData.depth, Bool.true_and, decide_eq_true_eq]
  omega
theorem shaped_lst {cs : List Way} (hc : ∀ c ∈ cs, PrOk (Kl.pr c)) : SeqAt.shaped (.list (cs.map rwD)) = true := by
  have h := dep_rows cs
  unfold SeqAt.shaped
  rw [PyData.canLay0, lay_rows cs hc, PyData.depth, Bool.true_and, decide_eq_true_eq]
  omega
theorem shaped_lprs {cs : List (Str × Str)} (hc : ∀ c ∈ cs, PrOk c) : SeqAt.shaped (.list (cs.map pD)) = true := by
  have h := dep_prs cs
  unfold SeqAt.shaped
  rw [PyData.canLay0, lay_prs cs hc, PyData.depth, Bool.true_and, decide_eq_true_eq]
  omega
theorem eqv_row (a b : Way) : PyData.eqv (rwD a) (rwD b) = decide (a = b) := by
  obtain ⟨x, y, i⟩ := a
  obtain ⟨x', y', i'⟩ := b
  simp only [rwD, PyData.eqv, PyData.eqvAll]
  by_cases h1 : x = x' <;> by_cases h2 : y = y' <;> by_cases h3 : i = i' <;> simp [h1, h2, h3]
theorem eqv_pr (a b : Str × Str) : PyData.eqv (pD a) (pD b) = decide (a = b) := by
  obtain ⟨x, y⟩ := a
  obtain ⟨x', y'⟩ := b
  simp only [pD, PyData.eqv, PyData.eqvAll]
  by_cases h1 : x = x' <;> by_cases h2 : y = y' <;> simp [h1, h2]
theorem eqv_rows : ∀ cs ds : List Way, PyData.eqvAll (cs.map rwD) (ds.map rwD) = decide (cs = ds)
  | [], [] => by simp [PyData.eqvAll]
  | [], _ :: _ => by simp [PyData.eqvAll]
  | _ :: _, [] => by simp [PyData.eqvAll]
  | c :: cs, d :: ds => by
    simp only [List.map_cons, PyData.eqvAll, eqv_row, eqv_rows cs ds]
    by_cases h1 : c = d <;> by_cases h2 : cs = ds <;> simp [h1, h2]
theorem eqv_prs : ∀ cs ds : List (Str × Str), PyData.eqvAll (cs.map pD) (ds.map pD) = decide (cs = ds)
  | [], [] => by simp [PyData.eqvAll]
  | [], _ :: _ => by simp [PyData.eqvAll]
  | _ :: _, [] => by simp [PyData.eqvAll]
  | c :: cs, d :: ds => by
    simp only [List.map_cons, PyData.eqvAll, eqv_pr, eqv_prs cs ds]
    by_cases h1 : c = d <;> by_cases h2 : cs = ds <;> simp [h1, h2]
theorem eqv_tab (cs ds : List Way) : PyData.eqv (.tuple (cs.map rwD)) (.tuple (ds.map rwD)) = decide (cs = ds) := by rw [PyData.eqv, eqv_rows]
theorem eqv_lst (cs ds : List Way) : PyData.eqv (.list (cs.map rwD)) (.list (ds.map rwD)) = decide (cs = ds) := by rw [PyData.eqv, eqv_rows]
theorem eqv_lprs (cs ds : List (Str × Str)) : PyData.eqv (.list (cs.map pD)) (.list (ds.map pD)) = decide (cs = ds) := by rw [PyData.eqv, eqv_prs]
theorem dp_tab {K : PySem.W.Frag} {H : Hp} {t : Addr} {cs : List Way} (h : TabAt H t cs) : Dp K H (.ref t) (.tuple (cs.map rwD)) := let ⟨_, _, h1, h2⟩ := h; .tup (SqT.of h1) (dp_rows h2)
/-- x in t, t a tuple of data of any depth -/
def rInDT (K : PySem.W.Frag) : R2 := fun x y H Q => ∃ d ds, Dp K H x d ∧ Dp K H y (.tuple ds) ∧ SeqAt.shaped d = true ∧ SeqAt.shaped (.tuple ds) = true ∧ Q (.bl (ds.any fun z => PyData.eqv z d)) H
theorem op_inDT {X : Cx} {k : Nat} (hr : Room k X.A) : OpR X (compareOp .In) (rInDT X.K) := by
  intro pins s σ H x y v u Q I rx ry h
  obtain ⟨d, ds, hd, he, sd, se, q⟩ := h
  obtain ⟨as, r1⟩ := Dp.reads I d x v hd rx
  obtain ⟨bs, r2⟩ := Dp.reads I (.tuple ds) y u he ry
  have hu := hr.un
  have h1 := SeqAt.depth_of_shaped sd
  have h2 : min (PyData.depthAll ds) d.depth ≤ d.depth := Nat.min_le_right _ _
  exact SeqAt.in_tuple_reads r2 r1 (SeqAt.canLay_of_shaped se) (SeqAt.canLay_of_shaped sd) (by omega) ⟨.bl _, H, I, rfl, q⟩

/-! ### the five names -/
def five : List Str := ["a", "b", "shelf", "move", "out"]
structure Way5 (w : Way) : Prop where
  one : w.1 ∈ five
  other : w.2.1 ∈ five
  ne : w.1 ≠ w.2.1
  pos : 1 ≤ w.2.2
theorem five_name : ∀ z ∈ five, 1 ≤ z.length ∧ z.length ≤ 8 ∧ (z.cps.toList.all fun c => letters.cps.toList.contains c) = true := by decide +kernel
theorem nameOk {z : Str} (h : z ∈ five) : NameOk z := by
  obtain ⟨h1, h2, h3⟩ := five_name z h
  refine ⟨h1, h2, fun c hc => ?_⟩
  have := List.all_eq_true.mp h3 c hc
  simpa using this
theorem Way5.ok {w : Way} (h : Way5 w) : WayOk w := ⟨nameOk h.one, nameOk h.other, h.ne, h.pos⟩
theorem five_small : ∀ z ∈ five, (z.cps.toList.all fun c => decide (c < 16 ^ 8)) = true ∧ z.length ≤ 8 := by decide +kernel
def rtext (u v : Str) : Str := tupleText ([u, v].map reprText)
theorem rtext_inj : ∀ u ∈ five, ∀ v ∈ five, ∀ u' ∈ five, ∀ v' ∈ five, rtext u v = rtext u' v' → u = u' ∧ v = v' := by decide +kernel
theorem five_cost {u v : Str} (hu : u ∈ five) (hv : v ∈ five) : (∀ y ∈ [u, v], ∀ c ∈ y.cps.toList, c < 16 ^ 8) ∧ fmtCost [u, v] + 7 ≤ sizeLine := by
  obtain ⟨a1, a2⟩ := five_small u hu
  obtain ⟨b1, b2⟩ := five_small v hv
  refine ⟨fun y hy c hc => ?_, ?_⟩
  · rcases List.mem_cons.mp hy with e | hy
    · rw [e] at hc
      have := List.all_eq_true.mp a1 c hc
      exact of_decide_eq_true this
    · rw [List.mem_singleton.mp hy] at hc
      have := List.all_eq_true.mp b1 c hc
      exact of_decide_eq_true this
  · rw [fmtCost_cons, fmtCost_cons]
    have e : fmtCost [] = 0 := rfl
    rw [e, sizeLine_eq]
    omega
end Ku
/-! Promises of defs that run where no repr is under way: repr(t), t a tuple of texts, is known to the sign. -/
namespace Ku
open PySem PySem.Spec PyProof.Rows L2 SlX

/-- a promise kept where no repr is under way -/
def FnG (P : Program) (w : World) (K : PySem.W.Frag) (mg : Str → Option Value) (base : Heap) (k : Nat) (f : Addr) (sp : Sp) : Prop :=
  ∀ (A : Around) (outer : List Env) (s : Shared) (H : Hp) (us : List Value) (vs : List V) (Q : VK), A.guards = some [] → Room k A → Env0 P w K mg base A outer s H → Vals vs us → sp vs H Q E0 →
    codeAny (model P w) A (.call (.ref f) ⟨us, []⟩) (CR CX0 outer P w H s Q E0) s
theorem fn_g {P : Program} {w : World} {K : PySem.W.Frag} {mg : Str → Option Value} {base : Heap} {x qual : Str} {st : Stmt} {f : Addr} {fd : FuncData} {N ps : List Str} {k : Nat} {sp : Sp} (F : Fun K x qual st f fd) (S : FnScope N ps (defScope st)) (hb : Binds K fd ps [])
    (len : ∀ vs H Q E, sp vs H Q E → vs.length = ps.length)
    (hbody : ∀ (cdv : Value) (A : Around) (outer : List Env) (s : Shared) (H : Hp) (vs : List V) (Q : VK), A.guards = some [] → Room k (A.deeper (envOfC qual (defScope st) s.heap.objs.size f cdv)) → sp vs H Q E0 →
      ∃ t, PSs (cxOf CX0 P w K mg base N qual (defScope st) f cdv A outer s H E0).nox (defBody st) t ∧ t { nx := fun _ H' => Q .non H', rt := Q } (start N vs) H) : FnG P w K mg base (k + 1) f sp := by
  intro A outer s H us vs Q hg hr e0 r hsp
  refine run_here F S hb (len _ _ _ _ hsp) hr e0 r fun cdv hr2 => ?_
  obtain ⟨t, h, q⟩ := hbody cdv A outer s H vs Q hg hr2 hsp
  exact ⟨t, h.nox, q⟩
section
variable {X : Cx} {pins : List (Addr × Obj)} {σ : L2.St} {H : Hp} {s : Shared} {k n : Nat} {f g C : Addr} {sp : Sp} {x : Str} {e a b : Expr} {es : List Expr} {ta tb : TE} {t : TA} {p pos : Pos}
theorem run_g {A : Around} {Q : VK} {us : List Value} {ws : List V} (F : FnG X.prog X.w X.K X.mg X.base n g sp) (hg : A.guards = some []) (hr : Room n A) (e0 : Env0 X.prog X.w X.K X.mg X.base A X.stack s H) (I : Inv X pins σ H s) (r : Vals ws us) (h : sp ws H Q E0) :
    codeAny (model X.prog X.w) A (.call (.ref g) ⟨us, []⟩) (fun r s' => match r with | .ok (.ret v) => EP X pins σ Q v s' | .ok _ => False | .error e => X.xe e s') s := by
  refine codeAny_mono (F A X.stack s H us ws Q hg hr e0 r h) fun r s' hq => ?_
  cases r with
  | error e => exact False.elim hq
  | ok fl =>
    cases fl with
    | ret u => exact I.after hq
    | next => exact False.elim hq
    | brk => exact False.elim hq
    | cont => exact False.elim hq
/-- a def of the module that keeps its promise there -/
structure DefG (P : Program) (w : World) (K : PySem.W.Frag) (mg : Str → Option Value) (base : Heap) (x : Str) (k : Nat) (sp : Sp) : Prop where
  ex : ∃ f, mg x = some (.ref f) ∧ PySem.W.keepIn K (.ref f) = true ∧ FnG P w K mg base k f sp
/-- its call -/
theorem pe_defG (D : DefG X.prog X.w X.K X.mg X.base x k sp) (hgd : X.A.guards = some []) (hr : Room k X.A) (ha : PA X (e :: es) t) (hg : Gl X x := by rfl) (hd : (x == ("__debug__" : Str)) = false := by decide)
    (he : starEach (e :: es) X.env = (false, eval e X.env) :: starEach es X.env := by rfl) (hpl : (backTo pos (starEach es X.env)).any (·.1) = false := by rfl) : PE X (.Call (.Name x p) (e :: es) [] pos) (fun σ H Q => t σ H fun vs H1 => sp vs H1 Q E0) := by
  obtain ⟨f, hm, hk, F⟩ := D.ex
  refine ⟨fun pins s σ H Q I h => ?_⟩
  refine wpAny_Call_Name_kw (ld_glob I hg hm ?_ hd)
  refine PySem.W.callWith_K (h₀ := X.base) I.ok.mod.kin hk (thn (ha.run pos pins s σ H _ I h) fun us s1 ⟨vs, H1, I1, r, q⟩ => ⟨I1.kIn, ?_⟩) he hpl
  exact wpAny_call (run_g F hgd hr I1.env0 I1 r q)
/-- x[y] by such a __getitem__ -/
theorem pe_ixOwnG (hs : PySem.W.findIn X.K (.ref C) "__getitem__" = some (some (.ref g))) (hf : PySem.W.fnIn X.K g = true) (hfn : PySem.W.isFn X.K (.ref g) = true) (F : FnG X.prog X.w X.K X.mg X.base n g sp) (hgd : X.A.guards = some []) (hr : Room (n + 1) X.A)
    (ha : PE X a ta) (hb : PE X b tb) (hi : OwnIx b) : PE X (.Subscript a b pos) (tOp (rIxOwn C sp E0) ta tb) := by
  refine ⟨fun pins s σ H Q I h => ?_⟩
  refine Subscript_ (binT ha hb I h fun v u s2 x y H2 I2 rx ry q => ?_)
  obtain ⟨a', dx, vs, rfl, ha', q⟩ := q
  cases (show v = Value.ref a' from rx)
  obtain ⟨sl, od, _, J, _⟩ := slt_inst I2 ha'
  obtain ⟨m, hF⟩ := I2.fr
  refine PySem.W.sub_K hF I2.ok.mod.kin J hs hf hfn ?_ (hi a' u)
  exact wpAny_call (run_g (us := [.ref a', u]) (ws := [.ref a', y]) F hgd hr.in1 I2.env0.in1 I2 (.cons rfl (.cons ry .nil)) q)
/-- repr(t), t a tuple of texts -/
def rReprT (K : PySem.W.Frag) : List V → Hp → VK → Prop := fun xs H Q => ∃ (a : Addr) (l : List Str), xs = [.ref a] ∧ SqT K H a (l.map V.str) ∧ (∀ y ∈ l, ∀ c ∈ y.cps.toList, c < 16 ^ 8) ∧ fmtCost l + 7 ≤ sizeLine ∧ Q (.str (tupleText (l.map reprText))) H
theorem cr_reprT (hgd : X.A.guards = some []) (hr : Room k X.A) : CallR X (.builtin "repr") (rReprT X.K) := by
  intro pins s σ H xs us Q I rv h
  obtain ⟨a, l, rfl, ht, hc, hz, q⟩ := h
  obtain rfl := Vals.ref1 rv
  obtain ⟨its, rv, ⟨o, ho, hcl, n, hd⟩, _⟩ := I.tuple ht
  have hp := fmt_piled l hc
  have htx := fmt_text (l.map reprText)
  have hu := hr.units
  have hT : s.TypeIs (.ref a) "tuple" := ⟨o, ho, hcl⟩
  refine Calls.call_function_entry PySem.F.kind_repr PySem.F.plain_repr PySem.F.entry_repr (PySem.F.args_repr1 _) ?_
  unfold Builtin.«repr»
  refine wpAny_bind (m := oneArg "repr" _) (wpAny_pure ?_)
  refine wpAny_bind (wpAny_cRoomFor (show X.A.units + 1 < cLine by omega) ?_)
  refine wpAny_bind (wpAny_specialOf hT PySem.F.slot_tuple_repr.lookup ?_)
  refine PySem.W.KFB.if_not rfl ?_
  refine wpAny_bind (m := callSpecialIfBound? (.ref a) (Str.ofString "__repr__") _) (wpAny_callSpecialIfBound?_slotG (name := Str.ofString "__repr__") hT PySem.F.slot_tuple_repr ?_)
  refine call_tuple_repr (g := []) (ts := l.map reprText) hT hgd (fun c hc => by cases hc) ho hd (repr_all rv fun y hy => ?_) (fun u tk => ?_) (by omega)
  · have h1 := StrLaws.reprText_len y (hc y hy)
    have h2 := fmtCost_mem hy
    omega
  · refine wpAny_bind (wpAny_isInstance (typeIs_str _ _ _) isSubtype_str_str ?_)
    refine PySem.W.KFB.if_so rfl ?_
    exact wpAny_pure ⟨_, rfl, .str (tupleText (l.map reprText)), H, I.tok _, ⟨u, rfl⟩, q⟩
end
end Ku
/-! set(xs) and sorted(set), xs a list of tuples of ints and texts. -/
namespace Ku
open PySem PySem.Spec PyProof.Rows L2
/-- the set at a, without the tuples themselves -/
def SetT0 (P : Program) (w : World) (h : Heap) (a : Addr) (L : List (Addr × List Key)) : Prop :=
  ∃ (es : Array (Int × Value)) (ep : Nat) (t : SetTable), (∃ o, h.get? a = some o ∧ o.ExactSet ∧ o.data = .set es ep t) ∧ es.toList = rowsOf P w L ∧ TabOk t (L.map fun p => thash P w p.2) ∧ (L.map (·.2)).Nodup ∧
    (w.params.followText "set-order" = true ∨ t.led = true) ∧ L.length * 5 < t.mask * 3 ∧ L.length < 64
def SetTO (P : Program) (w : World) (a : Addr) (L : List (Addr × List Key)) : HO := .ext fun h => SetT0 P w h a L
theorem SetTR.t0 {P : Program} {w : World} {h : Heap} {a : Addr} {L : List (Addr × List Key)} {es : Array (Int × Value)} {ep : Nat} {t : SetTable} (R : SetTR P w h a L es ep t) : SetT0 P w h a L :=
  ⟨es, ep, t, R.ob, R.rows, R.tab, R.nd, R.led, R.room, R.few⟩
theorem SetT0.full {P : Program} {w : World} {h : Heap} {a : Addr} {L : List (Addr × List Key)} (R : SetT0 P w h a L) (ht : ∀ p ∈ L, IsT P w h p.2 p.1) : ∃ es ep t, SetTR P w h a L es ep t := by
  obtain ⟨es, ep, t, h1, h2, h3, h4, h6, h7, h8⟩ := R
  exact ⟨es, ep, t, h1, h2, h3, h4, ht, h6, h7, h8⟩
theorem setTO_new {P : Program} {w : World} {H : Hp} {h : Heap} {a : Addr} {L : List (Addr × List Key)} (R : SetT0 P w h a L) : ObjOk P w H h a (SetTO P w a L) := by
  obtain ⟨es, ep, t, ⟨o, ho, r⟩, q⟩ := id R
  refine ⟨R, ⟨o, ho⟩, fun h1 h2 p k => ?_⟩
  obtain ⟨es', ep', t', ⟨o', ho', r'⟩, q'⟩ := p
  exact ⟨es', ep', t', ⟨o', k o' ho', r'⟩, q'⟩
theorem items_of_keys {P : Program} {w : World} : ∀ {k : List Key} {us : List Value}, Vals (k.map kV) us → ItemsAre (mixKind P w) k us
  | [], _, v => by
    rw [List.map_nil] at v
    cases v
    exact .nil
  | n :: k, _, v => by
    rw [List.map_cons] at v
    cases v with
    | cons r t => exact .cons (kV_is r) (items_of_keys t)
section
variable {X : Cx}
theorem Inv.isT {pins : List (Addr × Obj)} {σ : L2.St} {H : Hp} {s : Shared} {b : Addr} {k : List Key} (I : Inv X pins σ H s) (h : H b = some (.tup (k.map kV))) : IsT X.prog X.w s.heap k b := by
  obtain ⟨its, r, ⟨o, ho, hc, n, hd⟩, _⟩ := I.tuple (SqT.of h)
  exact ⟨o, its.toArray, n, ho, hc, hd, by simpa using items_of_keys r⟩
/-- set(xs) -/
def rSetT (K : PySem.W.Frag) (P : Program) (w : World) : List V → Hp → VK → Prop := fun xs H Q => ∃ (l : Addr) (ks : List (Addr × List Key)), xs = [V.ref l] ∧ SqL K H l ((ks.map (·.1)).map V.ref) ∧ (∀ p ∈ ks, H p.1 = some (.tup (p.2.map kV))) ∧ ks.length < 64 ∧
  ∀ a L, H a = none → (∀ p ∈ L, p ∈ ks) → (∀ p ∈ ks, p.2 ∈ L.map (·.2)) → (L.map (·.2)).Nodup → L.length < 64 → Q (.ref a) (upd H a (SetTO P w a L))
theorem cr_setT {k : Nat} (hc : X.calm = true) (hr : Room k X.A) : CallR X (.type "set") (rSetT X.K X.prog X.w) := by
  intro pins s σ H xs us Q I r h
  obtain ⟨l, ks, rfl, hl, hk, hf, q⟩ := h
  rw [Vals.ref1 r]
  obtain ⟨its, rv, pl, hz⟩ := I.list hl
  have hn : H s.heap.objs.size = none := I.hok.fresh (Nat.le_refl _)
  have hu := hr.units
  have e := refs_vals rv
  refine call_set_tups (P := X.prog) (w := X.w) ks (I.ok.hd hc) pl.isList (by rw [e, List.map_map]; simp) (fun p hp => Inv.isT I (hk p hp)) hf (by omega) fun h' tk L es ep t R g k => ?_
  refine ⟨.ref s.heap.objs.size, upd H s.heap.objs.size (SetTO X.prog X.w s.heap.objs.size L), I.laid (t' := tk) k (Nat.le_refl _) (setTO_new R.t0), rfl, q _ L hn (fun p hp => ?_) (fun p hp => ?_) R.nd R.few⟩
  · exact List.mem_of_mem_take (g.sub p hp)
  · exact g.all p (by rw [List.take_length]; exact hp)
/-- sorted(set) -/
def rSortedT (P : Program) (w : World) (A : Around) : List V → Hp → VK → Prop := fun vs H Q => ∃ (a : Addr) (L : List (Addr × List Key)), vs = [V.ref a] ∧ H a = some (SetTO P w a L) ∧ (∀ p ∈ L, H p.1 = some (.tup (p.2.map kV))) ∧ Shaped (L.map (·.2)) ∧
  ∀ rows : List (List Key), rows.Perm (L.map (·.2)) → rSortR (PySem.W.dataLe false rowD) rows Q H
theorem order_refs {H : Hp} {L : List (Addr × List Key)} (hL : ∀ p ∈ L, H p.1 = some (.tup (p.2.map kV))) : ∀ (vs : List Value), (∀ v ∈ vs, ∃ q ∈ L, v = Value.ref q.1) → ∃ L1 : List (Addr × List Key), vs = (L1.map (·.1)).map Value.ref ∧ ∀ q ∈ L1, q ∈ L
  | [], _ => ⟨[], rfl, fun q hq => by cases hq⟩
  | v :: vs, hv => by
    obtain ⟨q, hq, e⟩ := hv v List.mem_cons_self
    obtain ⟨L1, e1, hs⟩ := order_refs hL vs fun u hu => hv u (List.mem_cons_of_mem _ hu)
    refine ⟨q :: L1, by rw [List.map_cons, List.map_cons, e, e1], fun r hr => ?_⟩
    rcases List.mem_cons.mp hr with z | z
    · rw [z]; exact hq
    · exact hs r z
theorem key_inj : ∀ {k k' : List Key}, k.map kV = k'.map kV → k = k'
  | [], [], _ => rfl
  | [], _ :: _, e => by simp at e
  | _ :: _, [], e => by simp at e
  | a :: k, b :: k', e => by
    rw [List.map_cons, List.map_cons, List.cons.injEq] at e
    have h1 : a = b := by
      cases a <;> cases b <;> simp [kV] at e ⊢ <;> exact e.1
    rw [h1, key_inj e.2]
theorem krows_of {H : Hp} {L : List (Addr × List Key)} : ∀ {L1 : List (Addr × List Key)}, (∀ q ∈ L1, H q.1 = some (.tup (q.2.map kV))) → KRows H (L1.map (·.1)) (L1.map (·.2))
  | [], _ => .nil
  | q :: L1, h => .cons (h q List.mem_cons_self) (krows_of (L := L) fun r hr => h r (List.mem_cons_of_mem _ hr))
theorem Shaped.perm {rows rows' : List (List Key)} (h : Shaped rows) (p : rows'.Perm rows) : Shaped rows' := fun r hr => ⟨(h r (p.mem_iff.mp hr)).1, fun r' hr' => (h r (p.mem_iff.mp hr)).2 r' (p.mem_iff.mp hr')⟩
theorem cr_sortedT {k : Nat} (hc : X.calm = true) (hr : Room k X.A) : CallR X (.builtin "sorted") (rSortedT X.prog X.w X.A) := by
  intro pins s σ H vs us Q I r h
  obtain ⟨a, L, rfl, ha, hk, hsh, q⟩ := h
  have R0 : SetT0 X.prog X.w s.heap a L := (I.hok a _ ha).1
  obtain ⟨es, ep, t, R⟩ := SetT0.full R0 fun p hp => Inv.isT I (hk p hp)
  rw [Vals.ref1 r]
  obtain ⟨o, ho, hex, hd⟩ := R.ob
  have hsz := R.size
  have hfew := R.few
  have hu := hr.units
  have hh : X.A.in1.handled = none := I.ok.hd hc
  refine sorted_collects (args_sorted1 _) (collect_set (A := X.A.in1) hh ⟨o, ho, hex.1, hd⟩ R.fits (by unfold scanBound; omega) R.tab.ris R.led fun s1 vs k1 hz g1 o1 pm => ?_)
  have I1 : Inv X pins σ H s1 := I.call' (ch := []) o1 (Un.kept k1) (I.hok.kept k1) (by rw [g1]; exact I.bare) (fun _ z => nomatch z)
  have hes : es.toList.map (·.2) = L.map fun q => Value.ref q.1 := by
    rw [R.rows]
    unfold rowsOf
    rw [List.map_map] <;> rfl
  rw [hes] at pm
  obtain ⟨L1, e1, hs1⟩ := order_refs hk vs fun v hv => by
    obtain ⟨q, hq, e⟩ := List.mem_map.mp (pm.mem_iff.mp hv)
    exact ⟨q, hq, e.symm⟩
  have one : ∀ q ∈ L, ∀ r ∈ L, q.1 = r.1 → q = r := fun q hq r hr e => by
    have a1 := hk q hq
    have a2 := hk r hr
    rw [e, a2] at a1
    have e2 : r.2.map kV = q.2.map kV := HO.tup.inj (Option.some.inj a1)
    exact Prod.ext e (key_inj e2).symm
  have nL : L.Nodup := nodup_of_map R.nd
  have nref : (L.map fun q => Value.ref q.1).Nodup := by
    refine List.pairwise_map.mpr (List.Pairwise.imp_of_mem (fun {q r} hq hr hne e => ?_) nL)
    injection e with e
    exact hne (one q hq r hr e)
  have n1 : L1.Nodup := by
    have z : ((L1.map (·.1)).map Value.ref).Nodup := by rw [← e1]; exact pm.nodup_iff.mpr nref
    exact nodup_of_map (nodup_of_map z)
  have pL : L1.Perm L := by
    refine (List.perm_ext_iff_of_nodup n1 nL).mpr fun q => ⟨hs1 q, fun hq => ?_⟩
    have hm : Value.ref q.1 ∈ vs := pm.mem_iff.mpr (List.mem_map.mpr ⟨q, hq, rfl⟩)
    rw [e1, List.map_map] at hm
    obtain ⟨r, hr, e⟩ := List.mem_map.mp hm
    injection e with e
    rw [← one r (hs1 r hr) q hq e]
    exact hr
  have kr : KRows H (L1.map (·.1)) (L1.map (·.2)) := krows_of (L := L) fun q hq => hk q (hs1 q hq)
  have hl : (L1.map (·.2)).length ≤ sizeLine := by rw [List.length_map, pL.length_eq, sizeLine_eq]; omega
  refine ⟨by rw [e1, List.length_map, List.length_map, pL.length_eq, sizeLine_eq]; omega, ?_⟩
  rw [e1]
  exact sort_laid0 I1 kr (hsh.perm (pL.map _)) hl (show X.A.units + 1 + 1 + 1 < cLine by omega) (q _ (pL.map _))
end
end Ku
/-! The methods of Costs. -/
namespace Ku
open PySem L2 SlX StX
theorem mem_least {cs : List Way} {w : Way} (h : w ∈ lstC cs) : w ∈ cs := ((Kl.mem_least slo_str (a := w.1) (b := w.2.1) (c := w.2.2)).mp h).1
theorem turn_ok {cs : List Way} (hc : ∀ c ∈ cs, WayOk c) : ∀ c ∈ Kp.turn cs, WayOk c := by
  intro c h
  obtain ⟨w, hw, rfl⟩ := List.mem_map.mp h
  have := hc w hw
  exact ⟨this.other, this.one, fun e => this.ne e.symm, this.pos⟩
def OptI : Option Int → V
  | none => .non
  | some d => .int d
def PathV (H : Hp) : Option (List Str) → V → Prop
  | none, z => z = .non
  | some p, z => ∃ n, z = .ref n ∧ H n = some (.tup (p.map V.str))
section
variable {P : Program} {w : World} {K : PySem.W.Frag} {mg : Str → Option Value} {base : Heap} {C : Addr}
def spPathM (C : Addr) : Sp := fun vs H Q _ => ∃ (a : Addr) (u v : Str) (cs : List Way), vs = [.ref a, .str u, .str v] ∧ CostsAt H a C cs ∧ cs.length ≤ 900 ∧ (∀ c ∈ cs, WayOk c) ∧ ∀ H' z, Same H H' → PathV H' (Kp.path cs u v) z → Q z H'
def spCallM (C : Addr) : Sp := fun vs H Q _ => ∃ (a : Addr) (u v : Str) (cs : List Way), vs = [.ref a, .str u, .str v] ∧ CostsAt H a C cs ∧ cs.length ≤ 900 ∧ (∀ c ∈ cs, WayOk c) ∧ ∀ H', Same H H' → Q (OptI (Kp.dist cs u v)) H'
def spTurned (C : Addr) : Sp := fun vs H Q _ => ∃ (a : Addr) (cs : List Way), vs = [.ref a] ∧ CostsAt H a C cs ∧ (∀ c ∈ cs, WayOk c) ∧ ∀ H' b, Same H H' → CostsAt H' b C (lstC (Kp.turn cs)) → Q (.ref b) H'
def spContains (C : Addr) : Sp := fun vs H Q _ => ∃ (a p : Addr) (cs : List Way) (c : Way), vs = [.ref a, .ref p] ∧ CostsAt H a C cs ∧ (∀ c ∈ cs, WayOk c) ∧ RowAt H p c ∧ c ∈ cs ∧ ∀ H', Same H H' → Q (.bl true) H'
def spGet (C : Addr) : Sp := fun vs H Q _ => ∃ (a q : Addr) (cs : List Way) (c : Way), vs = [.ref a, .ref q] ∧ CostsAt H a C cs ∧ (∀ c ∈ cs, Way5 c) ∧ TabC cs ∧ PrAt H q (Kl.pr c) ∧ c ∈ cs ∧ ∀ H', Same H H' → Q (.int c.2.2) H'
def spOr (C : Addr) : Sp := fun vs H Q _ => ∃ (a b : Addr) (cs ds : List Way), vs = [.ref a, .ref b] ∧ CostsAt H a C cs ∧ CostsAt H b C ds ∧ (∀ c ∈ cs, WayOk c) ∧ (∀ c ∈ ds, WayOk c) ∧ cs.length + ds.length ≤ 1000 ∧ ∀ H' r, Same H H' → CostsAt H' r C (lstC (cs ++ ds)) → Q (.ref r) H'
def spEq (C : Addr) : Sp := fun vs H Q _ => ∃ (a b : Addr) (cs ds : List Way), vs = [.ref a, .ref b] ∧ CostsAt H a C cs ∧ CostsAt H b C ds ∧ (∀ c ∈ cs, WayOk c) ∧ (∀ c ∈ ds, WayOk c) ∧ ∀ H', Same H H' → Q (.bl (decide (cs = ds))) H'

abbrev NM : List Str := ["self", "one", "other"]
theorem scPathM : FnScope NM ["self", "one", "other"] (defScope sPath) := ⟨rfl, rfl, rfl, by decide +kernel, rfl, by decide +kernel, by decide +kernel⟩
theorem scCallM : FnScope NM ["self", "one", "other"] (defScope sCall) := ⟨rfl, rfl, rfl, by decide +kernel, rfl, by decide +kernel, by decide +kernel⟩
/-- found.get(other, (None, None)) -/
theorem get_found {H H' : Hp} {D T : Addr} {f : Fnd} (h : FoundAt H D f) (hT : H T = none) (eH : H' = upd H T (.tup [.non, .non])) (v : Str) {Q : VK} {i : Int}
    (q0 : Kp.look f v = none → Same H H' → Q .non H') (q1 : ∀ d p n, Kp.look f v = some (d, p) → Same H H' → H' n = some (.tup (p.map V.str)) → Q (if i = 0 then .int d else .ref n) H') (hi : i = 0 ∨ i = 1) :
    ∃ o, DGet H' D (.str v) o ∧ ∃ a xs j z, o.getD (.ref T) = .ref a ∧ V.int i = V.int j ∧ SqT K H' a xs ∧ atI xs j = some z ∧ Q z H' := by
  obtain ⟨kvs, h1, h2⟩ := h
  have s : Same H H' := by rw [eH]; exact Same.upd hT
  refine ⟨valV kvs (.inr v), .inl ⟨kvs, .inr v, .inl (s _ _ h1), rfl, rfl⟩, ?_⟩
  rcases ents_look (EntsAt.same (SameT.of s) h2) v with ⟨l1, v1⟩ | ⟨d, p, pa, n, l1, v1, h3, h4⟩
  · rw [v1]
    refine ⟨T, [.non, .non], i, .non, rfl, rfl, SqT.of (by rw [eH, upd_same]), ?_, q0 l1 s⟩
    rcases hi with rfl | rfl <;> rfl
  · rw [v1]
    refine ⟨pa, _, i, _, rfl, rfl, SqT.of h3, ?_, q1 d p n l1 s h4⟩
    rcases hi with rfl | rfl <;> rfl
theorem ok_pathM {f : Addr} {fd : FuncData} (F : Fun K "path" "Costs.path" sPath f fd) (T : CC K mg C) (D1 : Def P w K mg base "paths_from" 1 ["costs", "one"] spPaths) : FnOk P w K mg base CX0 2 f fd ["self", "one", "other"] (spPathM C) := by
  refine F.ok scPathM (fun vs H Q E h => ?_) (fun cdv A outer s H vs Q E hr h => ?_)
  · obtain ⟨a, u, v, cs, rfl, _⟩ := h
    rfl
  · obtain ⟨a, u, v, cs, rfl, ⟨dx, t, hs, ht⟩, hcl, hc, k⟩ := h
    have hu := hu_of hr
    obtain ⟨p, hp⟩ := T.slot
    refine ⟨_, pss_one (ps_ret (pe_ix ix_tup (pe_dget2 hu (pe_def D1 hr (pa_cons (pe_sl (pv 0)) (pa_cons (pv 1) pa_nil))) (pv 2) (pe_tup (pa_cons pe_non (pa_cons pe_non pa_nil))) ⟨rfl, rfl, rfl, rfl⟩) pe_int (fun _ _ => rfl))), ?_⟩
    refine ⟨_, rfl, a, C, dx, p, _, 0, _, rfl, hs, T.sc, hp, rfl, _, rfl, t, u, cs, rfl, ht, hcl, hc, fun H1 D s1 FD FI => ?_⟩
    obtain ⟨kvs, h1, h2⟩ := id FD
    refine ⟨D, rfl, .inl ⟨kvs, .inl h1⟩, _, rfl, (by show (2 : Nat) ≤ sizeLine; decide), fun T2 hT2 => ?_⟩
    obtain ⟨o, g, a2, xs, j, z, e1, e2, e3, e4, e5⟩ := get_found (K := K) (i := 1) (Q := Q) FD hT2 rfl v (fun l s2 => k _ _ (s1.trans s2) (by unfold Kp.path; rw [l]; rfl)) (fun d p2 n l s2 hn => k _ _ (s1.trans s2) (by unfold Kp.path; rw [l]; exact ⟨n, rfl, hn⟩)) (.inr rfl)
    exact ⟨o, g, a2, xs, j, z, e1, e2, e3, e4, e5⟩
theorem ok_callM {f : Addr} {fd : FuncData} (F : Fun K "__call__" "Costs.__call__" sCall f fd) (T : CC K mg C) (D1 : Def P w K mg base "paths_from" 1 ["costs", "one"] spPaths) : FnOk P w K mg base CX0 2 f fd ["self", "one", "other"] (spCallM C) := by
  refine F.ok scCallM (fun vs H Q E h => ?_) (fun cdv A outer s H vs Q E hr h => ?_)
  · obtain ⟨a, u, v, cs, rfl, _⟩ := h
    rfl
  · obtain ⟨a, u, v, cs, rfl, ⟨dx, t, hs, ht⟩, hcl, hc, k⟩ := h
    have hu := hu_of hr
    obtain ⟨p, hp⟩ := T.slot
    refine ⟨_, pss_one (ps_ret (pe_ix ix_tup (pe_dget2 hu (pe_def D1 hr (pa_cons (pe_sl (pv 0)) (pa_cons (pv 1) pa_nil))) (pv 2) (pe_tup (pa_cons pe_non (pa_cons pe_non pa_nil))) ⟨rfl, rfl, rfl, rfl⟩) pe_int (fun _ _ => rfl))), ?_⟩
    refine ⟨_, rfl, a, C, dx, p, _, 0, _, rfl, hs, T.sc, hp, rfl, _, rfl, t, u, cs, rfl, ht, hcl, hc, fun H1 D s1 FD FI => ?_⟩
    obtain ⟨kvs, h1, h2⟩ := id FD
    refine ⟨D, rfl, .inl ⟨kvs, .inl h1⟩, _, rfl, (by show (2 : Nat) ≤ sizeLine; decide), fun T2 hT2 => ?_⟩
    obtain ⟨o, g, a2, xs, j, z, e1, e2, e3, e4, e5⟩ := get_found (K := K) (i := 0) (Q := Q) FD hT2 rfl v (fun l s2 => by have := k _ (s1.trans s2); unfold Kp.dist at this; rw [l] at this; exact this) (fun d p2 n l s2 hn => by have := k _ (s1.trans s2); unfold Kp.dist at this; rw [l] at this; exact this) (.inl rfl)
    exact ⟨o, g, a2, xs, j, z, e1, e2, e3, e4, e5⟩

/-! ### turned -/
abbrev NT : List Str := ["self", "costs", "one", "other", "cost"]
theorem scTurned : FnScope NT ["self"] (defScope sTurned) := ⟨rfl, rfl, rfl, by decide +kernel, rfl, by decide +kernel, by decide +kernel⟩
theorem ok_turned {f : Addr} {fd : FuncData} (F : Fun K "turned" "Costs.turned" sTurned f fd) (T : Cls P w K mg base C) : FnOk P w K mg base CX0 9 f fd ["self"] (spTurned C) := by
  refine F.ok scTurned (fun vs H Q E h => ?_) (fun cdv A outer s H vs Q E hr h => ?_)
  · obtain ⟨a, cs, rfl, _⟩ := h
    rfl
  · obtain ⟨a, cs, rfl, ⟨dx, t, hs, ⟨ps, hl, ht, hr2⟩⟩, hc, k⟩ := h
    obtain ⟨p, hp⟩ := T.cc.slot
    have len1 : ps.length = cs.length := Paired.length hr2
    refine ⟨_, pss_cons (ps_setLc (i := 1) (own := [("one", 2), ("other", 3), ("cost", 4)]) (g := gTup K 3 (gCons (gName 2) (gCons (gName 3) (gCons (gName 4) gNil)))) (tt := tYes) rfl scTurned.nd rfl rfl (sw_true rfl rfl rfl (by decide +kernel))
        (pi_tup (pe_sl (pv 0))) (blkOk_by (own := [("one", 2), ("other", 3), ("cost", 4)]) (N := NT) (sc := defScope sTurned) (by decide +kernel))
        (fun _ _ _ _ _ => pg_tup (n := 3) rfl (pgs_cons (pg_name (i := 2) scTurned.nd rfl (Or.inl rfl)) (pgs_cons (pg_name (i := 3) scTurned.nd rfl (Or.inl rfl)) (pgs_cons (pg_name (i := 4) scTurned.nd rfl (Or.inl rfl)) pgs_nil))))
        (fun _ _ _ _ _ => pts_nil) (fun _ _ _ _ _ => pe_tup (pa_cons (pv 3) (pa_cons (pv 2) (pa_cons (pv 4) pa_nil)))))
      (pss_one (ps_ret (pe_newS T hr (pv 1)))), ?_⟩
    refine ⟨_, rfl, a, C, dx, p, _, 0, _, rfl, hs, T.cc.sc, hp, rfl, t, rfl, ⟨_, SqT.of ht⟩, fun D hD => ?_⟩
    refine lc_it (walk_tup (xs := ps.map V.ref)) (fun i H' => Same H H' ∧ ∃ rp : List Addr, RowsAt H' rp ((cs.take i).map fun w => (w.2.1, w.1, w.2.2)) ∧ H' D = some (.lst (rp.map V.ref))) ⟨Same.upd hD, [], .nil, upd_same⟩ (fun _ _ _ z => SqT.of (z.1 _ _ ht)) ?_ ?_
    · rintro i x H2 H1 hi ⟨s1, rp, hrp, eD⟩ ⟨rfl, ex⟩
      rw [List.getElem?_map] at ex
      obtain ⟨pc, ep, rfl⟩ := Option.map_eq_some_iff.mp ex
      obtain ⟨c, ec, hpc⟩ := paired_get hr2 ep
      rw [List.length_map] at hi
      refine ⟨pc, _, rfl, SqT.of (s1 _ _ hpc), rfl, _, _, rfl, _, _, rfl, _, _, rfl, ⟨rfl, rfl, ?_⟩⟩
      refine ⟨_, rfl, _, rfl, _, rfl, (by show (3 : Nat) ≤ sizeLine; decide), fun b hb => ?_⟩
      have lenr : rp.length = i := by
        have := Paired.length hrp
        rw [List.length_map, List.length_take] at this
        omega
      have nDb : D ≠ b := ne_of_none eD hb
      refine ⟨rp.map V.ref, by rw [upd_ne nDb]; exact eD, by rw [List.length_map, lenr]; exact small1000 (by omega), ?_⟩
      have sT : SameT H1 (upd (upd H1 b (.tup [.str c.2.1, .str c.1, .int c.2.2])) D (.lst (rp.map V.ref ++ [.ref b]))) := by
        refine SameT.trans (SameT.of (Same.upd hb)) (SameT.upd fun xs z => ?_)
        rw [upd_ne nDb, eD] at z
        cases z
      refine ⟨Same.put (Same.put s1 (Same.nope s1 hb)) hD, rp ++ [b], ?_, by rw [upd_same, List.map_append]; rfl⟩
      rw [List.take_succ, ec, List.map_append]
      refine paired_snoc (hrp.sameT sT) ?_
      show upd _ D _ b = some _
      rw [upd_ne (Ne.symm nDb), upd_same]
      rfl
    · rintro H1 ⟨s1, rp, hrp, eD⟩
      rw [show (ps.map V.ref).length = cs.length by rw [List.length_map, len1], List.take_length] at hrp
      refine ⟨_, rfl, D, _, rfl, .inr (SqL.of eD), rp, Kp.turn cs, rfl, hrp, turn_ok hc, by show (cs.map _).length ≤ 1000; rw [List.length_map]; omega, fun H' b s2 cb => k H' b (s1.trans s2) cb⟩

/-! ### __iter__, __len__ -/
theorem scIter : FnScope ["self"] ["self"] (defScope sIter) := ⟨rfl, rfl, rfl, by decide +kernel, rfl, by decide +kernel, by decide +kernel⟩
theorem bt_iter : bootBuiltins "iter" = some (.builtin "iter") := by decide +kernel
theorem ok_iter {f : Addr} {fd : FuncData} (F : Fun K "__iter__" "Costs.__iter__" sIter f fd) (hb : Binds K fd ["self"] []) (G : Glb mg) (T : CC K mg C) : IterOf P w K mg base C f 1 := by
  intro A outer s H a dx t ys hr e0 hs ht
  obtain ⟨p, hp⟩ := T.slot
  refine run_here (k := 0) F scIter hb (vs := [.ref a]) rfl hr e0 (.cons rfl .nil) fun cdv hr2 => ?_
  refine ⟨_, PSs.nox (pss_one (ps_ret (pe_callB cr_iterT (by rfl) G.iter bt_iter (pa_cons (pe_sl (pv 0)) pa_nil)))), ?_⟩
  exact ⟨_, rfl, a, C, dx, p, _, 0, _, rfl, hs, T.sc, hp, rfl, t, ys, rfl, ht, fun it h1 h2 => ⟨it, rfl, h1, h2, rfl⟩⟩
theorem scLen : FnScope ["self"] ["self"] (defScope sLen) := ⟨rfl, rfl, rfl, by decide +kernel, rfl, by decide +kernel, by decide +kernel⟩
theorem ok_len {f : Addr} {fd : FuncData} (F : Fun K "__len__" "Costs.__len__" sLen f fd) (G : Glb mg) (T : CC K mg C) : FnOk P w K mg base CX0 1 f fd ["self"] (spLen C) := by
  refine F.ok scLen (fun vs H Q E h => ?_) (fun cdv A outer s H vs Q E hr h => ?_)
  · obtain ⟨a, dx, t, ys, rfl, _⟩ := h
    rfl
  · obtain ⟨a, dx, t, ys, rfl, hs, ht, hz, k⟩ := h
    obtain ⟨p, hp⟩ := T.slot
    refine ⟨_, pss_one (ps_ret (pe_callB call_len_seq (by rfl) G.len PySem.boot_len (pa_cons (pe_sl (pv 0)) pa_nil))), ?_⟩
    exact ⟨_, rfl, a, C, dx, p, _, 0, _, rfl, hs, T.sc, hp, rfl, t, _, rfl, .inr (SqT.of ht), k⟩

/-! ### __contains__ -/
theorem scContains : FnScope ["self", "thing"] ["self", "thing"] (defScope sContains) := ⟨rfl, rfl, rfl, by decide +kernel, rfl, by decide +kernel, by decide +kernel⟩
theorem ok_contains {f : Addr} {fd : FuncData} (F : Fun K "__contains__" "Costs.__contains__" sContains f fd) (T : CC K mg C) (D1 : Def P w K mg base "is_cost" 4 ["thing"] spCost) : FnOk P w K mg base CX0 5 f fd ["self", "thing"] (spContains C) := by
  refine F.ok scContains (fun vs H Q E h => ?_) (fun cdv A outer s H vs Q E hr h => ?_)
  · obtain ⟨a, p, cs, c, rfl, _⟩ := h
    rfl
  · obtain ⟨a, p, cs, c, rfl, ⟨dx, t, hs, ht⟩, hc, hpc, hm, k⟩ := h
    obtain ⟨sp, hsp⟩ := T.slot
    refine ⟨_, pss_one (ps_ret (pe_and (pe_def D1 hr (pa_cons (pv 1) pa_nil)) (pe_one (pe_cmpR (op_inDT hr) (pv 1) (pe_sl (pv 0)) rfl)))), ?_⟩
    refine ⟨_, rfl, p, c, rfl, hpc, hc c hm, fun H1 s1 => ⟨_, rfl, iteT ?_⟩⟩
    refine ⟨_, rfl, _, rfl, a, C, dx, sp, _, 0, _, rfl, Slt.same s1 hs, T.sc, hsp, rfl, rwD c, cs.map rwD, dp_row (hpc.same s1), dp_tab (ht.same s1), shaped_row (hc c hm).pr, shaped_tab fun x hx => (hc x hx).pr, ?_⟩
    have e : ((cs.map rwD).any fun z => PyData.eqv z (rwD c)) = true := by
      rw [List.any_map, List.any_eq_true]
      exact ⟨c, hm, by show PyData.eqv (rwD c) (rwD c) = true; rw [eqv_row]; simp⟩
    rw [e]
    exact k _ s1

/-! ### __or__, __eq__ -/
theorem scOr : FnScope ["self", "other", "costs"] ["self", "other"] (defScope sOr) := ⟨rfl, rfl, rfl, by decide +kernel, rfl, by decide +kernel, by decide +kernel⟩
theorem paired_append {α β : Type} {F : α → β → Prop} : ∀ {l l' : List α} {m m' : List β}, Paired F l m → Paired F l' m' → Paired F (l ++ l') (m ++ m')
  | _, _, _, _, .nil, h => h
  | _, _, _, _, .cons r t, h => .cons r (paired_append t h)
theorem ok_or {f : Addr} {fd : FuncData} (F : Fun K "__or__" "Costs.__or__" sOr f fd) (T : Cls P w K mg base C) : FnOk P w K mg base CX0 9 f fd ["self", "other"] (spOr C) := by
  refine F.ok scOr (fun vs H Q E h => ?_) (fun cdv A outer s H vs Q E hr h => ?_)
  · obtain ⟨a, b, cs, ds, rfl, _⟩ := h
    rfl
  · obtain ⟨a, b, cs, ds, rfl, ⟨dx, t, hs, ⟨ps, hl, ht, hr2⟩⟩, ⟨dx2, t2, hs2, ⟨ps2, hl2, ht2, hr3⟩⟩, hc, hd, hcd, k⟩ := h
    obtain ⟨p, hp⟩ := T.cc.slot
    have len1 : ps.length = cs.length := Paired.length hr2
    have len2 : ps2.length = ds.length := Paired.length hr3
    refine ⟨_, pss_cons (ps_set (i := 2) scOr.nd rfl (Or.inl rfl) (pe_tup (pa_star (pe_sl (pv 0)) (pa_star (pe_sl (pv 1)) pa_nil)))) (pss_one (ps_ret (pe_newS T hr (pv 2)))), ?_⟩
    refine ⟨_, rfl, a, C, dx, p, _, 0, _, rfl, hs, T.cc.sc, hp, rfl, t, _, rfl, .inl (SqT.of ht), _, rfl, b, C, dx2, p, _, 0, _, rfl, hs2, T.cc.sc, hp, rfl, t2, _, rfl, .inl (SqT.of ht2), ?_, fun q hq => ?_⟩
    · rw [List.append_nil, List.length_append, List.length_map, List.length_map, sizeLine_eq]; omega
    · have sq : Same H (upd H q (.tup (ps.map V.ref ++ (ps2.map V.ref ++ [])))) := Same.upd hq
      refine ⟨_, rfl, q, _, rfl, .inl (SqT.of upd_same), ps ++ ps2, cs ++ ds, by simp, (paired_append (RowsAt.same sq hr2) (RowsAt.same sq hr3)), ?_, by rw [List.length_append]; exact hcd, fun H' r s2 cr => k H' r (sq.trans s2) cr⟩
      intro c hm
      rcases List.mem_append.mp hm with z | z
      · exact hc c z
      · exact hd c z
theorem scEq : FnScope ["self", "other"] ["self", "other"] (defScope sEq) := ⟨rfl, rfl, rfl, by decide +kernel, rfl, by decide +kernel, by decide +kernel⟩
theorem ok_eq {f : Addr} {fd : FuncData} (F : Fun K "__eq__" "Costs.__eq__" sEq f fd) (G : Glb mg) (T : CC K mg C) (kit : PySem.W.kitOne K (.ref C) (.ref C) = some true) : FnOk P w K mg base CX0 1 f fd ["self", "other"] (spEq C) := by
  refine F.ok scEq (fun vs H Q E h => ?_) (fun cdv A outer s H vs Q E hr h => ?_)
  · obtain ⟨a, b, cs, ds, rfl, _⟩ := h
    rfl
  · obtain ⟨a, b, cs, ds, rfl, ⟨dx, t, hs, ht⟩, ⟨dx2, t2, hs2, ht2⟩, hc, hd, k⟩ := h
    obtain ⟨p, hp⟩ := T.slot
    have hu := hr.units
    refine ⟨_, pss_one (ps_ret (pe_and (pe_callB (call_isiSl (.ref C)) (by rfl) G.isinstance bt_isinstance (pa_cons (pv 1) (pa_cons (pe_glob (v := .ref C) (by rfl) T.mgC rfl) pa_nil))) (pe_one (pe_cmpR (op_eqD hu) (pe_sl (pv 0)) (pe_sl (pv 1)) (nomark _))))), ?_⟩
    refine ⟨_, rfl, b, C, dx2, _, .ref C, true, rfl, rfl, fun w h => h, hs2, T.sc, T.si, kit, _, rfl, iteT ?_⟩
    refine ⟨_, rfl, a, C, dx, p, _, 0, _, rfl, hs, T.sc, hp, rfl, _, rfl, b, C, dx2, p, _, 0, _, rfl, hs2, T.sc, hp, rfl, _, _, dp_tab ht, dp_tab ht2, shaped_tab fun x hx => (hc x hx).pr, shaped_tab fun x hx => (hd x hx).pr, ?_⟩
    rw [eqv_tab]
    exact k _ fun _ _ e => e
end
end Ku
/-! Costs.__getitem__. -/
namespace Ku
open PySem PySem.Spec L2 SlX StX
section
variable {P : Program} {w : World} {K : PySem.W.Frag} {mg : Str → Option Value} {base : Heap} {C : Addr}
abbrev NG : List Str := ["self", "pair", "found", "cost"]
theorem scGet : FnScope NG ["self", "pair"] (defScope sGetitem) := ⟨rfl, rfl, rfl, by decide +kernel, rfl, by decide +kernel, by decide +kernel⟩
theorem bt_repr : bootBuiltins "repr" = some (.builtin "repr") := by decide +kernel
theorem str_dec {a b : Str} : decide (V.str a = V.str b) = decide (a = b) := decide_eq_decide.mpr ⟨V.str.inj, fun e => by rw [e]⟩
theorem atI_nat {xs : List V} {j : Nat} {x : V} (h : xs[j]? = some x) : atI xs (j : Int) = some x := by
  obtain ⟨hj, _⟩ := List.getElem?_eq_some_iff.mp h
  have h1 : ixN xs.length ((j : Nat) : Int) = some j := by
    unfold ixN
    rw [if_pos (by omega), if_pos (by omega)]
    all_goals rfl
  unfold atI
  rw [h1]
  exact h
def costV (c : Way) : V := .int c.2.2
theorem ok_get {f : Addr} {fd : FuncData} (F : Fun K "__getitem__" "Costs.__getitem__" sGetitem f fd) (hb : Binds K fd ["self", "pair"] []) (G : Glb mg) (T : CC K mg C) : FnG P w K mg base 1 f (spGet C) := by
  refine fn_g F scGet hb (fun vs H Q E h => ?_) (fun cdv A outer s H vs Q hg hr h => ?_)
  · obtain ⟨a, q, cs, c, rfl, _⟩ := h
    rfl
  · obtain ⟨a, q, cs, c, rfl, ⟨dx, t, hs, ⟨ps, hl, ht, hr2⟩⟩, h5, tab, hq, hm, k⟩ := h
    obtain ⟨p, hp⟩ := T.slot
    have hu := hr.units
    have len1 : ps.length = cs.length := Paired.length hr2
    have hc5 := h5 c hm
    refine ⟨_, pss_cons (ps_setLc (i := 2) (own := [("cost", 3)]) (g := gName 3)
        (tt := tTest (tOp rEq (tCB (rReprT K) (tCons (L2.tSl (rSlT K) (tVar 3) tNoPart (tPart (tC (.int 2)))) tNil)) (tCB (rReprT K) (tCons (tVar 1) tNil)))) rfl scGet.nd rfl rfl (sw_true rfl rfl rfl (by decide +kernel))
        (pi_tup (pe_sl (pv 0))) (blkOk_by (own := [("cost", 3)]) (N := NG) (sc := defScope sGetitem) (by decide +kernel))
        (fun _ _ _ _ _ => pg_name (i := 3) scGet.nd rfl (Or.inl rfl))
        (fun _ _ _ _ _ => pts_one (pt_cmpR op_eq (pe_callB (cr_reprT hg hr) (by rfl) G.repr bt_repr (pa_cons (pe_slice sl_tup (pv 3) po_none (po_some pe_int)) pa_nil)) (pe_callB (cr_reprT hg hr) (by rfl) G.repr bt_repr (pa_cons (pv 1) pa_nil)) (nomark _)))
        (fun _ _ _ _ _ => pv 3))
      (pss_cons (ps_if (pt_cmpR (op_eqD hu) (pv 2) (pe_lst pa_nil) (nomark _)) pss_never pss_nil)
      (pss_one (ps_ret (pe_ix ix_tup (pe_ix ix_list (pv 2) pe_int (fun _ _ => rfl)) pe_int (fun _ _ => rfl))))), ?_⟩
    refine ⟨_, rfl, a, C, dx, p, _, 0, _, rfl, hs, T.sc, hp, rfl, t, rfl, ⟨_, SqT.of ht⟩, fun D hD => ?_⟩
    have key : ∀ d ∈ cs, decide (rtext d.1 d.2.1 = rtext c.1 c.2.1) = decide (Kl.pr d = Kl.pr c) := fun d hd => by
      have hd5 := h5 d hd
      refine decide_eq_decide.mpr ⟨fun e => ?_, fun e => ?_⟩
      · obtain ⟨e1, e2⟩ := rtext_inj d.1 hd5.one d.2.1 hd5.other c.1 hc5.one c.2.1 hc5.other e
        exact Prod.ext e1 e2
      · have e1 : d.1 = c.1 := congrArg (fun p : Str × Str => p.1) e
        have e2 : d.2.1 = c.2.1 := congrArg (fun p : Str × Str => p.2) e
        rw [e1, e2]
    refine lc_it (walk_tup (xs := ps.map V.ref)) (fun i H' => Same H H' ∧ ∃ rp : List Addr, RowsAt H' rp ((cs.take i).filter fun d => decide (Kl.pr d = Kl.pr c)) ∧ H' D = some (.lst (rp.map V.ref))) ⟨Same.upd hD, [], .nil, upd_same⟩ (fun _ _ _ z => SqT.of (z.1 _ _ ht)) ?_ ?_
    · rintro i x H2 H1 hi ⟨s1, rp, hrp, eD⟩ ⟨rfl, ex⟩
      rw [List.getElem?_map] at ex
      obtain ⟨pc, ep, rfl⟩ := Option.map_eq_some_iff.mp ex
      obtain ⟨d, ed, hpd⟩ := paired_get hr2 ep
      have hdm : d ∈ cs := List.mem_of_getElem? ed
      have hd5 := h5 d hdm
      rw [List.length_map] at hi
      have lenr : rp.length ≤ i := by
        rw [Paired.length hrp]
        exact Nat.le_trans (List.length_filter_le _ _) (by rw [List.length_take]; omega)
      have et : (cs.take (i + 1)).filter (fun d => decide (Kl.pr d = Kl.pr c)) = (cs.take i).filter (fun d => decide (Kl.pr d = Kl.pr c)) ++ (if Kl.pr d = Kl.pr c then [d] else []) := by
        rw [List.take_succ, ed, List.filter_append]
        by_cases e : Kl.pr d = Kl.pr c <;> simp [e]
      refine ⟨rfl, ?_⟩
      refine ⟨_, rfl, 2, rfl, pc, _, rfl, SqT.of (s1 _ _ hpd), (by show ¬ (HT.sIx 3 0 none = 0 ∧ HT.sIx 3 3 (some 2) = 3); decide), fun b hb => ?_⟩
      have nDb : D ≠ b := ne_of_none eD hb
      have sb : Same H1 (upd H1 b (.tup (cutV (wayV d) none (some 2)))) := Same.upd hb
      have cut : cutV (wayV d) none (some 2) = [d.1, d.2.1].map V.str := rfl
      obtain ⟨c1, c2⟩ := five_cost hd5.one hd5.other
      obtain ⟨c3, c4⟩ := five_cost hc5.one hc5.other
      refine ⟨b, [d.1, d.2.1], rfl, SqT.of (by rw [upd_same, cut]), c1, c2, ?_⟩
      refine ⟨_, rfl, q, [c.1, c.2.1], rfl, SqT.of (sb _ _ (s1 _ _ hq)), c3, c4, rfl, _, rfl, ?_⟩
      rw [str_dec]
      show if (decide (rtext d.1 d.2.1 = rtext c.1 c.2.1)) = true then _ else _
      rw [key d hdm]
      have s1b : Same H (upd H1 b (.tup (cutV (wayV d) none (some 2)))) := Same.put s1 (Same.nope s1 hb)
      refine ite2 (fun e => ?_) (fun e => ?_)
      · have e' : Kl.pr d = Kl.pr c := of_decide_eq_true e
        refine ⟨_, rfl, rp.map V.ref, by rw [upd_ne nDb]; exact eD, by rw [List.length_map]; exact small1000 (by omega), ?_⟩
        have sT : SameT H1 (upd (upd H1 b (.tup (cutV (wayV d) none (some 2)))) D (.lst (rp.map V.ref ++ [.ref pc]))) := by
          refine SameT.trans (SameT.of sb) (SameT.upd fun xs z => ?_)
          rw [upd_ne nDb, eD] at z
          cases z
        refine ⟨Same.put s1b hD, rp ++ [pc], ?_, by rw [upd_same, List.map_append]; rfl⟩
        rw [et, if_pos e']
        exact paired_snoc (hrp.sameT sT) (sT _ _ (s1 _ _ hpd))
      · have e' : ¬ Kl.pr d = Kl.pr c := fun z => e (decide_eq_true z)
        refine ⟨s1b, rp, ?_, by rw [upd_ne nDb]; exact eD⟩
        rw [et, if_neg e', List.append_nil]
        exact hrp.same sb
    · rintro H1 ⟨s1, rp, hrp, eD⟩
      rw [show (ps.map V.ref).length = cs.length by rw [List.length_map, len1], List.take_length] at hrp
      have hmem : c ∈ cs.filter fun d => decide (Kl.pr d = Kl.pr c) := List.mem_filter.mpr ⟨hm, by simp⟩
      have okf : ∀ d ∈ cs.filter (fun d => decide (Kl.pr d = Kl.pr c)), d ∈ cs ∧ Kl.pr d = Kl.pr c := fun d hd => by
        have := List.mem_filter.mp hd
        exact ⟨this.1, by simpa using this.2⟩
      generalize hfd : cs.filter (fun d => decide (Kl.pr d = Kl.pr c)) = fd at hrp hmem okf
      refine ⟨_, rfl, (by show (0 : Nat) ≤ sizeLine; exact Nat.zero_le _), fun e he => ?_⟩
      have nDe : D ≠ e := ne_of_none eD he
      have se : Same H1 (upd H1 e (.lst [])) := Same.upd he
      refine ⟨.list (fd.map rwD), .list (([] : List Way).map rwD), .lst (SqL.of (se _ _ eD)) (dp_rows (RowsAt.same se hrp)), .lst (SqL.of upd_same) .nil, shaped_lst fun d hd => (h5 d (okf d hd).1).ok.pr, rfl, _, rfl, ?_⟩
      rw [eqv_lst]
      cases fd with
      | nil => cases hmem
      | cons d fd =>
        refine iteF ?_
        cases hrp with
        | cons hd0 htl =>
          rename_i pd rps
          obtain ⟨hdm, hdp⟩ := okf d (by simp)
          have ed : d.2.2 = c.2.2 := by
            have e1 : d.1 = c.1 := congrArg (fun p : Str × Str => p.1) hdp
            have e2 : d.2.1 = c.2.1 := congrArg (fun p : Str × Str => p.2) hdp
            refine Kl.Tab.fn slo_str tab (a := c.1) (b := c.2.1) ?_ (show (c.1, c.2.1, c.2.2) ∈ cs from hm)
            rw [← e1, ← e2]
            exact hdm
          refine ⟨_, rfl, D, _, 0, .ref pd, rfl, rfl, SqL.of (se _ _ eD), atI_nat (j := 0) rfl, pd, _, 2, _, rfl, rfl, SqT.of (se _ _ hd0), rfl, ?_⟩
          show Q (.int d.2.2) _
          rw [ed]
          exact k _ (s1.trans se)
end
end Ku
/-! _law_feed, _law_draw. -/
namespace Ku
open PySem PySem.Spec L2
/-- all but what stands at D is as it was -/
def SameX (D : Addr) (H H' : Hp) : Prop := ∀ b u, b ≠ D → H b = some u → H' b = some u
theorem SameX.trans {D : Addr} {H H' H'' : Hp} (a : SameX D H H') (b : SameX D H' H'') : SameX D H H'' := fun c u n e => b c u n (a c u n e)
theorem SameX.refl {D : Addr} {H : Hp} : SameX D H H := fun _ _ _ e => e
theorem SameX.of {D : Addr} {H H' : Hp} (s : Same H H') : SameX D H H' := fun b u _ e => s b u e
theorem SameX.upd {D : Addr} {H : Hp} {o : HO} : SameX D H (L2.upd H D o) := fun b u n e => by rw [upd_ne n]; exact e
def feedV (l : Addr) (at' left count : Int) : List (Key × V) := [(.inr "cells", .ref l), (.inr "at", .int at'), (.inr "left", .int left), (.inr "count", .int count)]
def FeedAt (H : Hp) (D : Addr) : Prop := ∃ (l : Addr) (ns : List Int) (at' left count : Int), H D = some (.dK (feedV l at' left count)) ∧ H l = some (.lst (ns.map V.int)) ∧ ns.length ≤ 63
theorem fv_cells (l : Addr) (a b c : Int) : valV (feedV l a b c) (.inr "cells") = some (.ref l) := by rfl
theorem fv_at (l : Addr) (a b c : Int) : valV (feedV l a b c) (.inr "at") = some (.int a) := by rfl
theorem fv_left (l : Addr) (a b c : Int) : valV (feedV l a b c) (.inr "left") = some (.int b) := by rfl
theorem fv_count (l : Addr) (a b c : Int) : valV (feedV l a b c) (.inr "count") = some (.int c) := by rfl
theorem fp_at (l : Addr) (a b c x : Int) : putK (feedV l a b c) (.inr "at") (.int x) = feedV l x b c := by rfl
theorem fp_left (l : Addr) (a b c x : Int) : putK (feedV l a b c) (.inr "left") (.int x) = feedV l a x c := by rfl
theorem fp_count (l : Addr) (a b c x : Int) : putK (feedV l a b c) (.inr "count") (.int x) = feedV l a b x := by rfl
theorem feed_new (l : Addr) : mergeK [] (feedV l 0 0 0) = feedV l 0 0 0 := by rfl
theorem dp_ints {K : PySem.W.Frag} {H : Hp} : ∀ ns : List Int, DpAll K H (ns.map V.int) (ns.map PyData.int)
  | [] => .nil
  | n :: ns => .cons (.int n) (dp_ints ns)
theorem lay_ints : ∀ ns : List Int, PyData.canLayAll0 (ns.map PyData.int) = true
  | [] => rfl
  | n :: ns => by rw [List.map_cons, PyData.canLayAll0, lay_ints ns]; rfl
theorem dep_ints : ∀ ns : List Int, PyData.depthAll (ns.map PyData.int) = 0
  | [] => by simp [PyData.depthAll]
  | n :: ns => by rw [List.map_cons, PyData.depthAll, dep_ints ns]; simp [PyData.depth]
theorem shaped_ints (ns : List Int) : SeqAt.shaped (.list (ns.map PyData.int)) = true := by
  unfold SeqAt.shaped
  rw [PyData.canLay0, lay_ints, PyData.depth, dep_ints]
  rfl
theorem eqv_ints_nil (ns : List Int) : PyData.eqv (.list (ns.map PyData.int)) (.list []) = decide (ns = []) := by
  cases ns <;> simp [PyData.eqv, PyData.eqvAll]
section
variable {P : Program} {w : World} {K : PySem.W.Frag} {mg : Str → Option Value} {base : Heap}
theorem bt_list : bootBuiltins "list" = some (.type "list") := by decide +kernel
def spFeed (K : PySem.W.Frag) : Sp := fun vs H Q _ => ∃ (a : Addr) (ns : List Int), vs = [.ref a] ∧ SqL K H a (ns.map V.int) ∧ ns.length ≤ 63 ∧ ∀ H' D, Same H H' → H D = none → FeedAt H' D → Q (.ref D) H'
theorem scFeed : FnScope ["_law_script"] ["_law_script"] (defScope sFeed) := ⟨rfl, rfl, rfl, by decide +kernel, rfl, by decide +kernel, by decide +kernel⟩
theorem ok_feed {f : Addr} {fd : FuncData} (F : Fun K "_law_feed" "_law_feed" sFeed f fd) (G : Glb mg) : FnOk P w K mg base CX0 1 f fd ["_law_script"] (spFeed K) := by
  refine F.ok scFeed (fun vs H Q E h => ?_) (fun cdv A outer s H vs Q E hr h => ?_)
  · obtain ⟨a, ns, rfl, _⟩ := h
    rfl
  · obtain ⟨a, ns, rfl, hs, hl, k⟩ := h
    refine ⟨_, pss_one (ps_ret (pe_disp (pps_cons pe_str (pe_callTy call_list_of (by rfl) G.list bt_list (pa_cons (pe_slice sl_list (pv 0) po_none (po_some pe_int)) pa_nil))
      (pps_cons pe_str pe_int (pps_cons pe_str pe_int (pps_cons pe_str pe_int pps_nil)))) rfl rfl (by simp) (by decide))), ?_⟩
    intro D hD
    have sD : Same H (upd H D (.dK [])) := Same.upd hD
    have hs' : SqL K (upd H D (.dK [])) a (ns.map V.int) := hs.elim (fun z => .inl (z.elim (fun q => .inl (sD _ _ q)) fun ⟨o, q⟩ => .inr ⟨o, sD _ _ q⟩)) .inr
    refine ⟨_, rfl, 63, rfl, a, _, rfl, hs', fun p hp => ?_⟩
    refine ⟨p, _, rfl, .inl (SqL.of upd_same), fun l hl2 => ?_⟩
    have pD : p ≠ D := fun z => by rw [z, upd_same] at hp; cases hp
    have lp : l ≠ p := fun z => by rw [z, upd_same] at hl2; cases hl2
    have lD : l ≠ D := fun z => by rw [z, upd_ne (Ne.symm pD), upd_same] at hl2; cases hl2
    have hp0 : H p = none := Same.nope sD hp
    have hl0 : H l = none := Same.nope (Same.put sD hp0) hl2
    refine ⟨by rw [upd_ne (Ne.symm lD), upd_ne (Ne.symm pD), upd_same], feedV l 0 0 0, rfl, (by show (4 : Nat) ≤ 15; decide), ?_⟩
    rw [feed_new]
    have cut : ∃ ms : List Int, cutV (ns.map V.int) none (some 63) = ms.map V.int ∧ ms.length ≤ 63 := by
      refine ⟨(ns.drop (HT.sIx (ns.map V.int).length 0 none)).take (HT.sIx (ns.map V.int).length (ns.map V.int).length (some 63) - HT.sIx (ns.map V.int).length 0 none), ?_, ?_⟩
      · unfold cutV
        rw [List.map_take, List.map_drop]
      · rw [List.length_take, List.length_drop]; omega
    obtain ⟨ms, e1, e2⟩ := cut
    refine k _ D (Same.put (Same.put (Same.put sD hp0) hl0) hD) hD ⟨l, ms, 0, 0, 0, upd_same, ?_, e2⟩
    rw [upd_ne lD, upd_same, e1]

def spDraw : Sp := fun vs H Q _ => ∃ (D : Addr) (m : Int), vs = [.ref D, .int m] ∧ FeedAt H D ∧ 0 < m ∧ m < 1000 ∧ ∀ H' i, SameX D H H' → FeedAt H' D → 0 ≤ i → i < m → Q (.int i) H'
abbrev ND : List Str := ["_law_feed_here", "_law_many", "_law_digit", "_law_at", "_law_cell", "_law_mixed"]
theorem scDraw : FnScope ND ["_law_feed_here", "_law_many"] (defScope sDraw) := ⟨rfl, rfl, rfl, by decide +kernel, rfl, by decide +kernel, by decide +kernel⟩
theorem if_cell {tA : TT} {ta tb : TE} {rest : TS} {D : Ends} {i : Nat} {σ : L2.St} {H : Hp} (Pr : Hp → Int → Prop) (C : ∀ H3 cell, Pr H3 cell → rest D (σ.set i (some (.int cell))) H3)
    (h : (∀ H3 cell, Pr H3 cell → rest D (σ.set i (some (.int cell))) H3) → tSeq (tAsg (tIf tA ta tb) (gName i)) rest D σ H) : tSeq (tAsg (tIf tA ta tb) (gName i)) rest D σ H := h C
theorem ifs_next {c : TT} {a : TS} {rest : TS} {D : Ends} {σ : L2.St} {H : Hp} (C : rest D σ H) (h : rest D σ H → tSeq (tIfS c a tNext) rest D σ H) : tSeq (tIfS c a tNext) rest D σ H := h C
theorem ok_draw {f : Addr} {fd : FuncData} (F : Fun K "_law_draw" "_law_draw" sDraw f fd) (G : Glb mg) : FnOk P w K mg base CX0 1 f fd ["_law_feed_here", "_law_many"] spDraw := by
  refine F.ok scDraw (fun vs H Q E h => ?_) (fun cdv A outer s H vs Q E hr h => ?_)
  · obtain ⟨D, m, rfl, _⟩ := h
    rfl
  · obtain ⟨D, m, rfl, ⟨l, ns, at', left, count, hD, hL, hl⟩, m0, m1, k⟩ := h
    have hu := hu_of hr
    have hu64 := hr.units
    have lD : l ≠ D := fun z => by rw [z, hD] at hL; cases hL
    refine ⟨_, (pss_cons (ps_dput hu (pv 0) pe_str (pe_op op_add (pe_dget hu (pv 0) pe_str (fun _ _ => rfl)) pe_int) rfl)
      (pss_cons (ps_if (pt_cmpR op_gt (pe_dget hu (pv 0) pe_str (fun _ _ => rfl)) pe_int (nomark _))
        (pss_cons (ps_set (i := 2) scDraw.nd rfl (Or.inl rfl) (pe_op op_mod (pe_callTy call_int1 (by rfl) G.int bt_int (pa_cons (pe_dget hu (pv 0) pe_str (fun _ _ => rfl)) pa_nil)) (pv 1)))
          (pss_cons (ps_dput hu (pv 0) pe_str (pe_op op_fdiv (pe_dget hu (pv 0) pe_str (fun _ _ => rfl)) (pv 1)) rfl)
          (pss_one (ps_ret (pv 2))))) pss_nil)
      (pss_cons (ps_set (i := 3) scDraw.nd rfl (Or.inl rfl) (pe_dget hu (pv 0) pe_str (fun _ _ => rfl)))
      (pss_cons (ps_dput hu (pv 0) pe_str (pe_op op_add (pv 3) pe_int) rfl)
      (pss_cons (ps_set (i := 4) scDraw.nd rfl (Or.inl rfl) (pe_ifExp (pt_cmpR (op_neD hu64) (pe_dget hu (pv 0) pe_str (fun _ _ => rfl)) (pe_lst pa_nil) (nomark _))
          (pe_ix ix_list (pe_dget hu (pv 0) pe_str (fun _ _ => rfl)) (pe_op op_mod (pe_callTy call_int1 (by rfl) G.int bt_int (pa_cons (pv 3) pa_nil)) (pe_callB call_len_seq (by rfl) G.len PySem.boot_len (pa_cons (pe_dget hu (pv 0) pe_str (fun _ _ => rfl)) pa_nil))) (fun _ _ => rfl)) pe_int))
      (pss_cons (ps_if (PW.pt (pw_and (pt_cmpR op_ge (pv 4) (pe_op op_pow pe_int pe_int) (nomark _)) (pw_and1 (pt_cmpR op_lt (pv 3) (pe_callB call_len_seq (by rfl) G.len PySem.boot_len (pa_cons (pe_dget hu (pv 0) pe_str (fun _ _ => rfl)) pa_nil)) (nomark _)))))
        (pss_cons (ps_dput hu (pv 0) pe_str (pe_op op_fdiv (pv 4) (pv 1)) rfl) (pss_one (ps_ret (pe_op op_mod (pe_callTy call_int1 (by rfl) G.int bt_int (pa_cons (pv 4) pa_nil)) (pv 1))))) pss_nil)
      (pss_cons (ps_set (i := 5) scDraw.nd rfl (Or.inl rfl) (pe_op op_mod (pe_callTy call_int1 (by rfl) G.int bt_int (pa_cons (pe_op op_add (pe_op op_add (pe_op op_mod (pe_callTy call_int1 (by rfl) G.int bt_int (pa_cons (pv 4) pa_nil)) pe_int) (pe_op op_mul pe_int (pe_dget hu (pv 0) pe_str (fun _ _ => rfl)))) pe_int) pa_nil)) pe_int))
      (pss_cons (ps_set (i := 5) scDraw.nd rfl (Or.inl rfl) (pe_op op_mod (pe_callTy call_int1 (by rfl) G.int bt_int (pa_cons (pe_op op_add (pe_op op_add (pe_op op_mul (pv 5) (pv 5)) (pe_op op_mul pe_int (pe_dget hu (pv 0) pe_str (fun _ _ => rfl)))) pe_int) pa_nil)) pe_int))
      (pss_one (ps_ret (pe_op op_mod (pe_callTy call_int1 (by rfl) G.int bt_int (pa_cons (pe_op op_fdiv (pe_op op_mod (pe_callTy call_int1 (by rfl) G.int bt_int (pa_cons (pe_op op_add (pe_op op_mul (pv 5) (pv 5)) (pe_op op_mul pe_int (pv 5))) pa_nil)) pe_int) pe_int) pa_nil)) (pv 1)))))))))))), ?_⟩
    have dg : ∀ {H' : Hp} {a b c : Int} (x : Str) (v : V), H' D = some (.dK (feedV l a b c)) → valV (feedV l a b c) (.inr x) = some v → DGet H' D (.str x) (some v) := fun x v h e => .inl ⟨_, .inr x, .inl h, rfl, e.symm⟩
    have dp : ∀ {H' : Hp} {a b c : Int} (x : Str) (v : V) (kvs : List (Key × V)), H' D = some (.dK (feedV l a b c)) → putK (feedV l a b c) (.inr x) v = kvs → DPut H' D (.str x) v (upd H' D (.dK kvs)) := fun x v kvs h e =>
      .inl ⟨_, .inr x, h, rfl, (by show 4 < sizeLine; decide), by rw [e]⟩
    -- count
    refine ⟨_, rfl, _, _, rfl, dg _ _ hD (fv_count _ _ _ _), _, _, rfl, rfl, _, rfl, D, _, rfl, dp "count" _ _ hD (fp_count _ _ _ _ _), ?_⟩
    generalize hc' : count + 1 = cnt
    have hD1 : upd H D (.dK (feedV l at' left cnt)) D = some (.dK (feedV l at' left cnt)) := upd_same
    have s1 : SameX D H (upd H D (.dK (feedV l at' left cnt))) := SameX.upd
    have hL1 : upd H D (.dK (feedV l at' left cnt)) l = some (.lst (ns.map V.int)) := s1 _ _ lD hL
    generalize upd H D (.dK (feedV l at' left cnt)) = H1 at hD1 s1 hL1
    have modok : ∀ i : Int, 0 ≤ i % m ∧ i % m < m := fun i => ⟨Int.emod_nonneg i (by omega), Int.emod_lt_of_pos i m0⟩
    -- if left > 0
    refine ⟨_, rfl, D, _, rfl, dg _ _ hD1 (fv_left _ _ _ _), _, _, rfl, rfl, _, rfl, ?_⟩
    refine ite2 (fun _ => ?_) (fun _ => ?_)
    · refine ⟨_, rfl, D, _, rfl, dg _ _ hD1 (fv_left _ _ _ _), .inl ⟨_, rfl, _, rfl, _, _, rfl, rfl, m0, ?_⟩⟩
      refine ⟨_, rfl, D, _, rfl, dg _ _ hD1 (fv_left _ _ _ _), _, rfl, _, _, rfl, rfl, ⟨m0, by omega⟩, _, rfl, D, _, rfl, dp "left" _ _ hD1 (fp_left _ _ _ _ _), ?_⟩
      exact ⟨_, rfl, k _ _ (s1.trans SameX.upd) ⟨l, ns, _, _, _, upd_same, by rw [upd_ne lD]; exact hL1, hl⟩ (modok _).1 (modok _).2⟩
    · -- at
      refine ⟨_, rfl, D, _, rfl, dg _ _ hD1 (fv_at _ _ _ _), ?_⟩
      refine ⟨_, rfl, _, _, rfl, rfl, _, rfl, D, _, rfl, dp "at" _ _ hD1 (fp_at _ _ _ _ _), ?_⟩
      generalize hat : at' + 1 = at2
      have hD2 : upd H1 D (.dK (feedV l at2 left cnt)) D = some (.dK (feedV l at2 left cnt)) := upd_same
      have s2 : SameX D H (upd H1 D (.dK (feedV l at2 left cnt))) := s1.trans SameX.upd
      have hL2 : upd H1 D (.dK (feedV l at2 left cnt)) l = some (.lst (ns.map V.int)) := by rw [upd_ne lD]; exact hL1
      generalize upd H1 D (.dK (feedV l at2 left cnt)) = H2 at hD2 s2 hL2
      -- the cell
      dsimp only
      refine if_cell (fun H3 _ => SameX D H H3 ∧ H3 D = some (.dK (feedV l at2 left cnt)) ∧ H3 l = some (.lst (ns.map V.int))) ?_ ?_
      · rintro H3 cell ⟨s3, hD3, hL3⟩
        try dsimp only
        refine ifs_next ?_ ?_
        · have pw : (2 : Int) ^ 64 = 18446744073709551616 := by decide
          have small : ∀ i j : Int, 0 < j → j < 18446744073709551616 → -(2 ^ 64) < i % j ∧ i % j < 2 ^ 64 := fun i j h1 h2 => by
            have e1 := Int.emod_nonneg i (show j ≠ 0 by omega)
            have e2 := Int.emod_lt_of_pos i h1
            rw [pw]
            omega
          refine ⟨_, rfl, .inl ⟨_, rfl, _, _, rfl, rfl, (show (0 : Int) < 1000000289 by decide), _, rfl, D, _, rfl, dg _ _ hD3 (fv_count _ _ _ _), _, _, rfl, rfl, .inl ⟨by decide, by decide⟩, _, _, rfl, rfl, _, _, rfl, rfl, .inl ⟨_, rfl, _, _, rfl, rfl, (show (0 : Int) < 2147483269 by decide), ?_⟩⟩⟩
          refine ⟨_, rfl, _, rfl, _, _, rfl, rfl, .inl (small _ 2147483269 (by decide) (by decide)), _, rfl, D, _, rfl, dg _ _ hD3 (fv_count _ _ _ _), _, _, rfl, rfl, .inl ⟨by decide, by decide⟩, _, _, rfl, rfl, _, _, rfl, rfl, .inl ⟨_, rfl, _, _, rfl, rfl, (show (0 : Int) < 2147483249 by decide), ?_⟩⟩
          refine ⟨_, rfl, _, rfl, _, _, rfl, rfl, .inl (small _ 2147483249 (by decide) (by decide)), _, rfl, _, _, rfl, rfl, .inl ⟨by decide, by decide⟩, _, _, rfl, rfl, .inl ⟨_, rfl, _, _, rfl, rfl, (show (0 : Int) < 2147483237 by decide), _, _, rfl, rfl, ⟨by decide, by decide⟩, .inl ⟨_, rfl, _, rfl, _, _, rfl, rfl, m0, ?_⟩⟩⟩
          exact k _ _ s3 ⟨l, ns, _, _, _, hD3, hL3, hl⟩ (modok _).1 (modok _).2
        · intro C
          refine ⟨_, rfl, _, _, rfl, rfl, ⟨by decide, by decide, by decide⟩, _, _, rfl, rfl, _, rfl, ?_⟩
          refine ite2 (fun _ => ?_) (fun _ => C)
          refine ⟨_, rfl, _, rfl, D, _, rfl, dg _ _ hD3 (fv_cells _ _ _ _), ?_⟩
          refine ⟨l, _, rfl, .inl (SqL.of hL3), _, _, rfl, rfl, _, rfl, ?_⟩
          refine ite2 (fun _ => ?_) (fun _ => C)
          refine ⟨_, rfl, _, rfl, _, _, rfl, rfl, ⟨m0, by omega⟩, _, rfl, D, _, rfl, dp "left" _ _ hD3 (fp_left _ _ _ _ _), ?_⟩
          refine ⟨_, rfl, .inl ⟨_, rfl, _, rfl, _, _, rfl, rfl, m0, ?_⟩⟩
          exact k _ _ (s3.trans SameX.upd) ⟨l, ns, _, _, _, upd_same, by rw [upd_ne lD]; exact hL3, hl⟩ (modok _).1 (modok _).2
      · intro C
        refine ⟨_, rfl, D, _, rfl, dg _ _ hD2 (fv_cells _ _ _ _), Nat.zero_le _, fun e he => ?_⟩
        have eD : D ≠ e := ne_of_none hD2 he
        have el : l ≠ e := ne_of_none hL2 he
        have se : Same H2 (upd H2 e (.lst [])) := Same.upd he
        refine ⟨.list (ns.map PyData.int), .list [], .lst (SqL.of (se _ _ hL2)) (dp_ints ns), .lst (SqL.of upd_same) .nil, shaped_ints ns, rfl, _, rfl, ?_⟩
        rw [eqv_ints_nil]
        have s3 : SameX D H (upd H2 e (.lst [])) := s2.trans (SameX.of se)
        by_cases hn : ns = []
        · rw [decide_eq_true hn]
          exact C _ _ ⟨s3, se _ _ hD2, se _ _ hL2⟩
        · rw [decide_eq_false hn]
          have hlen : 0 < ns.length := List.length_pos_iff.mpr hn
          refine ⟨_, rfl, D, _, rfl, dg _ _ (se _ _ hD2) (fv_cells _ _ _ _), ?_⟩
          refine ⟨_, rfl, .inl ⟨_, rfl, _, rfl, D, _, rfl, dg _ _ (se _ _ hD2) (fv_cells _ _ _ _), l, _, rfl, .inl (SqL.of (se _ _ hL2)), _, _, rfl, rfl, ?_, ?_⟩⟩
          · rw [List.length_map]; omega
          · have e0 : 0 ≤ at' % ((ns.map V.int).length : Nat) := Int.emod_nonneg _ (by rw [List.length_map]; omega)
            have e1 : at' % ((ns.map V.int).length : Nat) < ((ns.map V.int).length : Nat) := Int.emod_lt_of_pos _ (by rw [List.length_map]; omega)
            rw [List.length_map] at e0 e1 ⊢
            obtain ⟨j, hj⟩ := Int.eq_ofNat_of_zero_le e0
            have hj' : j < ns.length := by omega
            refine ⟨l, _, _, V.int ns[j], rfl, rfl, SqL.of (se _ _ hL2), ?_, C _ _ ⟨s3, se _ _ hD2, se _ _ hL2⟩⟩
            rw [hj]
            exact L2.atI_nat (by rw [List.getElem?_map, List.getElem?_eq_getElem hj']; rfl)
end
end Ku
/-! The class as a whole, and the rules for its use in the law. -/
namespace Ku
open PySem PySem.Spec PyProof.Rows L2 SlX StX
structure Ms (P : Program) (w : World) (K : PySem.W.Frag) (mg : Str → Option Value) (base : Heap) (C : Addr) : Prop where
  cls : Cls P w K mg base C
  path : ∃ g, Meth K C "path" g ∧ FnR P w K mg base CX0 2 g (spPathM C)
  turned : ∃ g, Meth K C "turned" g ∧ FnR P w K mg base CX0 9 g (spTurned C)
  call : ∃ g, CallO K C g ∧ FnR P w K mg base CX0 2 g (spCallM C)
  iter : ∃ g, ItK K C g ∧ IterOf P w K mg base C g 1
  len : ∃ g, LenK K C g ∧ FnR P w K mg base CX0 1 g (spLen C)
  cont : ∃ g, PySem.W.findIn K (.ref C) "__contains__" = some (some (.ref g)) ∧ PySem.W.isFn K (.ref g) = true ∧ FnR P w K mg base CX0 5 g (spContains C)
  get : ∃ g, PySem.W.findIn K (.ref C) "__getitem__" = some (some (.ref g)) ∧ PySem.W.fnIn K g = true ∧ PySem.W.isFn K (.ref g) = true ∧ FnG P w K mg base 1 g (spGet C)
  or_ : PySem.W.selfFirst K C = true ∧ ∃ g, PySem.W.findIn K (.ref C) "__or__" = some (some (.ref g)) ∧ PySem.W.isFn K (.ref g) = true ∧ FnR P w K mg base CX0 9 g (spOr C)
  eq : PySem.W.findIn K (.ref C) "__ne__" = some (some (.builtin "object.__ne__")) ∧ PySem.W.subIn K (.ref C) (.type "object") = some true ∧
    ∃ g, PySem.W.findIn K (.ref C) "__eq__" = some (some (.ref g)) ∧ PySem.W.isFn K (.ref g) = true ∧ FnR P w K mg base CX0 1 g (spEq C)
theorem FnOk.r0 {P : Program} {w : World} {K : PySem.W.Frag} {mg : Str → Option Value} {base : Heap} {CX : CXT} {k : Nat} {f : Addr} {fd : FuncData} {ps : List Str} {sp : Sp} (F : FnOk P w K mg base CX k f fd ps sp) (hb : Binds K fd ps []) : FnR P w K mg base CX k f sp :=
  (F.raw hb .nil).imp fun vs H Q E h => by rw [List.append_nil]; exact h
theorem CostsAt.slt {H : Hp} {a C : Addr} {cs : List Way} (h : CostsAt H a C cs) : ∃ dx t ps, Slt H a C dx [some (.ref t)] ∧ TabAt H t cs ∧ ps.length ≤ 1000 ∧ H t = some (.tup (ps.map V.ref)) ∧ RowsAt H ps cs := by
  obtain ⟨dx, t, h1, h2⟩ := h
  obtain ⟨ps, h3, h4, h5⟩ := id h2
  exact ⟨dx, t, ps, h1, h2, h3, h4, h5⟩
section
variable {X : Cx} {C : Addr} {e o a b : Expr} {es : List Expr} {ta tb te to : TE} {t : TA} {p pos apos cpos : Pos} {i : Nat} {x : Str}
/-- one of the class | another -/
def rOrC (C : Addr) : R2 := fun x y H Q => ∃ (a b : Addr) (cs ds : List Way), x = .ref a ∧ y = .ref b ∧ CostsAt H a C cs ∧ CostsAt H b C ds ∧ (∀ c ∈ cs, WayOk c) ∧ (∀ c ∈ ds, WayOk c) ∧ cs.length + ds.length ≤ 1000 ∧ ∀ H' r, Same H H' → CostsAt H' r C (lstC (cs ++ ds)) → Q (.ref r) H'
theorem op_orC (T : Ms X.prog X.w X.K X.mg X.base C) (hr : Room 9 X.A) : OpR X (binaryOp .BitOr) (rOrC C) := by
  obtain ⟨h1, g, h2, h3, F⟩ := T.or_
  intro pins s σ H x y v u Q I rx ry h
  obtain ⟨a, b, cs, ds, rfl, rfl, ha, hb, q1, q2, q3, q4⟩ := h
  obtain ⟨dx, t, h4, h5⟩ := id ha
  obtain ⟨dy, t2, h6, h7⟩ := id hb
  exact op_binOwn (op := .BitOr) h1 h2 h3 F hr pass0 pins s σ H _ _ v u Q I rx ry ⟨a, dx, _, b, dy, _, rfl, rfl, h4, h6, a, b, cs, ds, rfl, ha, hb, q1, q2, q3, q4⟩
def rEqC (C : Addr) (f : Bool → Bool) : R2 := fun x y H Q => ∃ (a b : Addr) (cs ds : List Way), x = .ref a ∧ y = .ref b ∧ CostsAt H a C cs ∧ CostsAt H b C ds ∧ (∀ c ∈ cs, WayOk c) ∧ (∀ c ∈ ds, WayOk c) ∧ ∀ H', Same H H' → Q (.bl (f (decide (cs = ds)))) H'
theorem op_eqC (T : Ms X.prog X.w X.K X.mg X.base C) (hr : Room 2 X.A) : OpR X (compareOp .Eq) (rEqC C fun b => b) := by
  obtain ⟨_, _, g, h2, h3, F⟩ := T.eq
  intro pins s σ H x y v u Q I rx ry h
  obtain ⟨a, b, cs, ds, rfl, rfl, ha, hb, q1, q2, q4⟩ := h
  obtain ⟨dx, t, h4, h5⟩ := id ha
  obtain ⟨dy, t2, h6, h7⟩ := id hb
  exact op_own (op := .Eq) (fun _ _ => rfl) h2 h3 F (hr.mono (by decide)) pass0 pins s σ H _ _ v u Q I rx ry ⟨a, dx, _, b, C, dy, _, rfl, rfl, h4, h6, by unfold PySem.W.notFirst; simp, a, b, cs, ds, rfl, ha, hb, q1, q2, q4⟩
theorem op_neC (T : Ms X.prog X.w X.K X.mg X.base C) (hr : Room 2 X.A) : OpR X (compareOp .NotEq) (rEqC C fun b => !b) := by
  obtain ⟨h0, h1, g, h2, h3, F⟩ := T.eq
  intro pins s σ H x y v u Q I rx ry h
  obtain ⟨a, b, cs, ds, rfl, rfl, ha, hb, q1, q2, q4⟩ := h
  obtain ⟨dx, t, h4, h5⟩ := id ha
  obtain ⟨dy, t2, h6, h7⟩ := id hb
  exact op_neOwn h0 h1 h2 h3 F hr pass0 pins s σ H _ _ v u Q I rx ry ⟨a, dx, _, b, dy, _, rfl, rfl, h4, h6, a, b, cs, ds, rfl, ha, hb, q1, q2, fun H' s' => ⟨_, rfl, q4 H' s'⟩⟩
/-- x not in y, x a cost that stands in y -/
def rNotInC (C : Addr) : R2 := fun x y H Q => ∃ (a p : Addr) (cs : List Way) (c : Way), x = .ref p ∧ y = .ref a ∧ CostsAt H a C cs ∧ (∀ c ∈ cs, WayOk c) ∧ RowAt H p c ∧ c ∈ cs ∧ ∀ H', Same H H' → Q (.bl false) H'
theorem op_notInC (T : Ms X.prog X.w X.K X.mg X.base C) (hr : Room 5 X.A) : OpR X (compareOp .NotIn) (rNotInC C) := by
  obtain ⟨g, h2, h3, F⟩ := T.cont
  intro pins s σ H x y v u Q I rx ry h
  obtain ⟨a, p, cs, c, rfl, rfl, ha, q1, q2, q3, q4⟩ := h
  obtain ⟨dx, t, h4, h5⟩ := id ha
  exact op_notInOwn h2 h3 F hr pass0 pins s σ H _ _ v u Q I rx ry ⟨a, dx, _, rfl, h4, a, p, cs, c, rfl, ha, q1, q2, q3, fun H' s' => ⟨true, rfl, q4 H' s'⟩⟩
/-- x[pair] -/
def rIxC (C : Addr) : R2 := fun x y H Q => ∃ (a q : Addr) (cs : List Way) (c : Way), x = .ref a ∧ y = .ref q ∧ CostsAt H a C cs ∧ (∀ c ∈ cs, Way5 c) ∧ TabC cs ∧ PrAt H q (Kl.pr c) ∧ c ∈ cs ∧ ∀ H', Same H H' → Q (.int c.2.2) H'
theorem pe_ixC (T : Ms X.prog X.w X.K X.mg X.base C) (hg : X.A.guards = some []) (hr : Room 2 X.A) (ha : PE X a ta) (hb : PE X b tb) (hi : OwnIx b) : PE X (.Subscript a b pos) (tOp (rIxC C) ta tb) := by
  obtain ⟨g, h1, h2, h3, F⟩ := T.get
  refine ⟨fun pins s σ H Q I h => ?_⟩
  refine Subscript_ (binT ha hb I h fun v u s2 x y H2 I2 rx ry q => ?_)
  obtain ⟨a', q', cs, c, rfl, rfl, hc, q1, q2, q3, q4, q5⟩ := q
  obtain ⟨dx, t, h4, h5⟩ := id hc
  obtain rfl : v = Value.ref a' := rx
  obtain rfl : u = Value.ref q' := ry
  obtain ⟨sl, od, _, J, _⟩ := slt_inst I2 h4
  obtain ⟨m, hF⟩ := I2.fr
  refine PySem.W.sub_K hF I2.ok.mod.kin J h1 h2 h3 ?_ (hi a' (.ref q'))
  exact wpAny_call (run_g (us := [.ref a', .ref q']) (ws := [.ref a', .ref q']) F hg hr.in1 I2.env0.in1 I2 (.cons rfl (.cons rfl .nil)) ⟨a', q', cs, c, rfl, hc, q1, q2, q3, q4, q5⟩)
/-- x(one, other) -/
def tCallC (C : Addr) (to : TE) (t : TA) : TE := fun σ H Q => to σ H fun x H1 => ∃ a, x = .ref a ∧ t σ H1 fun vs H2 => ∃ (u v : Str) (cs : List Way), vs = [.str u, .str v] ∧ CostsAt H2 a C cs ∧ cs.length ≤ 900 ∧ (∀ c ∈ cs, WayOk c) ∧ ∀ H', Same H2 H' → Q (OptI (Kp.dist cs u v)) H'
theorem pe_callC (T : Ms X.prog X.w X.K X.mg X.base C) (hr : Room 2 X.A) (hf : PE X o to) (ha : PA X (e :: es) t)
    (ht : eval (.Call o (e :: es) [] pos) X.env = (do callWith pos (← eval o X.env) [] (backTo pos (starEach (e :: es) X.env)) (backToKw pos (keywordEach [] X.env))) := by rfl)
    (he : starEach (e :: es) X.env = (false, eval e X.env) :: starEach es X.env := by rfl) (hpl : (backTo pos (starEach es X.env)).any (·.1) = false := by rfl) : PE X (.Call o (e :: es) [] pos) (tCallC C to t) := by
  obtain ⟨g, c, F⟩ := T.call
  refine ⟨fun pins s σ H Q I h => ?_⟩
  refine Call_ (thn (hf.run pins s σ H _ I h) fun u s1 ⟨y, H1, I1, ry, a, ey, q⟩ => ?_) ht
  subst ey
  obtain rfl : u = Value.ref a := ry
  refine callO_with (thn (ha.run pos pins s1 σ H1 _ I1 q) fun us s2 ⟨vs, H2, I2, r, u1, v1, cs, ev, hc, q1, q2, q3⟩ => ?_) he hpl
  subst ev
  obtain ⟨dx, t2, h4, h5⟩ := id hc
  have hi : InsC X H2 a C := .inl ⟨dx, _, h4⟩
  obtain ⟨ox, od, J, hd⟩ := insC_at I2 hi
  exact ⟨⟨C, ox, od, J, hd⟩, run_callO c F hr pass0 I2 hi r ⟨a, u1, v1, cs, rfl, hc, q1, q2, q3⟩⟩
/-- x.path(one, other) -/
theorem pe_pathC {pl : Sem Bool} (T : Ms X.prog X.w X.K X.mg X.base C) (hr : Room 2 X.A) (ho : PE X o to) (ha : PA X (e :: es) t)
    (hst : starEach (e :: es) X.env = (false, eval e X.env) :: starEach es X.env := by rfl) (hpl : (backTo pos (starEach es X.env)).any (·.1) = false := by rfl)
    (ht : eval (.Call (.Attribute o "path" apos) (e :: es) [] pos) X.env = (do
      let ov ← eval o X.env
      standAt apos.atName
      let (f, first) ← holding [ov] (getMethod ov "path" pl)
      callWith pos f first (backTo pos (starEach (e :: es) X.env)) (backToKw pos (keywordEach [] X.env))) := by rfl) : PE X (.Call (.Attribute o "path" apos) (e :: es) [] pos) (tMethSl C (spPathM C) E0 to t) := by
  obtain ⟨g, M, F⟩ := T.path
  exact pe_methSl (C := C) (sp := spPathM C) (E := E0) (pl := pl) ho T.cls.cc.sc M F hr pass0 ha hst hpl ht
/-- x.turned() -/
theorem pe_turnedC {pl : Sem Bool} (T : Ms X.prog X.w X.K X.mg X.base C) (hr : Room 9 X.A) (ho : PE X o to)
    (ht : eval (.Call (.Attribute o "turned" apos) [] [] pos) X.env = (do
      let ov ← eval o X.env
      standAt apos.atName
      let (f, first) ← holding [ov] (getMethod ov "turned" pl)
      callWith pos f first (backTo pos (starEach [] X.env)) (backToKw pos (keywordEach [] X.env))) := by rfl) : PE X (.Call (.Attribute o "turned" apos) [] [] pos) (tMethSl C (spTurned C) E0 to tNil) := by
  obtain ⟨g, M, F⟩ := T.turned
  exact pe_methSl0 (C := C) (sp := spTurned C) (E := E0) (pl := pl) ho T.cls.cc.sc M F hr pass0 ht
/-- for .. in x -/
theorem pi_ownC {tg : Expr} (T : Ms X.prog X.w X.K X.mg X.base C) (hr : Room 1 X.A) (he : PE X e te) : PI X tg e (iOwn X.K C te) := by
  obtain ⟨g, c, F⟩ := T.iter
  exact pi_own hr c F he
/-- list(x), len(x) -/
theorem cr_listC (T : Ms X.prog X.w X.K X.mg X.base C) (hc : X.calm = true) (hr : Room 4 X.A) : CallR X (.type "list") (rListOwn C) := by
  obtain ⟨g, c, F⟩ := T.iter
  obtain ⟨g2, c2, F2⟩ := T.len
  exact cr_listOwn hc hr c F c2 F2
theorem cr_lenC (T : Ms X.prog X.w X.K X.mg X.base C) (hr : Room 2 X.A) : CallR X (.builtin "len") (rLenOwn C) := by
  obtain ⟨g2, c2, F2⟩ := T.len
  exact cr_lenOwn hr c2 F2
end
end Ku
/-! _law_table. -/
namespace Ku
open PySem PySem.Spec PyProof.Rows L2 SlX StX
/-- a table of the law: of the five names, in order, each way once -/
structure Tab5 (cs : List Way) : Prop where
  way : ∀ c ∈ cs, Way5 c
  tab : TabC cs
theorem Tab5.ok {cs : List Way} (h : Tab5 cs) : ∀ c ∈ cs, WayOk c := fun c hc => (h.way c hc).ok
theorem Tab5.least {cs : List Way} (h : ∀ c ∈ cs, Way5 c) : Tab5 (lstC cs) := ⟨fun c hc => h c (mem_least hc), Kl.least_tab slo_str cs⟩
theorem CostsAt.sameX {D : Addr} {kvs : List (Key × V)} {H H' : Hp} (hD : H D = some (.dK kvs)) (s : SameX D H H') {a C : Addr} {cs : List Way} (h : CostsAt H a C cs) : CostsAt H' a C cs := by
  obtain ⟨dx, t, h1, ps, h2, h3, h4⟩ := h
  have keep : ∀ b u, H b = some u → (∀ kvs, u ≠ .dK kvs) → H' b = some u := fun b u e n => s b u (fun z => by rw [z, hD] at e; exact n _ (Option.some.inj e).symm) e
  refine ⟨dx, t, ?_, ps, h2, keep _ _ h3 (fun _ z => nomatch z), h4.sameT fun b xs e => keep _ _ e (fun _ z => nomatch z)⟩
  rcases h1 with ⟨e, z⟩ | ⟨e, z⟩
  · exact .inl ⟨keep _ _ e (fun _ z => nomatch z), z⟩
  · refine .inr ⟨keep _ _ e (fun _ q => ?_), keep _ _ z (fun _ q => nomatch q)⟩
    unfold SlO at q
    cases q
theorem names_at {H : Hp} {l : Addr} {i : Int} (h : H l = some (.lst (five.map V.str))) (h0 : 0 ≤ i) (h1 : i < 5) : ∃ z, z ∈ five ∧ five[i.toNat]? = some z ∧ atI (five.map V.str) i = some (.str z) := by
  obtain ⟨j, rfl⟩ := Int.eq_ofNat_of_zero_le h0
  have hj : j < five.length := by show j < 5; omega
  refine ⟨five[j], List.getElem_mem hj, List.getElem?_eq_getElem hj, L2.atI_nat (by rw [List.getElem?_map, List.getElem?_eq_getElem hj]; rfl)⟩
theorem five_nodup : five.Nodup := by decide +kernel
section
variable {P : Program} {w : World} {K : PySem.W.Frag} {mg : Str → Option Value} {base : Heap} {C : Addr}
def spTable (C : Addr) : Sp := fun vs H Q _ => ∃ (D : Addr) (n : Int), vs = [.ref D, .int n] ∧ FeedAt H D ∧ 0 ≤ n ∧ n ≤ 20 ∧ ∀ H' a cs, SameX D H H' → FeedAt H' D → CostsAt H' a C cs → Tab5 cs → cs.length ≤ 20 → Q (.ref a) H'
abbrev NTb : List Str := ["_law_feed_here", "_law_size", "_law_names", "_law_table_here", "_law_k", "_law_first", "_law_late"]
theorem scTable : FnScope NTb ["_law_feed_here", "_law_size"] (defScope sTable) := ⟨rfl, rfl, rfl, by decide +kernel, rfl, by decide +kernel, by decide +kernel⟩
theorem ok_table {f : Addr} {fd : FuncData} (F : Fun K "_law_table" "_law_table" sTable f fd) (G : Glb mg) (T : Ms P w K mg base C) (D1 : Def P w K mg base "_law_draw" 1 ["_law_feed_here", "_law_many"] spDraw) : FnOk P w K mg base CX0 10 f fd ["_law_feed_here", "_law_size"] (spTable C) := by
  refine F.ok scTable (fun vs H Q E h => ?_) (fun cdv A outer s H vs Q E hr h => ?_)
  · obtain ⟨D, n, rfl, _⟩ := h
    rfl
  · obtain ⟨D, n, rfl, fd0, n0, n1, k⟩ := h
    have hr1 := hr.mono (show 1 ≤ 9 by decide)
    refine ⟨_, pss_cons (ps_par (i := 2) (j := 3) rfl scTable.nd rfl rfl (by decide) rfl rfl (pa_cons (pe_lst (pa_cons pe_str (pa_cons pe_str (pa_cons pe_str (pa_cons pe_str (pa_cons pe_str pa_nil)))))) (pa_cons (pe_new0 T.cls (hr.mono (by decide))) pa_nil)) rfl)
      (pss_cons (ps_for PassesOwn.never rfl (pi_range1 (by rfl) G.range (pa_cons (pv 1) pa_nil)) (pg_name (i := 4) scTable.nd rfl (Or.inl rfl))
        (pss_cons (ps_set (i := 5) scTable.nd rfl (Or.inl rfl) (pe_def D1 hr1 (pa_cons (pv 0) (pa_cons pe_int pa_nil))))
        (pss_cons (ps_set (i := 6) scTable.nd rfl (Or.inl rfl) (pe_op op_mod (pe_callTy call_int1 (by rfl) G.int bt_int (pa_cons (pe_op op_add (pe_op op_add (pv 5) pe_int) (pe_def D1 hr1 (pa_cons (pv 0) (pa_cons pe_int pa_nil)))) pa_nil)) pe_int))
        (pss_one (ps_set (i := 3) scTable.nd rfl (Or.inl rfl) (pe_op (op_orC T hr) (pe_newN T.cls (hr.mono (by decide)) (pa_cons (pe_tup (pa_cons (pe_ix ix_list (pv 2) (pv 5) (fun _ _ => rfl)) (pa_cons (pe_ix ix_list (pv 2) (pv 6) (fun _ _ => rfl)) (pa_cons (pe_op op_add pe_int (pe_def D1 hr1 (pa_cons (pv 0) (pa_cons pe_int pa_nil)))) pa_nil)))) pa_nil)) (pv 3)))))))
      (pss_one (ps_ret (pv 3)))), ?_⟩
    refine ⟨(by show (5 : Nat) ≤ sizeLine; decide), fun L hL => ?_⟩
    have sL : Same H (upd H L (.lst [.str "a", .str "b", .str "shelf", .str "move", .str "out"])) := Same.upd hL
    refine ⟨[], [], rfl, .nil, (fun c hc => by cases hc), Nat.zero_le _, fun H1 a0 s1 c0 => ⟨_, _, rfl, ?_⟩⟩
    have sH1 : Same H H1 := sL.trans s1
    have fd1 : FeedAt H1 D := by
      obtain ⟨l, ns, a, b, c, e1, e2, e3⟩ := fd0
      exact ⟨l, ns, a, b, c, sH1 _ _ e1, sH1 _ _ e2, e3⟩
    have hL1 : H1 L = some (.lst (five.map V.str)) := s1 _ _ upd_same
    refine ⟨_, rfl, n, rfl, by omega, by omega, ?_⟩
    refine for_it walk_range (fun i σ H' => SameX D H H' ∧ FeedAt H' D ∧ H' L = some (.lst (five.map V.str)) ∧ ∃ a cs a4 a5 a6, σ = [some (.ref D), some (.int n), some (.ref L), some (.ref a), a4, a5, a6] ∧ CostsAt H' a C cs ∧ Tab5 cs ∧ cs.length ≤ i)
      ⟨SameX.of sH1, fd1, hL1, a0, lstC [], none, none, none, rfl, c0, Tab5.least (fun c hc => by cases hc), least_length []⟩ (fun _ _ _ _ _ => trivial) ?_ ?_
    · rintro i x σ H2' H2 hi ⟨s2, fd2, hL2, a, cs, a4, a5, a6, rfl, ca, t5, hlen⟩ ⟨rfl, rfl⟩
      have fdD : ∀ {H' : Hp}, FeedAt H' D → ∃ kvs, H' D = some (.dK kvs) := fun h => let ⟨_, _, _, _, _, e, _⟩ := h; ⟨_, e⟩
      have LD : L ≠ D := fun z => by
        obtain ⟨kvs, e⟩ := fdD fd2
        rw [z, e] at hL2
        cases hL2
      refine ⟨_, rfl, D, 5, rfl, fd2, by decide, by decide, fun H3 d1 s3 fd3 l1 u1 => ?_⟩
      refine ⟨_, rfl, _, _, rfl, rfl, ⟨_, rfl, D, 4, rfl, fd3, by decide, by decide, fun H4 d2 s4 fd4 l2 u2 => ?_⟩⟩
      refine ⟨_, _, rfl, rfl, .inl ⟨_, rfl, _, _, rfl, rfl, (show (0 : Int) < 5 by decide), ?_⟩⟩
      have hL4 : H4 L = some (.lst (five.map V.str)) := s4 _ _ LD (s3 _ _ LD hL2)
      obtain ⟨kv2, e2⟩ := fdD fd2
      obtain ⟨kv3, e3⟩ := fdD fd3
      obtain ⟨kv4, e4⟩ := fdD fd4
      have ca4 := (ca.sameX e2 s3).sameX e3 s4
      have q0 : 0 ≤ (d1 + 1 + d2) % 5 := Int.emod_nonneg _ (by decide)
      have q1 : (d1 + 1 + d2) % 5 < 5 := Int.emod_lt_of_pos _ (by decide)
      have qne : (d1 + 1 + d2) % 5 ≠ d1 := by omega
      obtain ⟨z1, m1, g1, i1⟩ := names_at hL4 l1 u1
      obtain ⟨z2, m2, g2, i2⟩ := names_at hL4 q0 q1
      have zne : z1 ≠ z2 := fun e => by
        rw [e, ← g2] at g1
        have hj : d1.toNat < five.length := by show d1.toNat < 5; omega
        have := (List.getElem?_inj hj five_nodup).mp g1
        omega
      refine ⟨_, rfl, _, rfl, L, _, d1, _, rfl, rfl, SqL.of hL4, i1, _, rfl, _, rfl, L, _, _, _, rfl, rfl, SqL.of hL4, i2, ?_⟩
      refine ⟨_, rfl, D, 9, rfl, fd4, by decide, by decide, fun H5 d3 s5 fd5 l3 u3 => ?_⟩
      refine ⟨_, _, rfl, rfl, (by show (3 : Nat) ≤ sizeLine; decide), fun p hp => ?_⟩
      have sp : Same H5 (upd H5 p (.tup [.str z1, .str z2, .int (1 + d3)])) := Same.upd hp
      have ca5 := (ca4.sameX e4 s5).same sp
      have w5 : Way5 (z1, z2, 1 + d3) := ⟨m1, m2, zne, by show (1 : Int) ≤ 1 + d3; omega⟩
      refine ⟨[p], [(z1, z2, 1 + d3)], rfl, .cons (show RowAt _ p _ from upd_same) .nil, (fun c hc => by rw [List.mem_singleton.mp hc]; exact w5.ok), (by show (1 : Nat) ≤ 1000; decide), fun H6 b s6 cb => ?_⟩
      have lb := least_length [(z1, z2, 1 + d3)]
      have tb : Tab5 (lstC [(z1, z2, 1 + d3)]) := Tab5.least fun c hc => by rw [List.mem_singleton.mp hc]; exact w5
      refine ⟨_, rfl, b, a, _, cs, rfl, rfl, cb, ca5.same s6, tb.ok, t5.ok, ?_, fun H7 r s7 cr => ?_⟩
      · have : (1 : Nat) = [(z1, z2, 1 + d3)].length := rfl
        simp only [List.length_singleton] at lb
        omega
      · have s67 : Same H5 H7 := (sp.trans s6).trans s7
        refine ⟨(((s2.trans s3).trans s4).trans s5).trans (SameX.of s67), ?_, s67 _ _ (s5 _ _ LD hL4), r, _, _, _, _, rfl, cr, Tab5.least ?_, ?_⟩
        · obtain ⟨l, ns, a, b, c, e1, e2, e3⟩ := fd5
          exact ⟨l, ns, a, b, c, s67 _ _ e1, s67 _ _ e2, e3⟩
        · intro c hc
          rcases List.mem_append.mp hc with z | z
          · exact tb.way c z
          · exact t5.way c z
        · refine Nat.le_trans (least_length _) ?_
          rw [List.length_append]
          simp only [List.length_singleton] at lb
          omega
    · rintro σ H2 ⟨s2, fd2, hL2, a, cs, a4, a5, a6, rfl, ca, t5, hlen⟩
      exact ⟨_, rfl, k _ a cs s2 fd2 ca t5 (by omega)⟩
end
end Ku
/-! _law_path_right. -/
namespace Ku
open PySem PySem.Spec PyProof.Rows L2 SlX StX
/-- the ways along a path -/
theorem path_ways {cs : List Way} {u v : Str} {d : Int} {p : List Str} (h : Kp.PathTo cs u v d p) : ∃ l : List Way, l.length + 1 = p.length ∧ (∀ i w, l[i]? = some w → w ∈ cs ∧ p[i]? = some w.1 ∧ p[i + 1]? = some w.2.1) ∧ (l.map (·.2.2)).sum = d := by
  induction h with
  | start => exact ⟨[], rfl, fun i w e => by simp at e, rfl⟩
  | @step v x d c p h hm ih =>
    obtain ⟨l, h1, h2, h3⟩ := ih
    refine ⟨l ++ [(v, x, c)], by simp [← h1], fun i w e => ?_, by simp [h3]⟩
    by_cases hi : i < l.length
    · rw [List.getElem?_append_left hi] at e
      obtain ⟨a1, a2, a3⟩ := h2 i w e
      exact ⟨a1, by rw [List.getElem?_append_left (by omega)]; exact a2, by rw [List.getElem?_append_left (by omega)]; exact a3⟩
    · have hl : i = l.length := by
        have := (List.getElem?_eq_some_iff.mp e).1
        simp at this
        omega
      subst hl
      rw [List.getElem?_append_right (Nat.le_refl _), Nat.sub_self] at e
      obtain rfl := Option.some.inj e
      refine ⟨hm, ?_, ?_⟩
      · rw [List.getElem?_append_left (by omega)]
        have hl := h.last
        rw [List.getLast?_eq_getElem?] at hl
        rw [← hl]
        congr 1
        omega
      · rw [List.getElem?_append_right (by omega), h1, Nat.sub_self]
        rfl
theorem path_five {cs : List Way} {u v : Str} {d : Int} {p : List Str} (t : ∀ c ∈ cs, Way5 c) (hu : u ∈ five) (h : Kp.PathTo cs u v d p) : ∀ x ∈ p, x ∈ five := by
  induction h with
  | start => intro x hx; rw [List.mem_singleton.mp hx]; exact hu
  | step _ hm ih =>
    intro x hx
    rcases List.mem_append.mp hx with z | z
    · exact ih x z
    · rw [List.mem_singleton.mp z]; exact (t _ hm).other
def PairsOf (l : List Way) : List (Str × Str) := l.map Kl.pr
section
variable {P : Program} {w : World} {K : PySem.W.Frag} {mg : Str → Option Value} {base : Heap} {C : Addr}
def spPR (C : Addr) : Sp := fun vs H Q _ => ∃ (a : Addr) (u v : Str) (cs : List Way), vs = [.ref a, .str u, .str v] ∧ CostsAt H a C cs ∧ Tab5 cs ∧ cs.length ≤ 60 ∧ u ∈ five ∧ v ∈ five ∧ ∀ H', Same H H' → Q (.bl true) H'
abbrev NR : List Str := ["_law_table_here", "_law_name", "_law_late", "_law_told", "_law_cost_in", "_law_pairs", "_law_k", "_law_pair"]
theorem scPR : FnScope NR ["_law_table_here", "_law_name", "_law_late"] (defScope sPathRight) := ⟨rfl, rfl, rfl, by decide +kernel, rfl, by decide +kernel, by decide +kernel⟩
theorem bt_sum : bootBuiltins "sum" = some (.builtin "sum") := by decide +kernel
theorem ok_PR {f : Addr} {fd : FuncData} (F : Fun K "_law_path_right" "_law_path_right" sPathRight f fd) (hb : Binds K fd ["_law_table_here", "_law_name", "_law_late"] []) (G : Glb mg) (T : Ms P w K mg base C) : FnG P w K mg base 3 f (spPR C) := by
  refine fn_g F scPR hb (fun vs H Q E h => ?_) (fun cdv A outer s H vs Q hg hr h => ?_)
  · obtain ⟨a, u, v, cs, rfl, _⟩ := h
    rfl
  · obtain ⟨a, u, v, cs, rfl, ca, t5, hl, hu, hv, k⟩ := h
    have ca' := ca
    obtain ⟨dx, t, hs, ht⟩ := ca'
    refine ⟨_, pss_cons (ps_asg (pe_tup (pa_cons (pe_pathC T hr (pv 0) (pa_cons (pv 1) (pa_cons (pv 2) pa_nil))) (pa_cons (pe_callC T hr (pv 0) (pa_cons (pv 1) (pa_cons (pv 2) pa_nil))) pa_nil))) (pg_tup (n := 2) rfl (pgs_cons (pg_name (i := 3) scPR.nd rfl (Or.inr rfl)) (pgs_cons (pg_name (i := 4) scPR.nd rfl (Or.inl rfl)) pgs_nil))))
      (pss_cons (ps_if (PW.pt (pw_or (pt_cmp (pc_isN (pv 4))) (pw_or1 (pt_cmp (pc_isN (pv 3)))))) (pss_one (ps_ret (pe_and (pe_cmp (pc_isN (pv 4))) (pe_one (pe_cmp (pc_isN (pv 3))))))) pss_nil)
      (pss_cons (ps_if (PW.pt (pw_or (pt_cmpR op_ne (pe_ix ix_tup (pv 3) pe_int (fun _ _ => rfl)) (pv 1) (nomark _)) (pw_or (pt_cmpR op_ne (pe_ix ix_tup (pv 3) (pe_un un_neg pe_int) (fun _ _ => rfl)) (pv 2) (nomark _))
          (pw_or1 (pt_cmpR op_ne (pe_lenSetS rfl (by rfl) G.len (by rfl) G.set (pv 3)) (pe_callB call_len_seq (by rfl) G.len PySem.boot_len (pa_cons (pv 3) pa_nil)) (nomark _)))))) (pss_one (ps_ret pe_bl)) pss_nil)
      (pss_cons (ps_setLc (i := 5) (own := [("_law_k", 6)]) (g := gName 6) (tt := tYes) (te := tTup (tCons (tOp (rIxT K) (tVar 3) (tOp (rI0 fun i j => .int (i - j)) (tVar 6) (tC (.int 1)))) (tCons (tOp (rIxT K) (tVar 3) (tVar 6)) tNil))) rfl scPR.nd rfl rfl (sw_true rfl rfl rfl (by decide +kernel))
          (pi_range2 (by rfl) G.range (pa_cons pe_int (pa_cons (pe_callB call_len_seq (by rfl) G.len PySem.boot_len (pa_cons (pv 3) pa_nil)) pa_nil))) (blkOk_by (own := [("_law_k", 6)]) (N := NR) (sc := defScope sPathRight) (by decide +kernel))
          (fun _ _ _ _ _ => pg_name (i := 6) scPR.nd rfl (Or.inl rfl)) (fun _ _ _ _ _ => pts_nil)
          (fun _ _ _ _ _ => pe_tup (pa_cons (pe_ix ix_tup (pv 3) (pe_op op_sub (pv 6) pe_int) (fun _ _ => rfl)) (pa_cons (pe_ix ix_tup (pv 3) (pv 6) (fun _ _ => rfl)) pa_nil))))
      (pss_one (ps_ret (pe_and (pe_cmpR op_eq (pe_callB (cr_sum rfl) (by rfl) G.sum bt_sum (pa_cons (pe_lc (own := [("_law_pair", 7)]) (g := gName 7) (tt := tYes) rfl scPR.nd
            (pi_list (pv 5)) (blkOk_by (own := [("_law_pair", 7)]) (N := NR) (sc := defScope sPathRight) (by decide +kernel)) (fun _ _ _ _ _ => pg_name (i := 7) scPR.nd rfl (Or.inl rfl)) (fun _ _ _ _ _ => pts_nil)
            (fun _ _ _ _ _ => pe_ixC T hg hr (pv 0) (pv 7) (fun _ _ => by with_unfolding_all rfl))) pa_nil)) (pv 4) (nomark _))
          (pe_one (pe_cmpR op_eq (pe_cmpR op_eq (pv 4) pe_int (nomark _)) (pe_cmpR op_eq (pv 1) (pv 2) (nomark _)) (nomark _))))))))), ?_⟩
    refine ⟨_, rfl, a, dx, _, rfl, hs, _, rfl, _, rfl, a, u, v, cs, rfl, ca, by omega, t5.ok, fun H1 z s1 pz => ?_⟩
    refine ⟨_, rfl, a, rfl, _, rfl, _, rfl, u, v, cs, rfl, ca.same s1, by omega, t5.ok, fun H2 s2 => ?_⟩
    refine ⟨(by show (2 : Nat) ≤ sizeLine; decide), fun p hp => ⟨p, _, rfl, SqT.of upd_same, rfl, _, _, rfl, _, _, rfl, ⟨rfl, ?_⟩⟩⟩
    have hpos := pos_of t5.ok
    have sA : Same H (upd H2 p (.tup [z, OptI (Kp.dist cs u v)])) := (s1.trans s2).trans (Same.upd hp)
    have sB : Same H1 (upd H2 p (.tup [z, OptI (Kp.dist cs u v)])) := s2.trans (Same.upd hp)
    generalize upd H2 p (.tup [z, OptI (Kp.dist cs u v)]) = H3 at sA sB ⊢
    have po := Kp.paths_ok (u := u) (v := v) hpos
    cases hL : Kp.look (Kp.paths cs u) v with
    | none =>
      have e1 : Kp.dist cs u v = none := by unfold Kp.dist; rw [hL]; rfl
      have e2 : Kp.path cs u v = none := by unfold Kp.path; rw [hL]; rfl
      rw [e2] at pz
      obtain rfl := (show z = V.non from pz)
      rw [e1]
      refine ⟨_, rfl, _, rfl, iteT (iteT ?_)⟩
      exact ⟨_, rfl, _, rfl, iteT ⟨_, rfl, k _ sA⟩⟩
    | some dp =>
      obtain ⟨d, pth⟩ := dp
      have e1 : Kp.dist cs u v = some d := by unfold Kp.dist; rw [hL]; rfl
      have e2 : Kp.path cs u v = some pth := by unfold Kp.path; rw [hL]; rfl
      rw [e2] at pz
      obtain ⟨n, rfl, hn⟩ := pz
      obtain ⟨hP, hN, hmin⟩ := po.1 d pth hL
      have hn3 := sB _ _ hn
      rw [e1, show OptI (some d) = V.int d from rfl]
      have hl1 : pth.length ≤ cs.length + 1 := hP.length_le hN
      refine ⟨_, rfl, _, rfl, iteF ⟨_, rfl, _, rfl, iteF ?_⟩⟩
      -- the path's ends, its names differ
      have hhead : (pth.map V.str)[0]? = some (.str u) := by
        have := hP.head
        rw [List.head?_eq_getElem?] at this
        rw [List.getElem?_map, this]
        rfl
      obtain ⟨pre, hpre⟩ : ∃ pre, pth = pre ++ [v] := by
        have := hP.last
        obtain ⟨pre, e⟩ := List.getLast?_eq_some_iff.mp this
        exact ⟨pre, e⟩
      refine ⟨_, rfl, n, _, 0, _, rfl, rfl, SqT.of hn3, L2.atI_nat (j := 0) hhead, _, rfl, rfl, _, rfl, ?_⟩
      have eu : (!decide (V.str u = V.str u)) = false := by simp
      have ev : (!decide (V.str v = V.str v)) = false := by simp
      rw [eu]
      refine iteF ⟨_, rfl, 1, rfl, n, _, -1, .str v, rfl, rfl, SqT.of hn3, ?_, _, rfl, rfl, _, rfl, ?_⟩
      · rw [hpre, List.map_append]
        exact L2.atI_last _ _
      · rw [ev]
        refine iteF ⟨_, rfl, n, pth, rfl, SqT.of hn3, hN, by omega, _, rfl, n, _, rfl, .inr (SqT.of hn3), rfl, _, rfl, ?_⟩
        have el : (!decide (V.int (pth.length : Nat) = V.int ((pth.map V.str).length : Nat))) = false := by rw [List.length_map]; simp
        rw [el]
        refine iteF ?_
        -- the pairs
        obtain ⟨ws, w1, w2, w3⟩ := path_ways hP
        refine ⟨_, rfl, n, _, rfl, .inr (SqT.of hn3), 1, _, rfl, ⟨by omega, by omega, by omega, ?_⟩, fun D hD => ?_⟩
        · rw [List.length_map]; omega
        rw [show ((((pth.map V.str).length : Nat) : Int) - 1).toNat = ws.length by rw [List.length_map]; omega]
        refine lc_range (fun i H' => Same H3 H' ∧ ∃ rp : List Addr, PrsAt H' rp ((ws.take i).map Kl.pr) ∧ H' D = some (.lst (rp.map V.ref))) ⟨Same.upd hD, [], .nil, upd_same⟩ ?_ ?_
        · rintro i H4 hi ⟨s4, rp, hrp, eD⟩
          obtain ⟨w, hw⟩ : ∃ w, ws[i]? = some w := ⟨ws[i], List.getElem?_eq_getElem hi⟩
          obtain ⟨a1, a2, a3⟩ := w2 i w hw
          have b2 : (pth.map V.str)[i]? = some (.str w.1) := by rw [List.getElem?_map, a2]; rfl
          have b3 : (pth.map V.str)[i + 1]? = some (.str w.2.1) := by rw [List.getElem?_map, a3]; rfl
          refine ⟨rfl, _, rfl, _, rfl, _, _, rfl, rfl, n, _, _, .str w.1, rfl, rfl, SqT.of (s4 _ _ hn3), ?_, _, rfl, _, rfl, n, _, _, .str w.2.1, rfl, rfl, SqT.of (s4 _ _ hn3), ?_, ?_⟩
          · have := L2.atI_nat b2
            rw [show (1 : Int) + (i : Nat) - 1 = (i : Nat) by omega]
            exact this
          · have := L2.atI_nat b3
            rw [show (1 : Int) + (i : Nat) = ((i + 1 : Nat) : Int) by omega]
            exact this
          · refine ⟨(by show (2 : Nat) ≤ sizeLine; decide), fun b hb => ?_⟩
            have nDb : D ≠ b := ne_of_none eD hb
            have lenr : rp.length = i := by
              have := Paired.length hrp
              rw [List.length_map, List.length_take] at this
              omega
            refine ⟨rp.map V.ref, by rw [upd_ne nDb]; exact eD, by rw [List.length_map, lenr]; exact small1000 (by omega), ?_⟩
            have sT : SameT H4 (upd (upd H4 b (.tup [.str w.1, .str w.2.1])) D (.lst (rp.map V.ref ++ [.ref b]))) := by
              refine SameT.trans (SameT.of (Same.upd hb)) (SameT.upd fun xs z => ?_)
              rw [upd_ne nDb, eD] at z
              cases z
            refine ⟨Same.put (Same.put s4 (Same.nope s4 hb)) hD, rp ++ [b], ?_, by rw [upd_same, List.map_append]; rfl⟩
            rw [List.take_succ, hw, List.map_append]
            refine paired_snoc (hrp.sameT sT) ?_
            show upd _ D _ b = some _
            rw [upd_ne (Ne.symm nDb), upd_same]
            rfl
        · rintro H4 ⟨s4, rp, hrp, eD⟩
          rw [List.take_length] at hrp
          have s34 : Same H H4 := sA.trans s4
          -- the sum of the table's costs
          have lenr : rp.length = ws.length := by rw [Paired.length hrp, List.length_map]
          refine ⟨_, rfl, D, rfl, ⟨_, SqL.of eD⟩, fun E2 hE => ?_⟩
          refine lc_it (walk_list (xs := rp.map V.ref)) (fun i H' => Same H4 H' ∧ H' E2 = some (.lst (((ws.take i).map (·.2.2)).map V.int))) ⟨Same.upd hE, upd_same⟩ (fun _ _ _ q => SqL.of (q.1 _ _ eD)) ?_ ?_
          · rintro i x H5' H5 hi ⟨s5, eE⟩ ⟨rfl, ex⟩
            rw [List.getElem?_map] at ex
            obtain ⟨pc, ep, rfl⟩ := Option.map_eq_some_iff.mp ex
            obtain ⟨pw, epw, hpc⟩ := paired_get hrp ep
            rw [List.getElem?_map] at epw
            obtain ⟨w, hw, rfl⟩ := Option.map_eq_some_iff.mp epw
            obtain ⟨a1, a2, a3⟩ := w2 i w hw
            rw [List.length_map, lenr] at hi
            refine ⟨rfl, _, rfl, _, rfl, a, pc, cs, w, rfl, rfl, (ca.same s34).same s5, t5.way, t5.tab, s5 _ _ hpc, a1, fun H6 s6 => ?_⟩
            have lent : (((ws.take i).map (·.2.2)).map V.int).length = i := by rw [List.length_map, List.length_map, List.length_take]; omega
            refine ⟨_, s6 _ _ eE, by rw [lent]; exact small1000 (by omega), Same.put (s5.trans s6) hE, ?_⟩
            rw [upd_same, List.take_succ, hw, List.map_append, List.map_append]
            rfl
          · rintro H5 ⟨s5, eE⟩
            rw [show (rp.map V.ref).length = ws.length by rw [List.length_map, lenr], List.take_length] at eE
            refine ⟨E2, ws.map (·.2.2), rfl, SqL.of eE, _, rfl, rfl, true, ?_, iteT ?_⟩
            · rw [w3]; simp
            · refine ⟨_, rfl, rfl, _, rfl, _, rfl, rfl, rfl, ?_⟩
              have ez : decide (V.bl (decide (V.int d = V.int 0)) = V.bl (decide (V.str u = V.str v))) = true := by
                refine decide_eq_true ?_
                congr 1
                refine decide_eq_decide.mpr ⟨fun e => ?_, fun e => ?_⟩
                · have e0 : d = 0 := V.int.inj e
                  rw [hP.zero hpos e0]
                · have euv : u = v := V.str.inj e
                  subst euv
                  have h1 := hmin 0 [u] .start
                  have h2 := hP.nonneg hpos
                  rw [show d = 0 by omega]
              rw [ez]
              exact k _ (s34.trans s5)
end
end Ku
/-! _law_paths_right. -/
namespace Ku
open PySem PySem.Spec PyProof.Rows L2 SlX StX
/-- a table holds each way once: its least costs are itself -/
theorem mem_least_tab {cs ds : List Way} (h : ∀ a b c c', (a, b, c) ∈ ds → (a, b, c') ∈ ds → c = c') {w : Way} : w ∈ lstC ds ↔ w ∈ ds := Kl.mem_least_of slo_str h (a := w.1) (b := w.2.1) (c := w.2.2)
theorem turn_fn {cs : List Way} (t : TabC cs) : ∀ a b c c', (a, b, c) ∈ Kp.turn cs → (a, b, c') ∈ Kp.turn cs → c = c' := fun a b c c' h1 h2 => Kl.Tab.fn slo_str t (Kp.mem_turn.mp h1) (Kp.mem_turn.mp h2)
theorem dist_turned {cs : List Way} (t5 : Tab5 cs) (u v : Str) : Kp.dist (lstC (Kp.turn cs)) v u = Kp.dist cs u v :=
  Kp.dist_turn (pos_of t5.ok) fun w => mem_least_tab (cs := cs) (turn_fn t5.tab)
theorem scal_opt (x : Option Int) : scal (OptI x) (OptI x) = true := by cases x <;> rfl
theorem ne_opt (x : Option Int) : (!decide (OptI x = OptI x)) = false := by simp
theorem five_at {i : Nat} {x : V} (h : (five.map V.str)[i]? = some x) : ∃ z, z ∈ five ∧ x = .str z := by
  rw [List.getElem?_map] at h
  obtain ⟨z, hz, rfl⟩ := Option.map_eq_some_iff.mp h
  exact ⟨z, List.mem_of_getElem? hz, rfl⟩
theorem cut3 : cutV (five.map V.str) none (some 3) = (["a", "b", "shelf"] : List Str).map V.str := rfl
theorem three_at {i : Nat} {x : V} (h : (cutV (five.map V.str) none (some 3))[i]? = some x) : ∃ z, z ∈ five ∧ x = .str z := by
  rw [cut3, List.getElem?_map] at h
  obtain ⟨z, hz, rfl⟩ := Option.map_eq_some_iff.mp h
  refine ⟨z, ?_, rfl⟩
  have hm := List.mem_of_getElem? hz
  have sub : ∀ z ∈ (["a", "b", "shelf"] : List Str), z ∈ five := by decide +kernel
  exact sub z hm
section
variable {P : Program} {w : World} {K : PySem.W.Frag} {mg : Str → Option Value} {base : Heap} {C : Addr}
def spPSR (C : Addr) : Sp := fun vs H Q _ => ∃ (a L : Addr) (cs : List Way), vs = [.ref a, .ref L] ∧ CostsAt H a C cs ∧ Tab5 cs ∧ cs.length ≤ 60 ∧ H L = some (.lst (five.map V.str)) ∧ ∀ H', Same H H' → Q (.bl true) H'
abbrev NS : List Str := ["_law_table_here", "_law_names", "_law_own", "_law_name", "_law_late", "_law_mid", "_law_parts"]
theorem scPSR : FnScope NS ["_law_table_here", "_law_names"] (defScope sPathsRight) := ⟨rfl, rfl, rfl, by decide +kernel, rfl, by decide +kernel, by decide +kernel⟩
theorem ok_PSR {f : Addr} {fd : FuncData} (F : Fun K "_law_paths_right" "_law_paths_right" sPathsRight f fd) (hb : Binds K fd ["_law_table_here", "_law_names"] []) (G : Glb mg) (T : Ms P w K mg base C) (D1 : DefG P w K mg base "_law_path_right" 3 (spPR C)) : FnG P w K mg base 10 f (spPSR C) := by
  refine fn_g F scPSR hb (fun vs H Q E h => ?_) (fun cdv A outer s H vs Q hg hr h => ?_)
  · obtain ⟨a, L, cs, rfl, _⟩ := h
    rfl
  · obtain ⟨a, L, cs, rfl, ca, t5, hl, hL, k⟩ := h
    obtain ⟨dx, t, ps, hs, ht0, hpl, ht, hr2⟩ := ca.slt
    have hr2' := hr.mono (show 2 ≤ 9 by decide)
    refine ⟨_, pss_cons (ps_for PassesOwn.never rfl (pi_ownC T (hr.mono (by decide)) (pv 0)) (pg_name (i := 2) scPSR.nd rfl (Or.inl rfl))
        (pss_one (ps_if (PW.pt (pw_or (pt_cmp (pc_isN (pe_callC T hr2' (pv 0) (pa_cons (pe_ix ix_tup (pv 2) pe_int (fun _ _ => rfl)) (pa_cons (pe_ix ix_tup (pv 2) pe_int (fun _ _ => rfl)) pa_nil)))))
            (pw_or (pt_cmpR op_gt (pe_callC T hr2' (pv 0) (pa_cons (pe_ix ix_tup (pv 2) pe_int (fun _ _ => rfl)) (pa_cons (pe_ix ix_tup (pv 2) pe_int (fun _ _ => rfl)) pa_nil))) (pe_ix ix_tup (pv 2) pe_int (fun _ _ => rfl)) (nomark _))
            (pw_or1 (pt_cmpR op_ne (pe_ixC T hg hr2' (pv 0) (pe_slice sl_tup (pv 2) po_none (po_some pe_int)) (fun _ _ => by with_unfolding_all rfl)) (pe_ix ix_tup (pv 2) pe_int (fun _ _ => rfl)) (nomark _))))))
          (pss_one (ps_ret pe_bl)) pss_nil)))
      (pss_cons (ps_for PassesOwn.never rfl (pi_list (pv 1)) (pg_name (i := 3) scPSR.nd rfl (Or.inl rfl))
        (pss_one (ps_for PassesOwn.never rfl (pi_list (pv 1)) (pg_name (i := 4) scPSR.nd rfl (Or.inl rfl))
          (pss_cons (ps_if (PW.pt (pw_or (pt_not (pt_val (pe_defG D1 hg (hr.mono (by decide)) (pa_cons (pv 0) (pa_cons (pv 3) (pa_cons (pv 4) pa_nil))))))
              (pw_or1 (pt_cmpR op_ne (pe_callC T hr2' (pe_turnedC T hr (pv 0)) (pa_cons (pv 4) (pa_cons (pv 3) pa_nil))) (pe_callC T hr2' (pv 0) (pa_cons (pv 3) (pa_cons (pv 4) pa_nil))) (nomark _))))) (pss_one (ps_ret pe_bl)) pss_nil)
          (pss_one (ps_for PassesOwn.never rfl (pi_list (pe_slice sl_list (pv 1) po_none (po_some pe_int))) (pg_name (i := 5) scPSR.nd rfl (Or.inl rfl))
            (pss_cons (ps_set (i := 6) scPSR.nd rfl (Or.inl rfl) (pe_lst (pa_cons (pe_callC T hr2' (pv 0) (pa_cons (pv 3) (pa_cons (pv 5) pa_nil))) (pa_cons (pe_callC T hr2' (pv 0) (pa_cons (pv 5) (pa_cons (pv 4) pa_nil))) pa_nil))))
            (pss_cons (ps_if (pt_cmpR op_in_seq pe_non (pv 6) rfl) (pss_one ps_continue) pss_nil)
            (pss_one (ps_if (PW.pt (pw_or (pt_cmp (pc_isN (pe_callC T hr2' (pv 0) (pa_cons (pv 3) (pa_cons (pv 4) pa_nil)))))
                (pw_or1 (pt_cmpR op_gt (pe_callC T hr2' (pv 0) (pa_cons (pv 3) (pa_cons (pv 4) pa_nil))) (pe_callB (cr_sum rfl) (by rfl) G.sum bt_sum (pa_cons (pv 6) pa_nil)) (nomark _))))) (pss_one (ps_ret pe_bl)) pss_nil))))))))))
      (pss_one (ps_ret pe_bl))), ?_⟩
    have hpos := pos_of t5.ok
    -- the table's own ways
    refine ⟨_, rfl, a, dx, t, _, rfl, hs, ht, ?_⟩
    refine for_it (walk_tup (xs := ps.map V.ref)) (fun i σ H' => Same H H' ∧ ∃ b2, σ = [some (.ref a), some (.ref L), b2, none, none, none, none]) ⟨fun _ _ e => e, none, rfl⟩ (fun _ _ _ _ z => SqT.of (z.1 _ _ ht)) ?_ ?_
    · rintro i x σ H1' H1 hi ⟨s1, b2, rfl⟩ ⟨rfl, ex⟩
      rw [List.getElem?_map] at ex
      obtain ⟨pc, ep, rfl⟩ := Option.map_eq_some_iff.mp ex
      obtain ⟨c, ec, hpc⟩ := paired_get hr2 ep
      have hcm : c ∈ cs := List.mem_of_getElem? ec
      obtain ⟨d, hd, hle⟩ := Kp.dist_way (u := c.1) (v := c.2.1) hpos (c := c.2.2) hcm
      have hp1 := s1 _ _ hpc
      refine ⟨_, rfl, a, rfl, _, rfl, pc, _, 0, _, rfl, rfl, SqT.of hp1, rfl, _, rfl, pc, _, 1, _, rfl, rfl, SqT.of hp1, rfl, c.1, c.2.1, cs, rfl, ca.same s1, by omega, t5.ok, fun H2 s2 => ?_⟩
      rw [hd]
      refine ⟨_, rfl, iteF ?_⟩
      have hp2 := s2 _ _ hp1
      refine ⟨_, rfl, a, rfl, _, rfl, pc, _, 0, _, rfl, rfl, SqT.of hp2, rfl, _, rfl, pc, _, 1, _, rfl, rfl, SqT.of hp2, rfl, c.1, c.2.1, cs, rfl, (ca.same s1).same s2, by omega, t5.ok, fun H3 s3 => ?_⟩
      rw [hd]
      have hp3 := s3 _ _ hp2
      refine ⟨_, rfl, pc, _, 2, _, rfl, rfl, SqT.of hp3, rfl, d, c.2.2, rfl, rfl, _, rfl, ?_⟩
      rw [show decide (c.2.2 < d) = false from decide_eq_false (by omega)]
      refine iteF ⟨_, rfl, _, rfl, 2, rfl, pc, _, rfl, SqT.of hp3, (by show ¬ (HT.sIx 3 0 none = 0 ∧ HT.sIx 3 3 (some 2) = 3); decide), fun b hb => ?_⟩
      have s123 : Same H H3 := (s1.trans s2).trans s3
      have sb : Same H3 (upd H3 b (.tup (cutV (wayV c) none (some 2)))) := Same.upd hb
      refine ⟨a, b, cs, c, rfl, rfl, (ca.same s123).same sb, t5.way, t5.tab, (show upd H3 b _ b = some _ from upd_same), hcm, fun H4 s4 => ?_⟩
      have hp4 := s4 _ _ (sb _ _ hp3)
      refine ⟨_, rfl, pc, _, 2, _, rfl, rfl, SqT.of hp4, rfl, rfl, _, rfl, ?_⟩
      rw [show (!decide (V.int c.2.2 = V.int c.2.2)) = false by simp]
      exact iteF ⟨(s123.trans sb).trans s4, _, rfl⟩
    · rintro σ H1 ⟨s1, b2, rfl⟩
      -- all pairs of names
      refine ⟨_, rfl, L, rfl, ⟨_, SqL.of (s1 _ _ hL)⟩, ?_⟩
      refine for_it (walk_list (xs := five.map V.str)) (fun i σ H' => Same H H' ∧ ∃ b2 b3 b4 b5 b6, σ = [some (.ref a), some (.ref L), b2, b3, b4, b5, b6]) ⟨s1, b2, none, none, none, none, rfl⟩ (fun _ _ _ _ z => SqL.of (z.1 _ _ hL)) ?_ ?_
      · rintro i x σ H2' H2 hi ⟨s2, b2, b3, b4, b5, b6, rfl⟩ ⟨rfl, ex⟩
        obtain ⟨u, hu, rfl⟩ := five_at ex
        refine ⟨_, rfl, L, rfl, ⟨_, SqL.of (s2 _ _ hL)⟩, ?_⟩
        refine for_it (walk_list (xs := five.map V.str)) (fun i σ H' => Same H H' ∧ ∃ b2 b4 b5 b6, σ = [some (.ref a), some (.ref L), b2, some (.str u), b4, b5, b6]) ⟨s2, b2, b4, b5, b6, rfl⟩ (fun _ _ _ _ z => SqL.of (z.1 _ _ hL)) ?_ ?_
        · rintro j x σ H3' H3 hj ⟨s3, c2, c4, c5, c6, rfl⟩ ⟨rfl, ex2⟩
          obtain ⟨v, hv, rfl⟩ := five_at ex2
          refine ⟨_, rfl, _, rfl, _, rfl, a, u, v, cs, rfl, ca.same s3, t5, hl, hu, hv, fun H4 s4 => ⟨_, rfl, iteF ?_⟩⟩
          have s34 : Same H H4 := s3.trans s4
          refine ⟨_, rfl, a, dx, _, rfl, Slt.same s34 hs, a, cs, rfl, ca.same s34, t5.ok, fun H5 b s5 cb => ?_⟩
          have tok := turn_ok t5.ok
          refine ⟨b, rfl, _, rfl, _, rfl, v, u, lstC (Kp.turn cs), rfl, cb, ?_, fun c hc => tok c (mem_least hc), fun H6 s6 => ?_⟩
          · have h1 := least_length (Kp.turn cs)
            have h2 : (Kp.turn cs).length = cs.length := by unfold Kp.turn; rw [List.length_map]
            omega
          rw [dist_turned t5]
          have s36 : Same H H6 := (s34.trans s5).trans s6
          refine ⟨_, rfl, a, rfl, _, rfl, _, rfl, u, v, cs, rfl, ca.same s36, by omega, t5.ok, fun H7 s7 => ?_⟩
          refine ⟨scal_opt _, _, rfl, ?_⟩
          rw [ne_opt]
          refine iteF ?_
          have s37 : Same H H7 := s36.trans s7
          -- over a third name
          refine ⟨_, rfl, 3, rfl, L, _, rfl, SqL.of (s37 _ _ hL), fun L3 hL3 => ?_⟩
          have s8 : Same H (upd H7 L3 (.lst (cutV (five.map V.str) none (some 3)))) := s37.trans (Same.upd hL3)
          have hL38 : upd H7 L3 (.lst (cutV (five.map V.str) none (some 3))) L3 = some (.lst (cutV (five.map V.str) none (some 3))) := upd_same
          generalize upd H7 L3 (.lst (cutV (five.map V.str) none (some 3))) = H8 at s8 hL38
          refine ⟨L3, rfl, ⟨_, SqL.of hL38⟩, ?_⟩
          refine for_it (walk_list (xs := cutV (five.map V.str) none (some 3))) (fun i σ H' => Same H8 H' ∧ ∃ b2 b5 b6, σ = [some (.ref a), some (.ref L), b2, some (.str u), some (.str v), b5, b6]) ⟨fun _ _ e => e, c2, c5, c6, rfl⟩ (fun _ _ _ _ z => SqL.of (z.1 _ _ hL38)) ?_ ?_
          · rintro m x σ H9' H9 hm ⟨s9, d2, d5, d6, rfl⟩ ⟨rfl, ex3⟩
            obtain ⟨y, hy, rfl⟩ := three_at ex3
            have s89 : Same H H9 := s8.trans s9
            refine ⟨_, rfl, a, rfl, _, rfl, _, rfl, u, y, cs, rfl, ca.same s89, by omega, t5.ok, fun H10 s10 => ?_⟩
            refine ⟨_, rfl, a, rfl, _, rfl, _, rfl, y, v, cs, rfl, (ca.same s89).same s10, by omega, t5.ok, fun H11 s11 => ?_⟩
            refine ⟨(by show (2 : Nat) ≤ sizeLine; decide), fun q hq => ?_⟩
            have s12 : Same H9 (upd H11 q (.lst [OptI (Kp.dist cs u y), OptI (Kp.dist cs y v)])) := (s10.trans s11).trans (Same.upd hq)
            have hq12 : upd H11 q (.lst [OptI (Kp.dist cs u y), OptI (Kp.dist cs y v)]) q = some (.lst [OptI (Kp.dist cs u y), OptI (Kp.dist cs y v)]) := upd_same
            generalize upd H11 q (.lst [OptI (Kp.dist cs u y), OptI (Kp.dist cs y v)]) = H12 at s12 hq12
            have s812 : Same H8 H12 := s9.trans s12
            have s012 : Same H H12 := s8.trans s812
            cases h1 : Kp.dist cs u y with
            | none =>
              rw [h1] at hq12
              cases h2 : Kp.dist cs y v with
              | none =>
                rw [h2] at hq12
                exact ⟨_, rfl, q, _, rfl, .inl (SqL.of hq12), rfl, rfl, _, rfl, iteT ⟨s812, _, _, _, rfl⟩⟩
              | some e =>
                rw [h2] at hq12
                exact ⟨_, rfl, q, _, rfl, .inl (SqL.of hq12), rfl, rfl, _, rfl, iteT ⟨s812, _, _, _, rfl⟩⟩
            | some d =>
              rw [h1] at hq12
              cases h2 : Kp.dist cs y v with
              | none =>
                rw [h2] at hq12
                exact ⟨_, rfl, q, _, rfl, .inl (SqL.of hq12), rfl, rfl, _, rfl, iteT ⟨s812, _, _, _, rfl⟩⟩
              | some e =>
                rw [h2] at hq12
                obtain ⟨g, hg1, hg2⟩ := Kp.dist_over hpos h1 h2
                refine ⟨_, rfl, q, _, rfl, .inl (SqL.of hq12), rfl, rfl, _, rfl, iteF ?_⟩
                refine ⟨_, rfl, a, rfl, _, rfl, _, rfl, u, v, cs, rfl, ca.same s012, by omega, t5.ok, fun H13 s13 => ?_⟩
                rw [hg1]
                refine ⟨_, rfl, iteF ?_⟩
                refine ⟨_, rfl, a, rfl, _, rfl, _, rfl, u, v, cs, rfl, (ca.same s012).same s13, by omega, t5.ok, fun H14 s14 => ?_⟩
                rw [hg1]
                refine ⟨_, rfl, q, [d, e], rfl, SqL.of (s14 _ _ (s13 _ _ hq12)), g, _, rfl, rfl, _, rfl, ?_⟩
                rw [show decide (([d, e] : List Int).sum < g) = false from decide_eq_false (by simp; omega)]
                exact iteF ⟨(s812.trans s13).trans s14, _, _, _, rfl⟩
          · rintro σ H9 ⟨s9, d2, d5, d6, rfl⟩
            exact ⟨s8.trans s9, _, _, _, _, rfl⟩
        · rintro σ H3 ⟨s3, c2, c4, c5, c6, rfl⟩
          exact ⟨s3, _, _, _, _, _, rfl⟩
      · rintro σ H2 ⟨s2, b2, b3, b4, b5, b6, rfl⟩
        exact k _ s2
end
end Ku
/-! What _law_two_right asks, in plain Lean; its list of pairs. -/
namespace Ku
open PySem PySem.Spec PyProof.Rows L2 SlX StX
theorem or_comm (cs ds : List Way) : lstC (cs ++ ds) = lstC (ds ++ cs) := Kl.least_congr slo_str fun w => by rw [List.mem_append, List.mem_append]; exact Or.comm
theorem or_back (cs ds : List Way) : lstC (lstC (cs ++ ds) ++ cs) = lstC (cs ++ ds) := by
  unfold lstC
  rw [Kl.least_least slo_str]
  exact Kl.least_congr slo_str fun w => by simp only [List.mem_append]; constructor <;> intro h <;> rcases h with h | h <;> simp_all
theorem or_self {cs : List Way} (t : TabC cs) : lstC (cs ++ cs) = cs := (Kl.least_congr slo_str fun w => by simp).trans (Kl.least_self slo_str t)
theorem least_nil : lstC [] = [] := Kl.least_self slo_str Kl.Tab.nil
theorem or_nil {cs : List Way} (t : TabC cs) : lstC (cs ++ lstC []) = cs := by
  rw [least_nil, List.append_nil]
  exact Kl.least_self slo_str t
theorem mem_lst {cs : List Way} {a b : Str} {c : Int} : (a, b, c) ∈ lstC cs ↔ (a, b, c) ∈ cs ∧ ∀ c', (a, b, c') ∈ cs → c ≤ c' := Kl.mem_least slo_str
theorem or_turned (cs ds : List Way) : lstC (Kp.turn (lstC (cs ++ ds))) = lstC (lstC (Kp.turn cs) ++ lstC (Kp.turn ds)) := by
  have r : lstC (lstC (Kp.turn cs) ++ lstC (Kp.turn ds)) = lstC (Kp.turn (cs ++ ds)) := by
    have e1 : lstC (lstC (Kp.turn cs) ++ lstC (Kp.turn ds)) = lstC (Kp.turn cs ++ lstC (Kp.turn ds)) := Kl.least_least slo_str _ _
    rw [e1, or_comm]
    have e2 : lstC (lstC (Kp.turn ds) ++ Kp.turn cs) = lstC (Kp.turn ds ++ Kp.turn cs) := Kl.least_least slo_str _ _
    rw [e2, or_comm]
    unfold Kp.turn
    rw [List.map_append]
  rw [r]
  refine Kl.Tab.ext slo_str (Kl.least_tab slo_str _) (Kl.least_tab slo_str _) fun a b c => ?_
  have f := turn_fn (Kl.least_tab slo_str (cs ++ ds))
  rw [show ((a, b, c) ∈ Kl.least sLt (Kp.turn (lstC (cs ++ ds))) ↔ (a, b, c) ∈ Kp.turn (lstC (cs ++ ds))) from Kl.mem_least_of slo_str f]
  rw [show ((a, b, c) ∈ Kl.least sLt (Kp.turn (cs ++ ds)) ↔ _) from mem_lst, Kp.mem_turn, mem_lst]
  simp only [Kp.mem_turn]
theorem int_least : ∀ {l : List Int}, l ≠ [] → ∃ m, m ∈ l ∧ ∀ y ∈ l, m ≤ y
  | [], h => (h rfl).elim
  | [x], _ => ⟨x, by simp, by simp⟩
  | x :: y :: l, _ => by
    obtain ⟨m, h1, h2⟩ := int_least (l := y :: l) (by simp)
    by_cases h : x ≤ m
    · exact ⟨x, by simp, fun z hz => by
        rcases List.mem_cons.mp hz with e | hz
        · omega
        · have := h2 z hz; omega⟩
    · exact ⟨m, by simp [h1], fun z hz => by
        rcases List.mem_cons.mp hz with e | hz
        · omega
        · exact h2 z hz⟩
/-- of each way a least cost stands -/
theorem least_ex {cs : List Way} {w : Way} (h : w ∈ cs) : ∃ c', (w.1, w.2.1, c') ∈ lstC cs ∧ c' ≤ w.2.2 := by
  obtain ⟨m, h1, h2⟩ := int_least (l := (cs.filter fun d => decide (Kl.pr d = Kl.pr w)).map (·.2.2)) (by
    intro e
    have : w.2.2 ∈ (cs.filter fun d => decide (Kl.pr d = Kl.pr w)).map (·.2.2) := List.mem_map.mpr ⟨w, List.mem_filter.mpr ⟨h, by simp⟩, rfl⟩
    rw [e] at this
    cases this)
  have all : ∀ c', (w.1, w.2.1, c') ∈ cs → m ≤ c' := fun c' hc => h2 c' (List.mem_map.mpr ⟨(w.1, w.2.1, c'), List.mem_filter.mpr ⟨hc, by simp [Kl.pr]⟩, rfl⟩)
  obtain ⟨d, hd, rfl⟩ := List.mem_map.mp h1
  obtain ⟨hd1, hd2⟩ := List.mem_filter.mp hd
  have hp : Kl.pr d = Kl.pr w := by simpa using hd2
  have e1 : d.1 = w.1 := congrArg (fun p : Str × Str => p.1) hp
  have e2 : d.2.1 = w.2.1 := congrArg (fun p : Str × Str => p.2) hp
  refine ⟨d.2.2, mem_lst.mpr ⟨?_, all⟩, all w.2.2 h⟩
  rw [← e1, ← e2]
  exact hd1
/-- the pairs of both, sorted: those of the union -/
theorem pairs_sorted {cs ds : List Way} {ps : List (Str × Str)} (nd : ps.Nodup) (hm : ∀ q, q ∈ ps ↔ q ∈ cs.map Kl.pr ++ ds.map Kl.pr) :
    (lstC (cs ++ ds)).map Kl.pr = ps.mergeSort fun a b => !Kl.lt2 sLt b a := by
  refine Kl.sorted_ext (Kl.slo2 slo_str) (Kl.Tab.pairs slo_str (Kl.least_tab slo_str _)) (Kl.sort_strict (Kl.slo2 slo_str) nd) fun q => ?_
  rw [(List.mergeSort_perm _ _).mem_iff, hm, ← List.map_append]
  constructor
  · intro h
    obtain ⟨w, hw, rfl⟩ := List.mem_map.mp h
    exact List.mem_map.mpr ⟨w, mem_least hw, rfl⟩
  · intro h
    obtain ⟨w, hw, rfl⟩ := List.mem_map.mp h
    obtain ⟨c', h1, _⟩ := least_ex hw
    exact List.mem_map.mpr ⟨_, h1, rfl⟩
theorem or_mono {cs ds : List Way} (t5 : Tab5 cs) (t6 : Tab5 ds) {u v : Str} {d : Int} (h : Kp.dist cs u v = some d) : ∃ e, Kp.dist (lstC (cs ++ ds)) u v = some e ∧ e ≤ d := by
  have w5 : Tab5 (lstC (cs ++ ds)) := Tab5.least fun c hc => (List.mem_append.mp hc).elim (t5.way c) (t6.way c)
  exact Kp.dist_mono (pos_of t5.ok) (pos_of w5.ok) (fun w hw => least_ex (List.mem_append_left _ hw)) h
/-! ### [own[:2] for own in x] -/
abbrev tPrs (K : PySem.W.Frag) (C : Addr) (j i : Nat) : TE := tLc (iOwn K C (tVar j)) (gName i) tYes (L2.tSl (rSlT K) (tVar i) tNoPart (tPart (tC (.int 2)))) [i]
theorem lc_pairs {K : PySem.W.Frag} {C a : Addr} {i j : Nat} {σ : L2.St} {H : Hp} {Q : VK} {cs : List Way} (hσ : σ[j]? = some (some (.ref a))) (hi : i < σ.length) (ca : CostsAt H a C cs)
    (q : ∀ H' D rp, Same H H' → PrsAt H' rp (cs.map Kl.pr) → H' D = some (.lst (rp.map V.ref)) → H D = none → Q (.ref D) H') : tPrs K C j i σ H Q := by
  obtain ⟨dx, t, ps, hs, ht0, hpl, ht, hr2⟩ := ca.slt
  have len1 : ps.length = cs.length := Paired.length hr2
  refine ⟨_, hσ, a, dx, t, _, rfl, hs, ht, fun D hD => ?_⟩
  refine lc_it (walk_tup (xs := ps.map V.ref)) (fun i H' => Same H H' ∧ ∃ rp : List Addr, PrsAt H' rp ((cs.take i).map Kl.pr) ∧ H' D = some (.lst (rp.map V.ref))) ⟨Same.upd hD, [], .nil, upd_same⟩ (fun _ _ _ z => SqT.of (z.1 _ _ ht)) ?_ ?_
  · rintro m x H1' H1 hm ⟨s1, rp, hrp, eD⟩ ⟨rfl, ex⟩
    rw [List.getElem?_map] at ex
    obtain ⟨pc, ep, rfl⟩ := Option.map_eq_some_iff.mp ex
    obtain ⟨c, ec, hpc⟩ := paired_get hr2 ep
    rw [List.length_map] at hm
    refine ⟨?_, .ref pc, ?_, 2, rfl, pc, _, rfl, SqT.of (s1 _ _ hpc), (by show ¬ (HT.sIx 3 0 none = 0 ∧ HT.sIx 3 3 (some 2) = 3); decide), fun b hb => ?_⟩
    · show ((σ.set i none).set i (some (V.ref pc))).set i none = σ.set i none
      rw [List.set_set, List.set_set]
    · show ((σ.set i none).set i (some (V.ref pc)))[i]? = some (some (V.ref pc))
      rw [List.getElem?_set_self (by rw [List.length_set]; exact hi)]
    have nDb : D ≠ b := ne_of_none eD hb
    have lenr : rp.length = m := by
      have := Paired.length hrp
      rw [List.length_map, List.length_take] at this
      omega
    refine ⟨rp.map V.ref, by rw [upd_ne nDb]; exact eD, by rw [List.length_map, lenr]; exact small1000 (by omega), ?_⟩
    have sT : SameT H1 (upd (upd H1 b (.tup (cutV (wayV c) none (some 2)))) D (.lst (rp.map V.ref ++ [.ref b]))) := by
      refine SameT.trans (SameT.of (Same.upd hb)) (SameT.upd fun xs z => ?_)
      rw [upd_ne nDb, eD] at z
      cases z
    refine ⟨Same.put (Same.put s1 (Same.nope s1 hb)) hD, rp ++ [b], ?_, by rw [upd_same, List.map_append]; rfl⟩
    rw [List.take_succ, ec, List.map_append]
    refine paired_snoc (hrp.sameT sT) ?_
    show upd _ D _ b = some _
    rw [upd_ne (Ne.symm nDb), upd_same]
    rfl
  · rintro H1 ⟨s1, rp, hrp, eD⟩
    rw [show (ps.map V.ref).length = cs.length by rw [List.length_map, len1], List.take_length] at hrp
    exact q H1 D rp s1 hrp eD hD
end Ku
/-! _law_two_right. -/
namespace Ku
open PySem PySem.Spec PyProof.Rows L2 SlX StX

theorem nb {l m : List Way} (e : l = m) : (!decide (l = m)) = false := by rw [decide_eq_true e]; rfl
theorem ifNb {l m : List Way} {p q : Prop} {i : Decidable ((!decide (l = m)) = true)} (e : l = m) (h : q) : @ite Prop ((!decide (l = m)) = true) i p q := by
  rw [if_neg (by rw [nb e]; exact Bool.false_ne_true)]
  exact h
theorem ks_of {H : Hp} : ∀ {rp : List Addr} {prs : List (Str × Str)}, PrsAt H rp prs → ∃ ks : List (Addr × List Key), ks.map (·.1) = rp ∧ ks.map (·.2) = prs.map prK ∧ ∀ p ∈ ks, H p.1 = some (.tup (p.2.map kV))
  | _, _, .nil => ⟨[], rfl, rfl, fun p hp => by cases hp⟩
  | _, _, .cons (a := a) (b := b) h t => by
    obtain ⟨ks, h1, h2, h3⟩ := ks_of t
    refine ⟨(a, prK b) :: ks, by rw [List.map_cons, h1], by rw [List.map_cons, h2]; rfl, fun p hp => ?_⟩
    rcases List.mem_cons.mp hp with e | e
    · rw [e]; exact h
    · exact h3 p e
theorem unkey : ∀ {rows : List (List Key)}, (∀ r ∈ rows, ∃ q, r = prK q) → ∃ ps : List (Str × Str), rows = ps.map prK
  | [], _ => ⟨[], rfl⟩
  | r :: rows, h => by
    obtain ⟨q, rfl⟩ := h r (by simp)
    obtain ⟨ps, e⟩ := unkey (rows := rows) fun r' hr => h r' (List.mem_cons_of_mem _ hr)
    exact ⟨q :: ps, by rw [e]; rfl⟩
theorem k_prs {H : Hp} : ∀ {ps : List Addr} {cs : List (Str × Str)}, KRows H ps (cs.map prK) → PrsAt H ps cs
  | [], [], _ => .nil
  | [], _ :: _, h => by rw [List.map_cons] at h; cases h
  | _ :: _, [], h => by rw [List.map_nil] at h; cases h
  | p :: ps, c :: cs, h => by
    rw [List.map_cons] at h
    cases h with
    | cons a t => exact .cons a (k_prs t)
theorem map_prK_inj {l m : List (Str × Str)} (h : l.map prK = m.map prK) : l = m := (List.map_inj_right fun a b e => prK_inj e).mp h
section
variable {P : Program} {w : World} {K : PySem.W.Frag} {mg : Str → Option Value} {base : Heap} {C : Addr}
def sp2R (C : Addr) : Sp := fun vs H Q _ => ∃ (a b L : Addr) (cs ds : List Way), vs = [.ref a, .ref b, .ref L] ∧ CostsAt H a C cs ∧ CostsAt H b C ds ∧ Tab5 cs ∧ Tab5 ds ∧ cs.length ≤ 20 ∧ ds.length ≤ 20 ∧ H L = some (.lst (five.map V.str)) ∧ ∀ H', Same H H' → Q (.bl true) H'
abbrev N2 : List Str := ["_law_table_here", "_law_late", "_law_names", "_law_both", "_law_pairs", "_law_own", "_law_some", "_law_name", "_law_mid", "_law_part"]
theorem sc2R : FnScope N2 ["_law_table_here", "_law_late", "_law_names"] (defScope sTwoRight) := ⟨rfl, rfl, rfl, by decide +kernel, rfl, by decide +kernel, by decide +kernel⟩
theorem bt_set : bootBuiltins "set" = some (.type "set") := by decide +kernel
theorem bt_min : bootBuiltins "min" = some (.builtin "min") := by decide +kernel
theorem ok_2R {f : Addr} {fd : FuncData} (F : Fun K "_law_two_right" "_law_two_right" sTwoRight f fd) (G : Glb mg) (T : Ms P w K mg base C) : FnOk P w K mg base CX0 10 f fd ["_law_table_here", "_law_late", "_law_names"] (sp2R C) := by
  refine F.ok sc2R (fun vs H Q E h => ?_) (fun cdv A outer s H vs Q E hr h => ?_)
  · obtain ⟨a, b, L, cs, ds, rfl, _⟩ := h
    rfl
  · obtain ⟨a, b, L, cs, ds, rfl, ca, cb, t5, t6, hl, hl2, hL, k⟩ := h
    have hr1 := hr.mono (show 1 ≤ 9 by decide)
    have hr2 := hr.mono (show 2 ≤ 9 by decide)
    have hr4 := hr.mono (show 4 ≤ 9 by decide)
    have hr5 := hr.mono (show 5 ≤ 9 by decide)
    have hr8 := hr.mono (show 8 ≤ 9 by decide)
    have hu := hr.units
    refine ⟨_, pss_cons (ps_set (i := 3) sc2R.nd rfl (Or.inl rfl) (pe_op (op_orC T hr) (pv 0) (pv 1)))
      (pss_cons (ps_if (PW.pt (pw_or (pt_cmpR (op_neC T hr2) (pv 3) (pe_op (op_orC T hr) (pv 1) (pv 0)) (nomark _))
          (pw_or (pt_cmpR (op_neC T hr2) (pe_op (op_orC T hr) (pv 3) (pv 0)) (pv 3) (nomark _))
          (pw_or (pt_cmpR (op_neC T hr2) (pe_op (op_orC T hr) (pv 0) (pv 0)) (pv 0) (nomark _))
          (pw_or1 (pt_cmpR (op_neC T hr2) (pe_op (op_orC T hr) (pv 0) (pe_new0 T.cls hr8)) (pv 0) (nomark _))))))) (pss_one (ps_ret pe_bl)) pss_nil)
      (pss_cons (ps_set (i := 4) sc2R.nd rfl (Or.inl rfl) (pe_callB (cr_sortedT rfl hr) (by rfl) G.sorted boot_sorted (pa_cons (pe_callTy (cr_setT rfl hr) (by rfl) G.set bt_set (pa_cons (pe_op op_cat
          (pe_lc (own := [("_law_own", 5)]) (g := gName 5) (tt := tYes) (te := L2.tSl (rSlT K) (tVar 5) tNoPart (tPart (tC (.int 2)))) rfl sc2R.nd (pi_ownC T hr1 (pv 0)) (blkOk_by (own := [("_law_own", 5)]) (N := N2) (sc := defScope sTwoRight) (by decide +kernel))
            (fun _ _ _ _ _ => pg_name (i := 5) sc2R.nd rfl (Or.inl rfl)) (fun _ _ _ _ _ => pts_nil) (fun _ _ _ _ _ => pe_slice sl_tup (pv 5) po_none (po_some pe_int)))
          (pe_lc (own := [("_law_own", 5)]) (g := gName 5) (tt := tYes) (te := L2.tSl (rSlT K) (tVar 5) tNoPart (tPart (tC (.int 2)))) rfl sc2R.nd (pi_ownC T hr1 (pv 1)) (blkOk_by (own := [("_law_own", 5)]) (N := N2) (sc := defScope sTwoRight) (by decide +kernel))
            (fun _ _ _ _ _ => pg_name (i := 5) sc2R.nd rfl (Or.inl rfl)) (fun _ _ _ _ _ => pts_nil) (fun _ _ _ _ _ => pe_slice sl_tup (pv 5) po_none (po_some pe_int)))) pa_nil)) pa_nil)))
      (pss_cons (ps_if (PW.pt (pw_or (pt_cmpR (op_neD hu)
            (pe_lc (own := [("_law_own", 5)]) (g := gName 5) (tt := tYes) (te := L2.tSl (rSlT K) (tVar 5) tNoPart (tPart (tC (.int 2)))) rfl sc2R.nd (pi_ownC T hr1 (pv 3)) (blkOk_by (own := [("_law_own", 5)]) (N := N2) (sc := defScope sTwoRight) (by decide +kernel))
              (fun _ _ _ _ _ => pg_name (i := 5) sc2R.nd rfl (Or.inl rfl)) (fun _ _ _ _ _ => pts_nil) (fun _ _ _ _ _ => pe_slice sl_tup (pv 5) po_none (po_some pe_int))) (pv 4) (nomark _))
          (pw_or (pt_cmpR op_ne (pe_callB (cr_lenC T hr2) (by rfl) G.len PySem.boot_len (pa_cons (pv 3) pa_nil)) (pe_callB call_len_seq (by rfl) G.len PySem.boot_len (pa_cons (pv 4) pa_nil)) (nomark _))
          (pw_or1 (pt_cmpR (op_neC T hr2) (pe_turnedC T hr (pv 3)) (pe_op (op_orC T hr) (pe_turnedC T hr (pv 0)) (pe_turnedC T hr (pv 1))) (nomark _)))))) (pss_one (ps_ret pe_bl)) pss_nil)
      (pss_cons (ps_for PassesOwn.never rfl (pi_ownC T hr1 (pv 3)) (pg_name (i := 5) sc2R.nd rfl (Or.inr rfl))
          (pss_cons (ps_setLc (i := 6) (own := [("_law_part", 9)]) (g := gName 9) (tt := tTest (tOp (rEqD K) (L2.tSl (rSlT K) (tVar 9) tNoPart (tPart (tC (.int 2)))) (L2.tSl (rSlT K) (tVar 5) tNoPart (tPart (tC (.int 2))))))
              (te := tOp (rIxT K) (tVar 9) (tC (.int 2))) rfl sc2R.nd rfl rfl (sw_true rfl rfl rfl (by decide +kernel))
              (pi_list (pe_op op_cat (pe_callTy (cr_listC T rfl hr4) (by rfl) G.list bt_list (pa_cons (pv 0) pa_nil)) (pe_callTy (cr_listC T rfl hr4) (by rfl) G.list bt_list (pa_cons (pv 1) pa_nil))))
              (blkOk_by (own := [("_law_part", 9)]) (N := N2) (sc := defScope sTwoRight) (by decide +kernel)) (fun _ _ _ _ _ => pg_name (i := 9) sc2R.nd rfl (Or.inl rfl))
              (fun _ _ _ _ _ => pts_one (pt_cmpR (op_eqD hu) (pe_slice sl_tup (pv 9) po_none (po_some pe_int)) (pe_slice sl_tup (pv 5) po_none (po_some pe_int)) (nomark _)))
              (fun _ _ _ _ _ => pe_ix ix_tup (pv 9) pe_int (fun _ _ => rfl)))
          (pss_one (ps_if (PW.pt (pw_or (pt_cmpR op_ne (pe_ix ix_tup (pv 5) pe_int (fun _ _ => rfl)) (pe_callB (cr_min rfl) (by rfl) G.min bt_min (pa_cons (pv 6) pa_nil)) (nomark _))
              (pw_or1 (pt_cmpR (op_notInC T hr5) (pv 5) (pv 3) rfl)))) (pss_one (ps_ret pe_bl)) pss_nil))))
      (pss_cons (ps_for PassesOwn.never rfl (pi_list (pe_slice sl_list (pv 2) po_none (po_some pe_int))) (pg_name (i := 7) sc2R.nd rfl (Or.inl rfl))
          (pss_one (ps_for PassesOwn.never rfl (pi_list (pv 2)) (pg_name (i := 8) sc2R.nd rfl (Or.inl rfl))
            (pss_cons (ps_if (pt_cmp (pc_isN (pe_callC T hr2 (pv 0) (pa_cons (pv 7) (pa_cons (pv 8) pa_nil))))) (pss_one ps_continue) pss_nil)
            (pss_one (ps_if (PW.pt (pw_or (pt_cmp (pc_isN (pe_callC T hr2 (pv 3) (pa_cons (pv 7) (pa_cons (pv 8) pa_nil)))))
                (pw_or1 (pt_cmpR op_gt (pe_callC T hr2 (pv 3) (pa_cons (pv 7) (pa_cons (pv 8) pa_nil))) (pe_callC T hr2 (pv 0) (pa_cons (pv 7) (pa_cons (pv 8) pa_nil))) (nomark _))))) (pss_one (ps_ret pe_bl)) pss_nil))))))
      (pss_one (ps_ret (pe_and (pe_cmpR op_eq (pe_cmpR (op_eqC T hr2) (pv 0) (pv 1) (nomark _)) (pe_cmpR (op_eqD hu) (pe_callTy (cr_listC T rfl hr4) (by rfl) G.list bt_list (pa_cons (pv 0) pa_nil)) (pe_callTy (cr_listC T rfl hr4) (by rfl) G.list bt_list (pa_cons (pv 1) pa_nil)) (nomark _)) (nomark _))
        (pe_one (pe_cmpR op_eq (pe_cmpR (op_neC T hr2) (pv 0) (pv 1) (nomark _)) (pe_cmpR (op_neD hu) (pe_callTy (cr_listC T rfl hr4) (by rfl) G.list bt_list (pa_cons (pv 0) pa_nil)) (pe_callTy (cr_listC T rfl hr4) (by rfl) G.list bt_list (pa_cons (pv 1) pa_nil)) (nomark _)) (nomark _))))))))))), ?_⟩
    have mem : ∀ c ∈ cs ++ ds, Way5 c := fun c hc => (List.mem_append.mp hc).elim (t5.way c) (t6.way c)
    have tb : Tab5 (lstC (cs ++ ds)) := Tab5.least mem
    have lb : (lstC (cs ++ ds)).length ≤ 40 := Nat.le_trans (least_length _) (by rw [List.length_append]; omega)
    generalize hbo : lstC (cs ++ ds) = bo at tb lb
    -- both = table | late
    refine ⟨_, rfl, _, rfl, a, b, cs, ds, rfl, rfl, ca, cb, t5.ok, t6.ok, by omega, fun H1 x s1 cx => ?_⟩
    rw [hbo] at cx
    have ok2 : ∀ {l : List Way}, (∀ c ∈ l, Way5 c) → ∀ c ∈ lstC l, WayOk c := fun h => (Tab5.least h).ok
    have memd : ∀ c ∈ ds ++ cs, Way5 c := fun c hc => (List.mem_append.mp hc).elim (t6.way c) (t5.way c)
    have memb : ∀ c ∈ bo ++ cs, Way5 c := fun c hc => (List.mem_append.mp hc).elim (tb.way c) (t5.way c)
    have memc : ∀ c ∈ cs ++ cs, Way5 c := fun c hc => (List.mem_append.mp hc).elim (t5.way c) (t5.way c)
    have memn : ∀ c ∈ cs ++ lstC [], Way5 c := fun c hc => (List.mem_append.mp hc).elim (t5.way c) fun z => by rw [least_nil] at z; cases z
    refine ⟨_, rfl, _, rfl, _, rfl, b, a, ds, cs, rfl, rfl, cb.same s1, ca.same s1, t6.ok, t5.ok, by omega, fun H2 y2 s2 c2 => ?_⟩
    refine ⟨x, y2, bo, _, rfl, rfl, cx.same s2, c2, tb.ok, ok2 memd, fun H3 s3 => ⟨_, rfl, ?_⟩⟩
    refine ifNb (show bo = lstC (ds ++ cs) by rw [← hbo]; exact or_comm cs ds) ?_
    have S3 : Same H1 H3 := s2.trans s3
    refine ⟨_, rfl, _, rfl, x, a, bo, cs, rfl, rfl, cx.same S3, (ca.same s1).same S3, tb.ok, t5.ok, by omega, fun H4 y4 s4 c4 => ?_⟩
    refine ⟨_, rfl, y4, x, _, bo, rfl, rfl, c4, (cx.same S3).same s4, ok2 memb, tb.ok, fun H5 s5 => ⟨_, rfl, ?_⟩⟩
    refine ifNb (show lstC (bo ++ cs) = bo by rw [← hbo]; exact or_back cs ds) ?_
    have S5 : Same H1 H5 := (S3.trans s4).trans s5
    refine ⟨_, rfl, _, rfl, a, a, cs, cs, rfl, rfl, (ca.same s1).same S5, (ca.same s1).same S5, t5.ok, t5.ok, by omega, fun H6 y6 s6 c6 => ?_⟩
    refine ⟨_, rfl, y6, a, _, cs, rfl, rfl, c6, ((ca.same s1).same S5).same s6, ok2 memc, t5.ok, fun H7 s7 => ⟨_, rfl, ?_⟩⟩
    refine ifNb (or_self t5.tab) ?_
    have S7 : Same H1 H7 := (S5.trans s6).trans s7
    refine ⟨_, rfl, [], [], rfl, .nil, (fun c hc => by cases hc), Nat.zero_le _, fun H8 y8 s8 c8 => ?_⟩
    have S8 : Same H1 H8 := S7.trans s8
    refine ⟨a, y8, cs, _, rfl, rfl, (ca.same s1).same S8, c8, t5.ok, (fun c hc => by rw [least_nil] at hc; cases hc), (by rw [least_nil]; simp; omega), fun H9 y9 s9 c9 => ?_⟩
    refine ⟨_, rfl, y9, a, _, cs, rfl, rfl, c9, ((ca.same s1).same S8).same s9, ok2 memn, t5.ok, fun H10 s10 => ⟨_, rfl, ?_⟩⟩
    refine ifNb (or_nil t5.tab) ?_
    have SA : Same H H10 := s1.trans ((S8.trans s9).trans s10)
    have cxA : CostsAt H10 x C bo := cx.same ((S8.trans s9).trans s10)
    clear c2 c4 c6 c8 c9
    generalize H10 = HA at SA cxA ⊢
    -- the pairs
    dsimp only [tNext, tSeq, tAsg, tCB, tCons, tOp]
    refine lc_pairs (K := K) (C := C) (i := 5) (j := 0) (cs := cs) rfl (show 5 < 10 by decide) (ca.same SA) fun H11 q1 rp1 s11 p1 e1 n1 => ?_
    try dsimp only [tNext, tSeq, tAsg, tCB, tCons, tOp, tIfS, tOr, tTest]
    refine lc_pairs (K := K) (C := C) (i := 5) (j := 1) (cs := ds) rfl (show 5 < 10 by decide) ((cb.same SA).same s11) fun H12 q2 rp2 s12 p2 e2 n2 => ?_
    have lr1 : rp1.length = cs.length := by rw [Paired.length p1, List.length_map]
    have lr2 : rp2.length = ds.length := by rw [Paired.length p2, List.length_map]
    refine ⟨q1, q2, _, _, rfl, rfl, s12 _ _ e1, e2, ?_, fun q3 hq3 => ?_⟩
    · rw [List.length_map, List.length_map, sizeLine_eq]; omega
    have s13 : Same H12 (upd H12 q3 (.lst (rp1.map V.ref ++ rp2.map V.ref))) := Same.upd hq3
    have e3 : upd H12 q3 (.lst (rp1.map V.ref ++ rp2.map V.ref)) q3 = some (.lst (rp1.map V.ref ++ rp2.map V.ref)) := upd_same
    generalize upd H12 q3 (.lst (rp1.map V.ref ++ rp2.map V.ref)) = H13 at s13 e3 ⊢
    have pall : PrsAt H13 (rp1 ++ rp2) (cs.map Kl.pr ++ ds.map Kl.pr) := paired_append ((p1.sameT (SameT.of s12)).sameT (SameT.of s13)) (p2.sameT (SameT.of s13))
    obtain ⟨ks, k1, k2, k3⟩ := ks_of pall
    refine ⟨q3, ks, rfl, SqL.of (by rw [k1, List.map_append]; exact e3), k3, ?_, fun q4 LL hq4 l1 l2 l3 l4 => ?_⟩
    · have z := congrArg List.length k1
      rw [List.length_map, List.length_append] at z
      omega
    have s14 : Same H13 (upd H13 q4 (SetTO P w q4 LL)) := Same.upd hq4
    have LLm : ∀ q : Str × Str, prK q ∈ LL.map (·.2) ↔ q ∈ cs.map Kl.pr ++ ds.map Kl.pr := fun q => by
      constructor
      · intro h
        obtain ⟨p, hp, ep⟩ := List.mem_map.mp h
        have h2 : p.2 ∈ ks.map (·.2) := List.mem_map.mpr ⟨p, l1 p hp, rfl⟩
        rw [k2, ep] at h2
        obtain ⟨q', hq', eq'⟩ := List.mem_map.mp h2
        rw [← prK_inj eq']
        exact hq'
      · intro h
        have h2 : prK q ∈ ks.map (·.2) := by rw [k2]; exact List.mem_map.mpr ⟨q, h, rfl⟩
        obtain ⟨p, hp, ep⟩ := List.mem_map.mp h2
        rw [← ep]
        exact l2 p hp
    have LLk : ∀ r ∈ LL.map (·.2), ∃ q, r = prK q := fun r hr => by
      obtain ⟨p, hp, ep⟩ := List.mem_map.mp hr
      have h2 : p.2 ∈ ks.map (·.2) := List.mem_map.mpr ⟨p, l1 p hp, rfl⟩
      rw [k2, ep] at h2
      obtain ⟨q', _, eq'⟩ := List.mem_map.mp h2
      exact ⟨q', eq'.symm⟩
    refine ⟨q4, LL, rfl, upd_same, fun p hp => s14 _ _ (k3 p (l1 p hp)), ?_, fun rows hrows => ?_⟩
    · obtain ⟨ps, eps⟩ := unkey LLk
      rw [eps]
      exact shaped_prs ps
    obtain ⟨ps, rfl⟩ := unkey fun r hr => LLk r (hrows.mem_iff.mp hr)
    have ndp : ps.Nodup := nodup_of_map (f := prK) (hrows.nodup_iff.mpr l3)
    have psm : ∀ q, q ∈ ps ↔ q ∈ cs.map Kl.pr ++ ds.map Kl.pr := fun q => by
      rw [← LLm q, ← hrows.mem_iff]
      exact ⟨fun h => List.mem_map.mpr ⟨q, h, rfl⟩, fun h => by obtain ⟨q', h1, h2⟩ := List.mem_map.mp h; rw [← prK_inj h2]; exact h1⟩
    intro q5 rp5 kr5 hq5
    rw [sort_prs, ← pairs_sorted ndp psm, hbo] at kr5
    have pr5 := k_prs kr5
    have s15 : Same HA (upd (upd H13 q4 (SetTO P w q4 LL)) q5 (.lst (rp5.map V.ref))) := (((s11.trans s12).trans s13).trans s14).trans (Same.upd hq5)
    have e5 : upd (upd H13 q4 (SetTO P w q4 LL)) q5 (.lst (rp5.map V.ref)) q5 = some (.lst (rp5.map V.ref)) := upd_same
    have pr5' : PrsAt (upd (upd H13 q4 (SetTO P w q4 LL)) q5 (.lst (rp5.map V.ref))) rp5 (bo.map Kl.pr) := pr5.sameT (SameT.of (Same.upd (o := .lst (rp5.map V.ref)) hq5))
    show gName 4 (V.ref q5) _ (upd (upd H13 q4 (SetTO P w q4 LL)) q5 (.lst (rp5.map V.ref))) _
    generalize upd (upd H13 q4 (SetTO P w q4 LL)) q5 (.lst (rp5.map V.ref)) = HB at s15 e5 pr5' ⊢
    have SB : Same H HB := SA.trans s15
    have cxB : CostsAt HB x C bo := cxA.same s15
    clear pr5 kr5 s14 s13 pall k3 e3 p1 p2 e1 e2
    have len5 : rp5.length = bo.length := by rw [Paired.length pr5', List.length_map]
    have prok : ∀ c ∈ bo.map Kl.pr, PrOk c := fun c hc => by
      obtain ⟨w, hw, rfl⟩ := List.mem_map.mp hc
      exact (tb.ok w hw).pr
    -- the second test
    dsimp only [gName, tNext, tSeq, tAsg, tCB, tCons, tOp, tIfS, tOr, tTest]
    refine lc_pairs (K := K) (C := C) (i := 5) (j := 3) (cs := bo) rfl (show 5 < 10 by decide) cxB fun H16 q6 rp6 s16 p6 e6 n6 => ?_
    refine ⟨_, rfl, .list ((bo.map Kl.pr).map pD), .list ((bo.map Kl.pr).map pD), .lst (SqL.of e6) (dp_prs p6), .lst (SqL.of (s16 _ _ e5)) (dp_prs (pr5'.sameT (SameT.of s16))), shaped_lprs prok, shaped_lprs prok, _, rfl, ?_⟩
    rw [eqv_lprs, show (!decide (bo.map Kl.pr = bo.map Kl.pr)) = false by simp]
    obtain ⟨dxx, tx, psx, hsx, htx0, hpx, htx, hrx⟩ := (cxB.same s16).slt
    have lenx : psx.length = bo.length := Paired.length hrx
    refine iteF ⟨_, rfl, x, dxx, tx, _, rfl, hsx, htx, by rw [List.length_map]; omega, _, rfl, q5, _, rfl, .inl (SqL.of (s16 _ _ e5)), rfl, _, rfl, ?_⟩
    rw [show (!decide (V.int ((psx.map V.ref).length : Nat) = V.int ((rp5.map V.ref).length : Nat))) = false by rw [List.length_map, List.length_map, lenx, len5]; simp]
    have S16 : Same H H16 := SB.trans s16
    have tln : ∀ l : List Way, (Kp.turn l).length = l.length := fun l => by unfold Kp.turn; rw [List.length_map]
    have tll : ∀ l : List Way, (lstC (Kp.turn l)).length ≤ l.length := fun l => Nat.le_trans (least_length _) (Nat.le_of_eq (tln l))
    have tok : ∀ {l : List Way}, (∀ c ∈ l, WayOk c) → ∀ c ∈ lstC (Kp.turn l), WayOk c := fun h c hc => turn_ok h c (mem_least hc)
    refine iteF ⟨_, rfl, x, dxx, _, rfl, hsx, x, bo, rfl, cxB.same s16, tb.ok, fun H17 y17 s17 c17 => ?_⟩
    obtain ⟨dxa, ta', psa0, hsa, hta0, hpa, hta, hra⟩ := (ca.same (S16.trans s17)).slt
    refine ⟨_, rfl, a, dxa, _, rfl, hsa, a, cs, rfl, ca.same (S16.trans s17), t5.ok, fun H18 y18 s18 c18 => ?_⟩
    obtain ⟨dxb, tb', psb0, hsb, htb0, hpb, htb, hrb⟩ := (cb.same ((S16.trans s17).trans s18)).slt
    refine ⟨_, rfl, b, dxb, _, rfl, hsb, b, ds, rfl, cb.same ((S16.trans s17).trans s18), t6.ok, fun H19 y19 s19 c19 => ?_⟩
    refine ⟨y18, y19, _, _, rfl, rfl, c18.same s19, c19, tok t5.ok, tok t6.ok, ?_, fun H20 y20 s20 c20 => ?_⟩
    · have h1 := tll cs
      have h2 := tll ds
      omega
    have memt : ∀ c ∈ lstC (Kp.turn cs) ++ lstC (Kp.turn ds), WayOk c := fun c hc => (List.mem_append.mp hc).elim (tok t5.ok c) (tok t6.ok c)
    refine ⟨y17, y20, _, _, rfl, rfl, ((c17.same s18).same s19).same s20, c20, tok tb.ok, fun c hc => memt c (mem_least hc), fun H21 s21 => ⟨_, rfl, ?_⟩⟩
    refine ifNb (show lstC (Kp.turn bo) = lstC (lstC (Kp.turn cs) ++ lstC (Kp.turn ds)) by rw [← hbo]; exact or_turned cs ds) ?_
    have S21 : Same HB H21 := ((((s16.trans s17).trans s18).trans s19).trans s20).trans s21
    have SC : Same H H21 := SB.trans S21
    have cxC : CostsAt H21 x C bo := cxB.same S21
    clear c17 c18 c19 c20 hsx htx0 htx hrx hsa hta0 hta hra hsb htb0 htb hrb
    generalize H21 = HC at SC cxC ⊢
    -- each cost of both is the least
    obtain ⟨dxx, tx, psx, hsx, htx0, hpx, htx, hrx⟩ := cxC.slt
    have lenx : psx.length = bo.length := Paired.length hrx
    refine ⟨_, rfl, x, dxx, tx, _, rfl, hsx, htx, ?_⟩
    refine for_it (walk_tup (xs := psx.map V.ref)) (fun i σ H' => Same HC H' ∧ ∃ b5 b6, σ = [some (.ref a), some (.ref b), some (.ref L), some (.ref x), some (.ref q5), b5, b6, none, none, none]) ⟨fun _ _ e => e, none, none, rfl⟩ (fun _ _ _ _ z => SqT.of (z.1 _ _ htx)) ?_ ?_
    · rintro i y σ H22' H22 hi ⟨s22, b5, b6, rfl⟩ ⟨rfl, ex⟩
      rw [List.getElem?_map] at ex
      obtain ⟨pc, ep, rfl⟩ := Option.map_eq_some_iff.mp ex
      obtain ⟨c, ec, hpc⟩ := paired_get hrx ep
      have hcm : c ∈ bo := List.mem_of_getElem? ec
      have SD : Same H H22 := SC.trans s22
      obtain ⟨dxa, ta', psa, hsa, hta0, hpa, hta, hra⟩ := (ca.same SD).slt
      obtain ⟨dxb, tb', psb, hsb, htb0, hpb, htb, hrb⟩ := (cb.same SD).slt
      have lena : psa.length = cs.length := Paired.length hra
      have lenb : psb.length = ds.length := Paired.length hrb
      refine ⟨_, rfl, a, dxa, ta', _, rfl, hsa, hta, by rw [List.length_map]; exact hpa, fun q7 hq7 => ?_⟩
      have s23 : Same H22 (upd H22 q7 (.lst (psa.map V.ref))) := Same.upd hq7
      refine ⟨_, rfl, b, dxb, tb', _, rfl, Slt.same s23 hsb, s23 _ _ htb, by rw [List.length_map]; exact hpb, fun q8 hq8 => ?_⟩
      have q87 : q7 ≠ q8 := fun z => by rw [← z, upd_same] at hq8; cases hq8
      refine ⟨q7, q8, _, _, rfl, rfl, by rw [upd_ne q87, upd_same], upd_same, by rw [List.length_map, List.length_map, sizeLine_eq]; omega, fun q9 hq9 => ?_⟩
      have s24 : Same H22 (upd (upd (upd H22 q7 (.lst (psa.map V.ref))) q8 (.lst (psb.map V.ref))) q9 (.lst (psa.map V.ref ++ psb.map V.ref))) := (s23.trans (Same.upd hq8)).trans (Same.upd hq9)
      have e9 : upd (upd (upd H22 q7 (.lst (psa.map V.ref))) q8 (.lst (psb.map V.ref))) q9 (.lst (psa.map V.ref ++ psb.map V.ref)) q9 = some (.lst (psa.map V.ref ++ psb.map V.ref)) := upd_same
      generalize upd (upd (upd H22 q7 (.lst (psa.map V.ref))) q8 (.lst (psb.map V.ref))) q9 (.lst (psa.map V.ref ++ psb.map V.ref)) = H23 at s24 e9 ⊢
      have rab : RowsAt H23 (psa ++ psb) (cs ++ ds) := paired_append (RowsAt.same s24 hra) (RowsAt.same s24 hrb)
      have hpc3 := s24 _ _ (s22 _ _ hpc)
      refine ⟨q9, rfl, ⟨_, SqL.of e9⟩, fun D hD => ?_⟩
      refine lc_it (walk_list (xs := psa.map V.ref ++ psb.map V.ref)) (fun m H' => Same H23 H' ∧ H' D = some (.lst (((((cs ++ ds).take m).filter fun d => decide (Kl.pr d = Kl.pr c)).map (·.2.2)).map V.int))) ⟨Same.upd hD, upd_same⟩ (fun _ _ _ z => SqL.of (z.1 _ _ e9)) ?_ ?_
      · rintro m y H24' H24 hm ⟨s25, eD⟩ ⟨rfl, ey⟩
        rw [← List.map_append, List.getElem?_map] at ey
        obtain ⟨pd, epd, rfl⟩ := Option.map_eq_some_iff.mp ey
        obtain ⟨d, ed, hpd⟩ := paired_get rab epd
        have hdm : d ∈ cs ++ ds := List.mem_of_getElem? ed
        rw [List.length_append, List.length_map, List.length_map] at hm
        have cut : ∀ w : Way, cutV (wayV w) none (some 2) = [.str (Kl.pr w).1, .str (Kl.pr w).2] := fun _ => rfl
        refine ⟨rfl, _, rfl, 2, rfl, pd, _, rfl, SqT.of (s25 _ _ hpd), (by show ¬ (HT.sIx 3 0 none = 0 ∧ HT.sIx 3 3 (some 2) = 3); decide), fun b1 hb1 => ?_⟩
        have s26 : Same H24 (upd H24 b1 (.tup (cutV (wayV d) none (some 2)))) := Same.upd hb1
        refine ⟨_, rfl, 2, rfl, pc, _, rfl, SqT.of (s26 _ _ (s25 _ _ hpc3)), (by show ¬ (HT.sIx 3 0 none = 0 ∧ HT.sIx 3 3 (some 2) = 3); decide), fun b2 hb2 => ?_⟩
        have b12 : b1 ≠ b2 := fun z => by rw [← z, upd_same] at hb2; cases hb2
        have s27 : Same H24 (upd (upd H24 b1 (.tup (cutV (wayV d) none (some 2)))) b2 (.tup (cutV (wayV c) none (some 2)))) := s26.trans (Same.upd hb2)
        have f1 : upd (upd H24 b1 (.tup (cutV (wayV d) none (some 2)))) b2 (.tup (cutV (wayV c) none (some 2))) b1 = some (.tup [.str (Kl.pr d).1, .str (Kl.pr d).2]) := by rw [upd_ne b12, upd_same, cut]
        have f2 : upd (upd H24 b1 (.tup (cutV (wayV d) none (some 2)))) b2 (.tup (cutV (wayV c) none (some 2))) b2 = some (.tup [.str (Kl.pr c).1, .str (Kl.pr c).2]) := by rw [upd_same, cut]
        generalize upd (upd H24 b1 (.tup (cutV (wayV d) none (some 2)))) b2 (.tup (cutV (wayV c) none (some 2))) = H25 at s27 f1 f2 ⊢
        refine ⟨pD (Kl.pr d), pD (Kl.pr c), dp_pr f1, dp_pr f2, shaped_pr (mem d hdm).ok.pr, shaped_pr (tb.ok c hcm).pr, _, rfl, ?_⟩
        rw [eqv_pr]
        have et : ((cs ++ ds).take (m + 1)).filter (fun d => decide (Kl.pr d = Kl.pr c)) = ((cs ++ ds).take m).filter (fun d => decide (Kl.pr d = Kl.pr c)) ++ (if Kl.pr d = Kl.pr c then [d] else []) := by
          rw [List.take_succ, ed, List.filter_append]
          by_cases e : Kl.pr d = Kl.pr c <;> simp [e]
        have s28 : Same H23 H25 := s25.trans s27
        refine ite2 (fun e => ?_) (fun e => ?_)
        · have e' : Kl.pr d = Kl.pr c := of_decide_eq_true e
          refine ⟨_, rfl, pd, _, 2, _, rfl, rfl, SqT.of (s28 _ _ hpd), rfl, _, s27 _ _ eD, ?_, Same.put s28 hD, ?_⟩
          · rw [List.length_map, List.length_map]
            refine small1000 (Nat.le_trans (List.length_filter_le _ _) ?_)
            rw [List.length_take, List.length_append]
            omega
          · rw [upd_same, et, if_pos e', List.map_append, List.map_append]
            rfl
        · have e' : ¬ Kl.pr d = Kl.pr c := fun z => e (decide_eq_true z)
          refine ⟨s28, ?_⟩
          rw [et, if_neg e', List.append_nil]
          exact s27 _ _ eD
      · rintro H24 ⟨s25, eD⟩
        rw [show (psa.map V.ref ++ psb.map V.ref).length = (cs ++ ds).length by rw [List.length_append, List.length_map, List.length_map, List.length_append, lena, lenb], List.take_length] at eD
        have hcb : c ∈ lstC (cs ++ ds) := by rw [hbo]; exact hcm
        have hcc := mem_lst (a := c.1) (b := c.2.1) (c := c.2.2) |>.mp hcb
        have inF : c.2.2 ∈ ((cs ++ ds).filter fun d => decide (Kl.pr d = Kl.pr c)).map (·.2.2) := List.mem_map.mpr ⟨c, List.mem_filter.mpr ⟨hcc.1, by simp⟩, rfl⟩
        have s29 : Same HC H24 := (s22.trans s24).trans s25
        refine ⟨_, rfl, pc, _, 2, _, rfl, rfl, SqT.of (s25 _ _ hpc3), rfl, _, rfl, D, _, rfl, SqL.of eD, List.length_pos_of_mem inF, fun mn hmn hall => ?_⟩
        have em : c.2.2 = mn := by
          have h1 := hall _ inF
          obtain ⟨d, hd, rfl⟩ := List.mem_map.mp hmn
          obtain ⟨hd1, hd2⟩ := List.mem_filter.mp hd
          have hp : Kl.pr d = Kl.pr c := by simpa using hd2
          have p1 : d.1 = c.1 := congrArg (fun p : Str × Str => p.1) hp
          have p2 : d.2.1 = c.2.1 := congrArg (fun p : Str × Str => p.2) hp
          have h2 := hcc.2 d.2.2 (by rw [← p1, ← p2]; exact hd1)
          omega
        refine ⟨rfl, _, rfl, ?_⟩
        rw [← em, show (!decide (V.int c.2.2 = V.int c.2.2)) = false by simp]
        refine iteF ⟨_, rfl, _, rfl, x, pc, bo, c, rfl, rfl, cxC.same s29, tb.ok, s25 _ _ hpc3, hcm, fun H25 s26 => ⟨_, rfl, iteF ?_⟩⟩
        exact ⟨s29.trans s26, _, _, rfl⟩
    · rintro σ H22 ⟨s22, b5, b6, rfl⟩
      have SE : Same H H22 := SC.trans s22
      have cxE := cxC.same s22
      -- no way costs more in both
      refine ⟨_, rfl, 3, rfl, L, _, rfl, SqL.of (SE _ _ hL), fun L3 hL3 => ?_⟩
      have sF : Same H22 (upd H22 L3 (.lst (cutV (five.map V.str) none (some 3)))) := Same.upd hL3
      have eL3 : upd H22 L3 (.lst (cutV (five.map V.str) none (some 3))) L3 = some (.lst (cutV (five.map V.str) none (some 3))) := upd_same
      generalize upd H22 L3 (.lst (cutV (five.map V.str) none (some 3))) = HF at sF eL3 ⊢
      have SF : Same H HF := SE.trans sF
      have cxF := cxE.same sF
      refine ⟨L3, rfl, ⟨_, SqL.of eL3⟩, ?_⟩
      refine for_it (walk_list (xs := cutV (five.map V.str) none (some 3))) (fun i σ H' => Same HF H' ∧ ∃ b5 b6 b7 b8, σ = [some (.ref a), some (.ref b), some (.ref L), some (.ref x), some (.ref q5), b5, b6, b7, b8, none]) ⟨fun _ _ e => e, _, _, none, none, rfl⟩ (fun _ _ _ _ z => SqL.of (z.1 _ _ eL3)) ?_ ?_
      · rintro i y σ H23' H23 hi ⟨s23, b5, b6, b7, b8, rfl⟩ ⟨rfl, ex⟩
        obtain ⟨u, hu', rfl⟩ := three_at ex
        refine ⟨_, rfl, L, rfl, ⟨_, SqL.of ((SF.trans s23) _ _ hL)⟩, ?_⟩
        refine for_it (walk_list (xs := five.map V.str)) (fun i σ H' => Same HF H' ∧ ∃ b5 b6 b8, σ = [some (.ref a), some (.ref b), some (.ref L), some (.ref x), some (.ref q5), b5, b6, some (.str u), b8, none]) ⟨s23, _, _, _, rfl⟩ (fun _ _ _ _ z => SqL.of ((SF.trans z.1) _ _ hL)) ?_ ?_
        · rintro j y σ H24' H24 hj ⟨s24, c5, c6, c8, rfl⟩ ⟨rfl, ey⟩
          obtain ⟨v, hv', rfl⟩ := five_at ey
          refine ⟨_, rfl, a, rfl, _, rfl, _, rfl, u, v, cs, rfl, ca.same (SF.trans s24), by omega, t5.ok, fun H25 s25 => ?_⟩
          have s45 := s24.trans s25
          cases hd : Kp.dist cs u v with
          | none => exact ⟨_, rfl, iteT ⟨s45, _, _, _, rfl⟩⟩
          | some d =>
            obtain ⟨e, he1, he2⟩ := or_mono t5 t6 hd
            rw [hbo] at he1
            refine ⟨_, rfl, iteF ?_⟩
            refine ⟨_, rfl, x, rfl, _, rfl, _, rfl, u, v, bo, rfl, cxF.same s45, by omega, tb.ok, fun H26 s26 => ?_⟩
            rw [he1]
            refine ⟨_, rfl, iteF ?_⟩
            refine ⟨_, rfl, x, rfl, _, rfl, _, rfl, u, v, bo, rfl, cxF.same (s45.trans s26), by omega, tb.ok, fun H27 s27 => ?_⟩
            rw [he1]
            refine ⟨_, rfl, a, rfl, _, rfl, _, rfl, u, v, cs, rfl, ca.same (SF.trans ((s45.trans s26).trans s27)), by omega, t5.ok, fun H28 s28 => ?_⟩
            rw [hd]
            refine ⟨e, d, rfl, rfl, _, rfl, ?_⟩
            rw [show decide (d < e) = false from decide_eq_false (by omega)]
            exact iteF ⟨((s45.trans s26).trans s27).trans s28, _, _, _, rfl⟩
        · rintro σ H24 ⟨s24, c5, c6, c8, rfl⟩
          exact ⟨s24, _, _, _, _, rfl⟩
      · rintro σ H23 ⟨s23, b5, b6, b7, b8, rfl⟩
        have SG : Same H H23 := SF.trans s23
        -- equal as their lists
        refine ⟨_, rfl, _, rfl, a, b, cs, ds, rfl, rfl, ca.same SG, cb.same SG, t5.ok, t6.ok, fun H24 s24 => ?_⟩
        obtain ⟨dxa, ta', psa, hsa, hta0, hpa, hta, hra⟩ := (ca.same (SG.trans s24)).slt
        obtain ⟨dxb, tb', psb, hsb, htb0, hpb, htb, hrb⟩ := (cb.same (SG.trans s24)).slt
        refine ⟨_, rfl, a, dxa, ta', _, rfl, hsa, hta, by rw [List.length_map]; exact hpa, fun q7 hq7 => ?_⟩
        have s25 : Same H24 (upd H24 q7 (.lst (psa.map V.ref))) := Same.upd hq7
        refine ⟨_, rfl, b, dxb, tb', _, rfl, Slt.same s25 hsb, s25 _ _ htb, by rw [List.length_map]; exact hpb, fun q8 hq8 => ?_⟩
        have q87 : q7 ≠ q8 := fun z => by rw [← z, upd_same] at hq8; cases hq8
        have s26 : Same H24 (upd (upd H24 q7 (.lst (psa.map V.ref))) q8 (.lst (psb.map V.ref))) := s25.trans (Same.upd hq8)
        have e7 : upd (upd H24 q7 (.lst (psa.map V.ref))) q8 (.lst (psb.map V.ref)) q7 = some (.lst (psa.map V.ref)) := by rw [upd_ne q87, upd_same]
        have e8 : upd (upd H24 q7 (.lst (psa.map V.ref))) q8 (.lst (psb.map V.ref)) q8 = some (.lst (psb.map V.ref)) := upd_same
        generalize upd (upd H24 q7 (.lst (psa.map V.ref))) q8 (.lst (psb.map V.ref)) = H25 at s26 e7 e8 ⊢
        have pk : ∀ {l : List Way}, (∀ c ∈ l, WayOk c) → ∀ c ∈ l, PrOk (Kl.pr c) := fun h c hc => (h c hc).pr
        refine ⟨.list (cs.map rwD), .list (ds.map rwD), .lst (SqL.of e7) (dp_rows (RowsAt.same s26 hra)), .lst (SqL.of e8) (dp_rows (RowsAt.same s26 hrb)), shaped_lst (pk t5.ok), shaped_lst (pk t6.ok), rfl, _, rfl, ?_⟩
        rw [eqv_lst, show decide (V.bl (decide (cs = ds)) = V.bl (decide (cs = ds))) = true by simp]
        refine iteT ?_
        have SH : Same H H25 := (SG.trans s24).trans s26
        refine ⟨_, rfl, _, rfl, a, b, cs, ds, rfl, rfl, ca.same SH, cb.same SH, t5.ok, t6.ok, fun H26 s27 => ?_⟩
        obtain ⟨dxa2, ta2, psa2, hsa2, hta02, hpa2, hta2, hra2⟩ := (ca.same (SH.trans s27)).slt
        obtain ⟨dxb2, tb2, psb2, hsb2, htb02, hpb2, htb2, hrb2⟩ := (cb.same (SH.trans s27)).slt
        refine ⟨_, rfl, a, dxa2, ta2, _, rfl, hsa2, hta2, by rw [List.length_map]; exact hpa2, fun q7 hq7 => ?_⟩
        have s28 : Same H26 (upd H26 q7 (.lst (psa2.map V.ref))) := Same.upd hq7
        refine ⟨_, rfl, b, dxb2, tb2, _, rfl, Slt.same s28 hsb2, s28 _ _ htb2, by rw [List.length_map]; exact hpb2, fun q8 hq8 => ?_⟩
        have q87 : q7 ≠ q8 := fun z => by rw [← z, upd_same] at hq8; cases hq8
        have s29 : Same H26 (upd (upd H26 q7 (.lst (psa2.map V.ref))) q8 (.lst (psb2.map V.ref))) := s28.trans (Same.upd hq8)
        have e7 : upd (upd H26 q7 (.lst (psa2.map V.ref))) q8 (.lst (psb2.map V.ref)) q7 = some (.lst (psa2.map V.ref)) := by rw [upd_ne q87, upd_same]
        have e8 : upd (upd H26 q7 (.lst (psa2.map V.ref))) q8 (.lst (psb2.map V.ref)) q8 = some (.lst (psb2.map V.ref)) := upd_same
        generalize upd (upd H26 q7 (.lst (psa2.map V.ref))) q8 (.lst (psb2.map V.ref)) = H27 at s29 e7 e8 ⊢
        refine ⟨.list (cs.map rwD), .list (ds.map rwD), .lst (SqL.of e7) (dp_rows (RowsAt.same s29 hra2)), .lst (SqL.of e8) (dp_rows (RowsAt.same s29 hrb2)), shaped_lst (pk t5.ok), shaped_lst (pk t6.ok), rfl, ?_⟩
        rw [eqv_lst]
        dsimp only
        rw [show decide (V.bl (!decide (cs = ds)) = V.bl (!decide (cs = ds))) = true by simp]
        exact k _ ((SH.trans s27).trans s29)
end
end Ku
/-! The law. -/
namespace Ku
open PySem PySem.Spec PyProof.Rows L2 SlX StX
/-- one way put to a table beside a dearer one of the same names -/
theorem least_snoc2 (M : List Way) (u v : Str) (c : Int) : lstC (M ++ [(u, v, c), (u, v, c + 1)]) = lstC (M ++ [(u, v, c)]) := by
  refine Kl.Tab.ext slo_str (Kl.least_tab slo_str _) (Kl.least_tab slo_str _) fun a b x => ?_
  rw [show ((a, b, x) ∈ Kl.least sLt (M ++ [(u, v, c), (u, v, c + 1)]) ↔ _) from mem_lst, show ((a, b, x) ∈ Kl.least sLt (M ++ [(u, v, c)]) ↔ _) from mem_lst]
  constructor
  · rintro ⟨h1, h2⟩
    refine ⟨?_, fun c' hc => h2 c' ?_⟩
    · rcases List.mem_append.mp h1 with z | z
      · exact List.mem_append_left _ z
      · rcases List.mem_cons.mp z with e | z
        · rw [e]; exact List.mem_append_right _ (by simp)
        · have e := List.mem_singleton.mp z
          simp only [Prod.mk.injEq] at e
          obtain ⟨rfl, rfl, rfl⟩ := e
          have := h2 c (List.mem_append_right _ (by simp))
          omega
    · rcases List.mem_append.mp hc with z | z
      · exact List.mem_append_left _ z
      · rw [List.mem_singleton.mp z]; exact List.mem_append_right _ (by simp)
  · rintro ⟨h1, h2⟩
    refine ⟨?_, fun c' hc => ?_⟩
    · rcases List.mem_append.mp h1 with z | z
      · exact List.mem_append_left _ z
      · rw [List.mem_singleton.mp z]; exact List.mem_append_right _ (by simp)
    · rcases List.mem_append.mp hc with z | z
      · exact h2 c' (List.mem_append_left _ z)
      · rcases List.mem_cons.mp z with e | z
        · exact h2 c' (by rw [e]; exact List.mem_append_right _ (by simp))
        · have e := List.mem_singleton.mp z
          simp only [Prod.mk.injEq] at e
          obtain ⟨rfl, rfl, rfl⟩ := e
          have := h2 c (List.mem_append_right _ (by simp))
          omega
theorem made_step (M : List Way) (u v : Str) (c : Int) : lstC (lstC M ++ lstC [(u, v, c), (u, v, c + 1)]) = lstC (M ++ [(u, v, c)]) := by
  have e1 : lstC (lstC M ++ lstC [(u, v, c), (u, v, c + 1)]) = lstC (M ++ lstC [(u, v, c), (u, v, c + 1)]) := Kl.least_least slo_str _ _
  have e2 : lstC (lstC [(u, v, c), (u, v, c + 1)] ++ M) = lstC ([(u, v, c), (u, v, c + 1)] ++ M) := Kl.least_least slo_str _ _
  rw [e1, or_comm, e2, or_comm, least_snoc2]
theorem made_end {cs : List Way} (t : TabC cs) : lstC cs.reverse = cs := (Kl.least_congr slo_str fun w => List.mem_reverse).trans (Kl.least_self slo_str t)
theorem turn_back {cs : List Way} (t : TabC cs) : lstC (Kp.turn (lstC (Kp.turn cs))) = cs := by
  refine Kl.Tab.ext slo_str (Kl.least_tab slo_str _) t fun a b c => ?_
  have f1 := turn_fn (Kl.least_tab slo_str (Kp.turn cs))
  rw [show ((a, b, c) ∈ Kl.least sLt (Kp.turn (lstC (Kp.turn cs))) ↔ (a, b, c) ∈ Kp.turn (lstC (Kp.turn cs))) from Kl.mem_least_of slo_str f1, Kp.mem_turn]
  rw [show ((b, a, c) ∈ lstC (Kp.turn cs) ↔ (b, a, c) ∈ Kp.turn cs) from Kl.mem_least_of slo_str (turn_fn t), Kp.mem_turn]
section
variable {P : Program} {w : World} {K : PySem.W.Frag} {mg : Str → Option Value} {base : Heap} {C : Addr}
def spLaw (K : PySem.W.Frag) : Sp := fun vs H Q _ => ∃ (a : Addr) (ns : List Int), vs = [.ref a] ∧ SqL K H a (ns.map V.int) ∧ ns.length ≤ 63 ∧ ∀ H', Q (.bl true) H'
abbrev NW : List Str := ["_law_script", "_law_feed_here", "_law_names", "_law_table_here", "_law_late", "_law_kept", "_law_made", "_law_own"]
theorem scLaw : FnScope NW ["_law_script"] (defScope sLaw) := ⟨rfl, rfl, rfl, by decide +kernel, rfl, by decide +kernel, by decide +kernel⟩
theorem ok_law {f : Addr} {fd : FuncData} (F : Fun K "law" "law" sLaw f fd) (hb : Binds K fd ["_law_script"] []) (G : Glb mg) (T : Ms P w K mg base C)
    (DF : Def P w K mg base "_law_feed" 1 ["_law_script"] (spFeed K)) (DD : Def P w K mg base "_law_draw" 1 ["_law_feed_here", "_law_many"] spDraw) (DT : Def P w K mg base "_law_table" 10 ["_law_feed_here", "_law_size"] (spTable C))
    (DP : DefG P w K mg base "_law_paths_right" 10 (spPSR C)) (D2 : Def P w K mg base "_law_two_right" 10 ["_law_table_here", "_law_late", "_law_names"] (sp2R C)) : FnG P w K mg base 11 f (spLaw K) := by
  refine fn_g F scLaw hb (fun vs H Q E h => ?_) (fun cdv A outer s H vs Q hg hr h => ?_)
  · obtain ⟨a, ns, rfl, _⟩ := h
    rfl
  · obtain ⟨a, ns, rfl, hs, hl, k⟩ := h
    have hr1 := hr.mono (show 1 ≤ 10 by decide)
    have hr2 := hr.mono (show 2 ≤ 10 by decide)
    have hr4 := hr.mono (show 4 ≤ 10 by decide)
    have hr8 := hr.mono (show 8 ≤ 10 by decide)
    have hr9 := hr.mono (show 9 ≤ 10 by decide)
    have hu := hr.units
    refine ⟨_, pss_cons (ps_set (i := 1) scLaw.nd rfl (Or.inl rfl) (pe_def DF hr1 (pa_cons (pv 0) pa_nil)))
      (pss_cons (ps_set (i := 2) scLaw.nd rfl (Or.inl rfl) (pe_lst (pa_cons pe_str (pa_cons pe_str (pa_cons pe_str (pa_cons pe_str (pa_cons pe_str pa_nil)))))))
      (pss_cons (ps_par (i := 3) (j := 4) rfl scLaw.nd rfl rfl (by decide) rfl rfl (pa_cons (pe_def DT hr (pa_cons (pv 1) (pa_cons (pe_def DD hr1 (pa_cons (pv 1) (pa_cons pe_int pa_nil))) pa_nil)))
          (pa_cons (pe_def DT hr (pa_cons (pv 1) (pa_cons (pe_op op_add pe_int (pe_def DD hr1 (pa_cons (pv 1) (pa_cons pe_int pa_nil)))) pa_nil))) pa_nil)) rfl)
      (pss_cons (ps_set (i := 5) scLaw.nd rfl (Or.inl rfl) (pe_lst (pa_cons (pe_callTy (cr_listC T rfl hr4) (by rfl) G.list bt_list (pa_cons (pv 3) pa_nil)) (pa_cons (pe_callTy (cr_listC T rfl hr4) (by rfl) G.list bt_list (pa_cons (pv 4) pa_nil)) pa_nil))))
      (pss_cons (ps_set (i := 6) scLaw.nd rfl (Or.inl rfl) (pe_new0 T.cls hr8))
      (pss_cons (ps_for PassesOwn.never rfl (pi_list (pe_revL (pe_callTy (cr_listC T rfl hr4) (by rfl) G.list bt_list (pa_cons (pv 3) pa_nil)))) (pg_name (i := 7) scLaw.nd rfl (Or.inl rfl))
        (pss_one (ps_set (i := 6) scLaw.nd rfl (Or.inl rfl) (pe_op (op_orC T hr9) (pv 6) (pe_newN T.cls hr8 (pa_cons (pv 7) (pa_cons (pe_op op_catT (pe_slice sl_tup (pv 7) po_none (po_some pe_int)) (pe_tup (pa_cons (pe_op op_add (pe_ix ix_tup (pv 7) pe_int (fun _ _ => rfl)) pe_int) pa_nil))) pa_nil)))))))
      (pss_cons (ps_if (PW.pt (pw_or (pt_cmpR (op_neC T hr2) (pv 6) (pv 3) (nomark _)) (pw_or (pt_cmpR (op_neC T hr2) (pe_turnedC T hr9 (pe_turnedC T hr9 (pv 3))) (pv 3) (nomark _))
          (pw_or1 (pt_not (pt_val (pe_defG DP hg hr (pa_cons (pv 3) (pa_cons (pv 2) pa_nil))))))))) (pss_one (ps_ret pe_bl)) pss_nil)
      (pss_cons (ps_if (PW.pt (pw_or (pt_not (pt_val (pe_def D2 hr (pa_cons (pv 3) (pa_cons (pv 4) (pa_cons (pv 2) pa_nil)))))) (pw_or1 (pt_not (pt_val (pe_def D2 hr (pa_cons (pv 4) (pa_cons (pv 3) (pa_cons (pv 2) pa_nil))))))))) (pss_one (ps_ret pe_bl)) pss_nil)
      (pss_one (ps_ret (pe_and (pe_cmpR (op_eqD hu) (pe_lst (pa_cons (pe_callTy (cr_listC T rfl hr4) (by rfl) G.list bt_list (pa_cons (pv 3) pa_nil)) (pa_cons (pe_callTy (cr_listC T rfl hr4) (by rfl) G.list bt_list (pa_cons (pv 4) pa_nil)) pa_nil))) (pv 5) (nomark _))
        (pe_one (pe_cmpR op_eq (pe_callB (cr_lenC T hr2) (by rfl) G.len PySem.boot_len (pa_cons (pv 3) pa_nil)) (pe_callB call_len_seq (by rfl) G.len PySem.boot_len (pa_cons (pe_callTy (cr_listC T rfl hr4) (by rfl) G.list bt_list (pa_cons (pv 3) pa_nil)) pa_nil)) (nomark _))))))))))))), ?_⟩
    -- the feed, the names
    refine ⟨_, rfl, a, ns, rfl, hs, hl, fun H1 D s1 nD fd1 => ?_⟩
    refine ⟨(by show (5 : Nat) ≤ sizeLine; decide), fun L hL => ?_⟩
    have sL : Same H1 (upd H1 L (.lst [.str "a", .str "b", .str "shelf", .str "move", .str "out"])) := Same.upd hL
    have eL : upd H1 L (.lst [.str "a", .str "b", .str "shelf", .str "move", .str "out"]) L = some (.lst (five.map V.str)) := upd_same
    have fsame : ∀ {H H' : Hp}, Same H H' → FeedAt H D → FeedAt H' D := fun s h => let ⟨l, ns, a, b, c, e1, e2, e3⟩ := h; ⟨l, ns, a, b, c, s _ _ e1, s _ _ e2, e3⟩
    have fd2 := fsame sL fd1
    generalize upd H1 L (.lst [.str "a", .str "b", .str "shelf", .str "move", .str "out"]) = H2 at sL eL fd2 ⊢
    have fdD : ∀ {H' : Hp}, FeedAt H' D → ∃ kvs, H' D = some (.dK kvs) := fun h => let ⟨_, _, _, _, _, e, _⟩ := h; ⟨_, e⟩
    have LD : L ≠ D := fun z => by
      obtain ⟨kvs, e⟩ := fdD fd2
      rw [z, e] at eL
      cases eL
    -- the two tables
    refine ⟨_, rfl, _, rfl, D, 8, rfl, fd2, by decide, by decide, fun H3 d1 s3 fd3 l1 u1 => ?_⟩
    refine ⟨D, d1, rfl, fd3, l1, by omega, fun H4 ta cs s4 fd4 ca t5 hl5 => ?_⟩
    refine ⟨_, rfl, _, rfl, D, 4, rfl, fd4, by decide, by decide, fun H5 d2 s5 fd5 l2 u2 => ?_⟩
    refine ⟨_, _, rfl, rfl, D, 1 + d2, rfl, fd5, by omega, by omega, fun H6 tb ds s6 fd6 cb t6 hl6 => ?_⟩
    refine ⟨_, _, rfl, ?_⟩
    obtain ⟨kv4, e4⟩ := fdD fd4
    obtain ⟨kv5, e5⟩ := fdD fd5
    have ca6 : CostsAt H6 ta C cs := (ca.sameX e4 s5).sameX e5 s6
    have eL6 : H6 L = some (.lst (five.map V.str)) := s6 _ _ LD (s5 _ _ LD (s4 _ _ LD (s3 _ _ LD eL)))
    clear ca s1 s3 s4 s5 s6 fd1 fd2 fd3 fd4 fd5 fd6 sL
    -- what is kept
    obtain ⟨dxa, t1, psa, hsa, hta0, hpa, hta, hra⟩ := ca6.slt
    obtain ⟨dxb, t2, psb, hsb, htb0, hpb, htb, hrb⟩ := cb.slt
    have lena : psa.length = cs.length := Paired.length hra
    have pk : ∀ {l : List Way}, (∀ c ∈ l, WayOk c) → ∀ c ∈ l, PrOk (Kl.pr c) := fun h c hc => (h c hc).pr
    refine ⟨_, rfl, ta, dxa, t1, _, rfl, hsa, hta, by rw [List.length_map]; exact hpa, fun q1 hq1 => ?_⟩
    have s7 : Same H6 (upd H6 q1 (.lst (psa.map V.ref))) := Same.upd hq1
    refine ⟨_, rfl, tb, dxb, t2, _, rfl, Slt.same s7 hsb, s7 _ _ htb, by rw [List.length_map]; exact hpb, fun q2 hq2 => ?_⟩
    have q12 : q1 ≠ q2 := fun z => by rw [← z, upd_same] at hq2; cases hq2
    refine ⟨(by show (2 : Nat) ≤ sizeLine; decide), fun q3 hq3 => ?_⟩
    have s8 : Same H6 (upd (upd (upd H6 q1 (.lst (psa.map V.ref))) q2 (.lst (psb.map V.ref))) q3 (.lst [.ref q1, .ref q2])) := (s7.trans (Same.upd hq2)).trans (Same.upd hq3)
    have f1 : upd (upd (upd H6 q1 (.lst (psa.map V.ref))) q2 (.lst (psb.map V.ref))) q3 (.lst [.ref q1, .ref q2]) q1 = some (.lst (psa.map V.ref)) := Same.upd hq3 _ _ (by rw [upd_ne q12, upd_same])
    have f2 : upd (upd (upd H6 q1 (.lst (psa.map V.ref))) q2 (.lst (psb.map V.ref))) q3 (.lst [.ref q1, .ref q2]) q2 = some (.lst (psb.map V.ref)) := Same.upd hq3 _ _ upd_same
    have f3 : upd (upd (upd H6 q1 (.lst (psa.map V.ref))) q2 (.lst (psb.map V.ref))) q3 (.lst [.ref q1, .ref q2]) q3 = some (.lst [.ref q1, .ref q2]) := upd_same
    generalize upd (upd (upd H6 q1 (.lst (psa.map V.ref))) q2 (.lst (psb.map V.ref))) q3 (.lst [.ref q1, .ref q2]) = H7 at s8 f1 f2 f3 ⊢
    have ca7 := ca6.same s8
    have cb7 := cb.same s8
    have eL7 := s8 _ _ eL6
    have ra7 : RowsAt H7 psa cs := RowsAt.same s8 hra
    have rb7 : RowsAt H7 psb ds := RowsAt.same s8 hrb
    have kept : ∀ {HX : Hp}, Same H7 HX → Dp K HX (.ref q3) (.list [.list (cs.map rwD), .list (ds.map rwD)]) := fun s => .lst (SqL.of (s _ _ f3)) (.cons (.lst (SqL.of (s _ _ f1)) (dp_rows (RowsAt.same s ra7))) (.cons (.lst (SqL.of (s _ _ f2)) (dp_rows (RowsAt.same s rb7))) .nil))
    -- the table made anew
    refine ⟨[], [], rfl, .nil, (fun c hc => by cases hc), Nat.zero_le _, fun H8 m0 s9 cm0 => ?_⟩
    obtain ⟨dxa2, t12, psa2, hsa2, hta02, hpa2, hta2, hra2⟩ := (ca7.same s9).slt
    have lena2 : psa2.length = cs.length := Paired.length hra2
    refine ⟨_, rfl, ta, dxa2, t12, _, rfl, hsa2, hta2, by rw [List.length_map]; exact hpa2, fun q4 hq4 => ?_⟩
    refine ⟨q4, _, rfl, SqL.of upd_same, fun q5 hq5 => ?_⟩
    have s10 : Same H8 (upd (upd H8 q4 (.lst (psa2.map V.ref))) q5 (.lst (psa2.map V.ref).reverse)) := (Same.upd hq4).trans (Same.upd hq5)
    have f5 : upd (upd H8 q4 (.lst (psa2.map V.ref))) q5 (.lst (psa2.map V.ref).reverse) q5 = some (.lst (psa2.map V.ref).reverse) := upd_same
    generalize upd (upd H8 q4 (.lst (psa2.map V.ref))) q5 (.lst (psa2.map V.ref).reverse) = H9 at s10 f5 ⊢
    have ra9 : RowsAt H9 psa2 cs := RowsAt.same s10 hra2
    have S9 : Same H7 H9 := s9.trans s10
    have rrev : RowsAt H9 psa2.reverse cs.reverse := by
      have go : ∀ {l : List Addr} {m : List Way}, RowsAt H9 l m → RowsAt H9 l.reverse m.reverse := by
        intro l m h
        induction h with
        | nil => exact .nil
        | cons r _ ih => rw [List.reverse_cons, List.reverse_cons]; exact paired_snoc ih r
      exact go ra9
    refine ⟨q5, rfl, ⟨_, SqL.of f5⟩, ?_⟩
    refine for_it (walk_list (xs := (psa2.map V.ref).reverse)) (fun i σ H' => Same H9 H' ∧ ∃ m b7, σ = [some (.ref a), some (.ref D), some (.ref L), some (.ref ta), some (.ref tb), some (.ref q3), some (.ref m), b7] ∧ CostsAt H' m C (lstC (cs.reverse.take i))) ⟨fun _ _ e => e, m0, none, rfl, by rw [List.take_zero]; exact cm0.same s10⟩ (fun _ _ _ _ z => SqL.of (z.1 _ _ f5)) ?_ ?_
    · rintro i y σ H10' H10 hi ⟨s11, m, b7, rfl, cm⟩ ⟨rfl, ey⟩
      rw [← List.map_reverse, List.getElem?_map] at ey
      obtain ⟨pc, epc, rfl⟩ := Option.map_eq_some_iff.mp ey
      obtain ⟨c, ec, hpc⟩ := paired_get rrev epc
      have hcm : c ∈ cs := List.mem_reverse.mp (List.mem_of_getElem? ec)
      have c5 := t5.way c hcm
      rw [List.length_reverse, List.length_map, lena2] at hi
      have hp10 := s11 _ _ hpc
      refine ⟨_, rfl, _, rfl, _, rfl, 2, rfl, pc, _, rfl, SqT.of hp10, (by show ¬ (HT.sIx 3 0 none = 0 ∧ HT.sIx 3 3 (some 2) = 3); decide), fun b1 hb1 => ?_⟩
      have s12 : Same H10 (upd H10 b1 (.tup (cutV (wayV c) none (some 2)))) := Same.upd hb1
      refine ⟨_, rfl, pc, _, 0 + 2, _, rfl, rfl, SqT.of (s12 _ _ hp10), rfl, _, _, rfl, rfl, (by show (1 : Nat) ≤ sizeLine; decide), fun b2 hb2 => ?_⟩
      have s13 := s12.trans (Same.upd (o := .tup [.int (c.2.2 + 1)]) hb2)
      have b12 : b1 ≠ b2 := fun z => by rw [← z, upd_same] at hb2; cases hb2
      refine ⟨b1, b2, [.str c.1, .str c.2.1], [.int (c.2.2 + 1)], rfl, rfl, SqT.of (by rw [upd_ne b12, upd_same]; rfl), SqT.of upd_same, (fun z => nomatch z), (by show (3 : Nat) ≤ sizeLine; decide), (fun z => nomatch z), fun _ b3 hb3 => ?_⟩
      have s14 : Same H10 (upd (upd (upd H10 b1 (.tup (cutV (wayV c) none (some 2)))) b2 (.tup [.int (c.2.2 + 1)])) b3 (.tup ([.str c.1, .str c.2.1] ++ [.int (c.2.2 + 1)]))) := s13.trans (Same.upd hb3)
      have f6 : upd (upd (upd H10 b1 (.tup (cutV (wayV c) none (some 2)))) b2 (.tup [.int (c.2.2 + 1)])) b3 (.tup ([.str c.1, .str c.2.1] ++ [.int (c.2.2 + 1)])) b3 = some (.tup (wayV (c.1, c.2.1, c.2.2 + 1))) := upd_same
      generalize upd (upd (upd H10 b1 (.tup (cutV (wayV c) none (some 2)))) b2 (.tup [.int (c.2.2 + 1)])) b3 (.tup ([.str c.1, .str c.2.1] ++ [.int (c.2.2 + 1)])) = H11 at s14 f6 ⊢
      have w2 : ∀ d ∈ [(c.1, c.2.1, c.2.2), (c.1, c.2.1, c.2.2 + 1)], Way5 d := fun d hd => by
        rcases List.mem_cons.mp hd with e | hd
        · rw [e]; exact c5
        · rw [List.mem_singleton.mp hd]; exact ⟨c5.one, c5.other, c5.ne, by have := c5.pos; show (1 : Int) ≤ c.2.2 + 1; omega⟩
      refine ⟨[pc, b3], [(c.1, c.2.1, c.2.2), (c.1, c.2.1, c.2.2 + 1)], rfl, .cons (s14 _ _ hp10) (.cons f6 .nil), fun d hd => (w2 d hd).ok, (by show (2 : Nat) ≤ 1000; decide), fun H12 e s15 ce => ?_⟩
      have wm : ∀ d ∈ lstC (cs.reverse.take i), Way5 d := fun d hd => t5.way d (List.mem_reverse.mp (List.mem_of_mem_take (mem_least hd)))
      have lm : (lstC (cs.reverse.take i)).length ≤ 20 := Nat.le_trans (least_length _) (by rw [List.length_take, List.length_reverse]; omega)
      have le : (lstC [(c.1, c.2.1, c.2.2), (c.1, c.2.1, c.2.2 + 1)]).length ≤ 2 := least_length _
      refine ⟨m, e, _, _, rfl, rfl, (cm.same s14).same s15, ce, fun d hd => (wm d hd).ok, fun d hd => (w2 d (mem_least hd)).ok, by omega, fun H13 r s16 cr => ?_⟩
      refine ⟨((s11.trans s14).trans s15).trans s16, r, _, rfl, ?_⟩
      rw [made_step] at cr
      rw [List.take_succ, ec]
      exact cr
    · rintro σ H10 ⟨s11, m, b7, rfl, cm⟩
      rw [show ((psa2.map V.ref).reverse).length = cs.reverse.length by rw [List.length_reverse, List.length_map, lena2, List.length_reverse], List.take_length, made_end t5.tab] at cm
      have S10 : Same H7 H10 := S9.trans s11
      have tok : ∀ {l : List Way}, (∀ c ∈ l, WayOk c) → ∀ c ∈ lstC (Kp.turn l), WayOk c := fun h c hc => turn_ok h c (mem_least hc)
      -- the first checks
      refine ⟨_, rfl, _, rfl, m, ta, cs, cs, rfl, rfl, cm, ca7.same S10, t5.ok, t5.ok, fun H11 s12 => ⟨_, rfl, ?_⟩⟩
      refine ifNb rfl ?_
      have S11 := S10.trans s12
      obtain ⟨dx3, t3, ps3, hs3, ht03, hp3, ht3, hr3⟩ := (ca7.same S11).slt
      refine ⟨_, rfl, ta, dx3, _, rfl, hs3, ta, cs, rfl, ca7.same S11, t5.ok, fun H12 b s13 cb1 => ?_⟩
      obtain ⟨dx4, t4, ps4, hs4, ht04, hp4, ht4, hr4'⟩ := cb1.slt
      refine ⟨b, dx4, _, rfl, hs4, b, _, rfl, cb1, tok t5.ok, fun H13 b' s14 cb2 => ?_⟩
      rw [turn_back t5.tab] at cb2
      have S13 := (S11.trans s13).trans s14
      refine ⟨_, rfl, b', ta, cs, cs, rfl, rfl, cb2, ca7.same S13, t5.ok, t5.ok, fun H14 s15 => ⟨_, rfl, ?_⟩⟩
      refine ifNb rfl ?_
      have S14 := S13.trans s15
      refine ⟨_, rfl, _, rfl, ta, L, cs, rfl, ca7.same S14, t5, by omega, S14 _ _ eL7, fun H15 s16 => ⟨_, rfl, iteF ?_⟩⟩
      have S15 := S14.trans s16
      refine ⟨_, rfl, _, rfl, _, rfl, ta, tb, L, cs, ds, rfl, ca7.same S15, cb7.same S15, t5, t6, hl5, hl6, S15 _ _ eL7, fun H16 s17 => ⟨_, rfl, iteF ?_⟩⟩
      have S16 := S15.trans s17
      refine ⟨_, rfl, _, rfl, _, rfl, tb, ta, L, ds, cs, rfl, cb7.same S16, ca7.same S16, t6, t5, hl6, hl5, S16 _ _ eL7, fun H17 s18 => ⟨_, rfl, iteF ?_⟩⟩
      have S17 := S16.trans s18
      -- nothing has changed
      obtain ⟨dx5, t5', ps5, hs5, ht05, hp5, ht5, hr5⟩ := (ca7.same S17).slt
      obtain ⟨dx6, t6', ps6, hs6, ht06, hp6, ht6, hr6⟩ := (cb7.same S17).slt
      refine ⟨_, rfl, ta, dx5, t5', _, rfl, hs5, ht5, by rw [List.length_map]; exact hp5, fun q6 hq6 => ?_⟩
      have s19 : Same H17 (upd H17 q6 (.lst (ps5.map V.ref))) := Same.upd hq6
      refine ⟨_, rfl, tb, dx6, t6', _, rfl, Slt.same s19 hs6, s19 _ _ ht6, by rw [List.length_map]; exact hp6, fun q7 hq7 => ?_⟩
      have q67 : q6 ≠ q7 := fun z => by rw [← z, upd_same] at hq7; cases hq7
      refine ⟨(by show (2 : Nat) ≤ sizeLine; decide), fun q8 hq8 => ?_⟩
      have s20 : Same H17 (upd (upd (upd H17 q6 (.lst (ps5.map V.ref))) q7 (.lst (ps6.map V.ref))) q8 (.lst [.ref q6, .ref q7])) := (s19.trans (Same.upd hq7)).trans (Same.upd hq8)
      have g1 : upd (upd (upd H17 q6 (.lst (ps5.map V.ref))) q7 (.lst (ps6.map V.ref))) q8 (.lst [.ref q6, .ref q7]) q6 = some (.lst (ps5.map V.ref)) := Same.upd hq8 _ _ (by rw [upd_ne q67, upd_same])
      have g2 : upd (upd (upd H17 q6 (.lst (ps5.map V.ref))) q7 (.lst (ps6.map V.ref))) q8 (.lst [.ref q6, .ref q7]) q7 = some (.lst (ps6.map V.ref)) := Same.upd hq8 _ _ upd_same
      have g3 : upd (upd (upd H17 q6 (.lst (ps5.map V.ref))) q7 (.lst (ps6.map V.ref))) q8 (.lst [.ref q6, .ref q7]) q8 = some (.lst [.ref q6, .ref q7]) := upd_same
      generalize upd (upd (upd H17 q6 (.lst (ps5.map V.ref))) q7 (.lst (ps6.map V.ref))) q8 (.lst [.ref q6, .ref q7]) = H18 at s20 g1 g2 g3 ⊢
      have lay : PyData.canLay0 (.list [.list (cs.map rwD), .list (ds.map rwD)]) = true := by
        simp only [PyData.canLay0, PyData.canLayAll0, lay_rows cs (pk t5.ok), lay_rows ds (pk t6.ok), Bool.and_true]
      have shp : SeqAt.shaped (.list [.list (cs.map rwD), .list (ds.map rwD)]) = true := by
        have h1 := dep_rows cs
        have h2 := dep_rows ds
        unfold SeqAt.shaped
        rw [lay, Bool.true_and, decide_eq_true_eq]
        simp only [PyData.depth, PyData.depthAll]
        omega
      refine ⟨_, rfl, .list [.list (cs.map rwD), .list (ds.map rwD)], .list [.list (cs.map rwD), .list (ds.map rwD)], .lst (SqL.of g3) (.cons (.lst (SqL.of g1) (dp_rows (RowsAt.same s20 hr5))) (.cons (.lst (SqL.of g2) (dp_rows (RowsAt.same s20 hr6))) .nil)),
        kept (S17.trans s20), shp, shp, true, by rw [SeqAt.eqv_refl _ lay], iteT ?_⟩
      have S18 := S17.trans s20
      obtain ⟨dx7, t7', ps7, hs7, ht07, hp7, ht7, hr7⟩ := (ca7.same S18).slt
      refine ⟨_, rfl, ta, dx7, t7', _, rfl, hs7, ht7, by rw [List.length_map]; exact hp7, ?_⟩
      refine ⟨_, rfl, ta, dx7, t7', _, rfl, hs7, ht7, by rw [List.length_map]; exact hp7, fun q9 hq9 => ?_⟩
      refine ⟨q9, _, rfl, .inl (SqL.of upd_same), rfl, ?_⟩
      rw [show decide (V.int ((ps7.map V.ref).length : Nat) = V.int ((ps7.map V.ref).length : Nat)) = true by simp]
      exact k _
end
end Ku
/-! The head, from a promise that is kept where no repr is under way. Written by turn_ends.py. -/
namespace Ku
open PySem PySem.Spec PyProof.Rows L2
theorem law_callG {P : Program} {w : World} {K : PySem.W.Frag} {mg mb : Str → Option Value} {k : Nat} {fa a : Addr} {sp : Sp} {s₁ : Shared} {vs : List Value} {ns : List Int}
    (KX : K.In s₁.heap) (hns : s₁.heap.Ns mainGlobals mg) (hb : s₁.heap.Ns builtinsNs mb) (hbb : ∀ x : Str, x ≠ "__name__" → mb x = bootBuiltins x) (hlim : s₁.heap.NoLimit) (hg : s₁.gens = #[])
    (ha : s₁.heap.get? a = some { cls := .type "list", data := .seq vs.toArray }) (hi : IntsAre vs ns) (hl : ns.length ≤ sizeLine) (hr : Room k callerA)
    (F : ∀ base : Heap, K.In base → base.Ns mainGlobals mg → FnG P w K mg base k fa sp)
    (hsp : ∀ H : Hp, Only H → SqL K H a (ns.map V.int) → sp [.ref a] H (fun v _ => v = .bl true) E0) :
    codeAny (model P w) callerA (.call (.ref fa) ⟨[.ref a], []⟩) (fun r s' => r = .ok (.ret (.bool true)) ∧ OldK s₁.heap s'.heap ∧ s'.os = s₁.os ∧ AllBare s'.gens) s₁ := by
  have rv := vals_ints hi
  have lenV := hi.length
  -- from an abstract heap in which nothing but the script may be tracked
  have core : ∀ H : Hp, Only H → SqL K H a (ns.map V.int) → HOk P w H s₁.heap → (∀ b, H b ≠ none → b = a) → (H a ≠ none → K.lookup a = none) →
      codeAny (model P w) callerA (.call (.ref fa) ⟨[.ref a], []⟩) (fun r s' => r = .ok (.ret (.bool true)) ∧ OldK s₁.heap s'.heap ∧ s'.os = s₁.os ∧ AllBare s'.gens) s₁ := by
    intro H hO hS hok hA hK
    have base_of : ∀ {b : Addr} {o : Obj}, s₁.heap.get? b = some o → H b = none → (hidT s₁.heap H).get? b = some o := fun e n => hidT_get e n
    have noA : ∀ {b : Addr} {o : Obj} {es : Array DictEntry} {ep : Nat}, s₁.heap.get? b = some o → o.data = .dict es ep → H b = none := fun {b o es ep} e d => by
      cases q : H b with
      | none => rfl
      | some u =>
        have e' : b = a := hA b (by rw [q]; simp)
        subst e'
        rw [ha] at e; cases e
        have d' : Data.seq vs.toArray _ = Data.dict es ep := d
        cases d'
    have nsK : ∀ {b : Addr} {m : Str → Option Value}, s₁.heap.Ns b m → (hidT s₁.heap H).Ns b m := fun {b m} ⟨o, es, ep, e, d, r⟩ => ⟨o, es, ep, base_of e (noA e d), d, r⟩
    have hKb : K.In (hidT s₁.heap H) := fun b o e => base_of (KX b o e) (by
      cases q : H b with
      | none => rfl
      | some u =>
        have e' : b = a := hA b (by rw [q]; simp)
        subst e'
        rw [hK (by rw [q]; simp)] at e; cases e)
    have hM : Mod K mg (hidT s₁.heap H) := ⟨hKb, nsK hns, ⟨mb, nsK hb, hbb⟩, let ⟨mc, h1, h2⟩ := hlim; ⟨mc, nsK h1, h2⟩⟩
    have e0 : Env0 P w K mg (hidT s₁.heap H) callerA [] s₁ H := ⟨rfl, hM, fun b o e => of_hidT e, Nat.le_of_eq (hidT_size _ _), trivial, fun b hb => absurd (show b ∈ ([] : List Addr) from hb) (by simp), hok, .of_eq hg⟩
    refine codeAny_mono ((F _ hKb (nsK hns)) callerA [] s₁ H [.ref a] [.ref a] _ rfl hr e0 (.cons rfl .nil) (hsp H hO hS)) fun r s' h => ?_
    cases r with
    | error e => exact False.elim h
    | ok fl =>
      cases fl with
      | next => exact False.elim h
      | brk => exact False.elim h
      | cont => exact False.elim h
      | ret u =>
        obtain ⟨v, H', os, bare, un, hok', r', q⟩ := h
        have q' : v = .bl true := q
        subst q'
        obtain rfl : u = Value.bool true := r'
        refine ⟨rfl, OldK.of_keep fun b o e => ?_, os, bare⟩
        cases q : H b with
        | none => exact un.keep b o e q (by intro z; exact absurd (show b ∈ ([] : List Addr) from z) (by simp)) (by simp)
        | some u =>
          rcases hO b with z | ⟨ob, xs, z⟩
          · rw [q] at z; cases z
          · have z2 := un.frzs b ob _ z
            obtain ⟨e1, _⟩ := hok b _ z
            obtain ⟨e2, _⟩ := hok' b _ z2
            rw [e] at e1; cases e1
            exact e2
  cases hk : K.lookup a with
  | some o =>
    -- the script is one of the module's own objects
    have e := KX a o hk
    rw [ha] at e
    cases e
    refine core (fun _ => none) (fun _ => .inl rfl) (.inr ⟨_, vs.toArray, _, hk, rfl, rfl, rfl, by rw [List.size_toArray, lenV]; exact hl, by simpa using rv⟩) (fun b u z => by have z' : (none : Option HO) = some u := z; cases z') (fun b z => absurd rfl z) fun z => absurd rfl z
  | none =>
    refine core (fun b => if b = a then some (.frz { cls := .type "list", data := .seq vs.toArray } (.lst (ns.map V.int))) else none) (fun b => ?_) (.inl (.inr ⟨{ cls := .type "list", data := .seq vs.toArray }, if_pos rfl⟩)) (fun b u z => ?_) (fun b z => ?_) fun _ => hk
    · by_cases hb : b = a
      · exact .inr ⟨_, _, if_pos hb⟩
      · exact .inl (if_neg hb)
    · by_cases hb : b = a
      · have z' := (if_pos hb).symm.trans z
        cases z'
        subst hb
        exact ⟨ha, by rw [List.length_map]; exact hl, vs, _, rv, ha⟩
      · have z' := (if_neg hb).symm.trans z
        cases z'
    · by_cases hb : b = a
      · exact hb
      · exact absurd (if_neg hb) z
theorem walk_ofG {l : PySem.W.OpenLaw} {n k : Nat} {q : Program} {loose : List Str} {XP : (Str → Option Value) → Heap → Prop} {YP : World → Heap → Prop} {d : DefRec} {K : Params → PySem.W.Frag} {sp : World → Sp}
    (hn : l.most = some n) (hn2 : n ≤ sizeLine) (hdf : d.params.defaults = []) (hr : Room k callerA) (hY : ∀ (w : World) (h : Heap), YP w h → (K w.params).In h)
    (F : ∀ (w : World) (mg : Str → Option Value) (fa : Addr) (h : Heap), (K w.params).In h → h.Ns mainGlobals mg → mg d.name = some (.ref fa) →
      ∀ base : Heap, (K w.params).In base → base.Ns mainGlobals mg → FnG l.prog w (K w.params) mg base k fa (sp w))
    (hsp : ∀ (w : World) (H : Hp) (a : Addr) (ns : List Int), ns.length ≤ n → Only H → SqL (K w.params) H a (ns.map V.int) → sp w [.ref a] H (fun v _ => v = .bl true) E0) :
    PySem.W.WalkO q loose XP YP l.row.toRowW d [] (fun f vs => PySem.call f vs) := by
  refine Att.attach_call hn hdf fun w s₀ s₁ mg mb fa o pm cd doc a vs ns G Y ho hd hcd hmg hobj hints hlen hg => ?_
  have KX := hY w _ Y
  exact law_callG KX G.T.g G.T.b G.T.builtins G.T.nolimit hg hobj hints (Nat.le_trans hlen hn2) hr (fun base h1 h2 => F w mg fa _ KX G.T.g hmg base h1 h2) fun H hO hS => hsp w H a ns hlen hO hS
end Ku
/-! The end: what the top has written, the head. Written by mk_end.py. -/
namespace Ku
open PySem PySem.Spec PyProof.Rows L2 SlX StX
theorem all_mk {l : PySem.W.OpenLaw} {w : World} {K : PySem.W.Frag} {h : Heap} {mg : Str → Option Value} {fa C pS : Addr} {tL tN : Tok}
    {fvI : Addr} {odvI anvI : Option Addr} {slvI : Array (Option Value)} {ocvI kVvI dcvI pmvI cdvI ctvI : Value}
    {fvN : Addr} {odvN anvN : Option Addr} {slvN : Array (Option Value)} {ocvN kVvN dcvN pmvN cdvN ctvN : Value}
    {fvA : Addr} {odvA anvA : Option Addr} {slvA : Array (Option Value)} {ocvA kVvA dcvA pmvA cdvA ctvA : Value}
    {fvM : Addr} {odvM anvM : Option Addr} {slvM : Array (Option Value)} {ocvM kVvM dcvM pmvM cdvM ctvM : Value}
    {fvT : Addr} {odvT anvT : Option Addr} {slvT : Array (Option Value)} {ocvT kVvT dcvT pmvT cdvT ctvT : Value}
    {fvC : Addr} {odvC anvC : Option Addr} {slvC : Array (Option Value)} {ocvC kVvC dcvC pmvC cdvC ctvC : Value}
    {fvS : Addr} {odvS anvS : Option Addr} {slvS : Array (Option Value)} {ocvS kVvS dcvS pmvS cdvS ctvS : Value}
    {fvL : Addr} {odvL anvL : Option Addr} {slvL : Array (Option Value)} {ocvL kVvL dcvL pmvL cdvL ctvL : Value}
    {fvP : Addr} {odvP anvP : Option Addr} {slvP : Array (Option Value)} {ocvP kVvP dcvP pmvP cdvP ctvP : Value}
    {fwF : Addr} {odwF anwF : Option Addr} {slwF : Array (Option Value)} {ocwF kVwF dcwF pmwF cdwF ctwF : Value}
    {fwD : Addr} {odwD anwD : Option Addr} {slwD : Array (Option Value)} {ocwD kVwD dcwD pmwD cdwD ctwD : Value}
    {fwT : Addr} {odwT anwT : Option Addr} {slwT : Array (Option Value)} {ocwT kVwT dcwT pmwT cdwT ctwT : Value}
    {fwP : Addr} {odwP anwP : Option Addr} {slwP : Array (Option Value)} {ocwP kVwP dcwP pmwP cdwP ctwP : Value}
    {fwS : Addr} {odwS anwS : Option Addr} {slwS : Array (Option Value)} {ocwS kVwS dcwS pmwS cdwS ctwS : Value}
    {fw2 : Addr} {odw2 anw2 : Option Addr} {slw2 : Array (Option Value)} {ocw2 kVw2 dcw2 pmw2 cdw2 ctw2 : Value}
    {fwL : Addr} {odwL anwL : Option Addr} {slwL : Array (Option Value)} {ocwL kVwL dcwL pmwL cdwL ctwL : Value}
    {fmI : Addr} {odmI anmI : Option Addr} {slmI : Array (Option Value)} {ocmI kVmI dcmI pmmI cdmI ctmI : Value}
    {fmP : Addr} {odmP anmP : Option Addr} {slmP : Array (Option Value)} {ocmP kVmP dcmP pmmP cdmP ctmP : Value}
    {fmT : Addr} {odmT anmT : Option Addr} {slmT : Array (Option Value)} {ocmT kVmT dcmT pmmT cdmT ctmT : Value}
    {fmC : Addr} {odmC anmC : Option Addr} {slmC : Array (Option Value)} {ocmC kVmC dcmC pmmC cdmC ctmC : Value}
    {fmR : Addr} {odmR anmR : Option Addr} {slmR : Array (Option Value)} {ocmR kVmR dcmR pmmR cdmR ctmR : Value}
    {fmL : Addr} {odmL anmL : Option Addr} {slmL : Array (Option Value)} {ocmL kVmL dcmL pmmL cdmL ctmL : Value}
    {fmK : Addr} {odmK anmK : Option Addr} {slmK : Array (Option Value)} {ocmK kVmK dcmK pmmK cdmK ctmK : Value}
    {fmG : Addr} {odmG anmG : Option Addr} {slmG : Array (Option Value)} {ocmG kVmG dcmG pmmG cdmG ctmG : Value}
    {fmO : Addr} {odmO anmO : Option Addr} {slmO : Array (Option Value)} {ocmO kVmO dcmO pmmO cdmO ctmO : Value}
    {fmE : Addr} {odmE anmE : Option Addr} {slmE : Array (Option Value)} {ocmE kVmE dcmE pmmE cdmE ctmE : Value}
    (X : K.In h) (G : h.Ns mainGlobals mg) (hfa : mg "law" = some (.ref fa))
    (aC : PySem.W.nsIn K mainGlobals "Costs" = some (some (.ref C)))
    (avI : PySem.W.nsIn K mainGlobals "is_integer" = some (some (.ref fvI)))
    (lvI : K.lookup fvI = some ⟨ocvI, odvI, .func (PySem.W.fnOf "is_integer" "is_integer" (defArgs sInteger) (defBody sInteger) (defScope sInteger) .none kVvI dcvI pmvI anvI cdvI ctvI), slvI⟩)
    (cvI : PySem.W.codeIn K cdvI "is_integer" = true)
    (kvI : PySem.W.keepIn K (.ref fvI) = true)
    (avN : PySem.W.nsIn K mainGlobals "is_number" = some (some (.ref fvN)))
    (lvN : K.lookup fvN = some ⟨ocvN, odvN, .func (PySem.W.fnOf "is_number" "is_number" (defArgs sNumber) (defBody sNumber) (defScope sNumber) .none kVvN dcvN pmvN anvN cdvN ctvN), slvN⟩)
    (cvN : PySem.W.codeIn K cdvN "is_number" = true)
    (kvN : PySem.W.keepIn K (.ref fvN) = true)
    (avA : PySem.W.nsIn K mainGlobals "is_amount" = some (some (.ref fvA)))
    (lvA : K.lookup fvA = some ⟨ocvA, odvA, .func (PySem.W.fnOf "is_amount" "is_amount" (defArgs sAmount) (defBody sAmount) (defScope sAmount) .none kVvA dcvA pmvA anvA cdvA ctvA), slvA⟩)
    (cvA : PySem.W.codeIn K cdvA "is_amount" = true)
    (kvA : PySem.W.keepIn K (.ref fvA) = true)
    (avM : PySem.W.nsIn K mainGlobals "is_name" = some (some (.ref fvM)))
    (lvM : K.lookup fvM = some ⟨ocvM, odvM, .func (PySem.W.fnOf "is_name" "is_name" (defArgs sName) (defBody sName) (defScope sName) .none kVvM dcvM pmvM anvM cdvM ctvM), slvM⟩)
    (cvM : PySem.W.codeIn K cdvM "is_name" = true)
    (kvM : PySem.W.keepIn K (.ref fvM) = true)
    (avT : PySem.W.nsIn K mainGlobals "are_two_names" = some (some (.ref fvT)))
    (lvT : K.lookup fvT = some ⟨ocvT, odvT, .func (PySem.W.fnOf "are_two_names" "are_two_names" (defArgs sTwo) (defBody sTwo) (defScope sTwo) .none kVvT dcvT pmvT anvT cdvT ctvT), slvT⟩)
    (cvT : PySem.W.codeIn K cdvT "are_two_names" = true)
    (kvT : PySem.W.keepIn K (.ref fvT) = true)
    (avC : PySem.W.nsIn K mainGlobals "is_cost" = some (some (.ref fvC)))
    (lvC : K.lookup fvC = some ⟨ocvC, odvC, .func (PySem.W.fnOf "is_cost" "is_cost" (defArgs sCost) (defBody sCost) (defScope sCost) .none kVvC dcvC pmvC anvC cdvC ctvC), slvC⟩)
    (cvC : PySem.W.codeIn K cdvC "is_cost" = true)
    (kvC : PySem.W.keepIn K (.ref fvC) = true)
    (avS : PySem.W.nsIn K mainGlobals "are_costs" = some (some (.ref fvS)))
    (lvS : K.lookup fvS = some ⟨ocvS, odvS, .func (PySem.W.fnOf "are_costs" "are_costs" (defArgs sAreCosts) (defBody sAreCosts) (defScope sAreCosts) .none kVvS dcvS pmvS anvS cdvS ctvS), slvS⟩)
    (cvS : PySem.W.codeIn K cdvS "are_costs" = true)
    (kvS : PySem.W.keepIn K (.ref fvS) = true)
    (avL : PySem.W.nsIn K mainGlobals "least_costs" = some (some (.ref fvL)))
    (lvL : K.lookup fvL = some ⟨ocvL, odvL, .func (PySem.W.fnOf "least_costs" "least_costs" (defArgs sLeast) (defBody sLeast) (defScope sLeast) .none kVvL dcvL pmvL anvL cdvL ctvL), slvL⟩)
    (cvL : PySem.W.codeIn K cdvL "least_costs" = true)
    (kvL : PySem.W.keepIn K (.ref fvL) = true)
    (avP : PySem.W.nsIn K mainGlobals "paths_from" = some (some (.ref fvP)))
    (lvP : K.lookup fvP = some ⟨ocvP, odvP, .func (PySem.W.fnOf "paths_from" "paths_from" (defArgs sPaths) (defBody sPaths) (defScope sPaths) .none kVvP dcvP pmvP anvP cdvP ctvP), slvP⟩)
    (cvP : PySem.W.codeIn K cdvP "paths_from" = true)
    (kvP : PySem.W.keepIn K (.ref fvP) = true)
    (awF : PySem.W.nsIn K mainGlobals "_law_feed" = some (some (.ref fwF)))
    (lwF : K.lookup fwF = some ⟨ocwF, odwF, .func (PySem.W.fnOf "_law_feed" "_law_feed" (defArgs sFeed) (defBody sFeed) (defScope sFeed) .none kVwF dcwF pmwF anwF cdwF ctwF), slwF⟩)
    (cwF : PySem.W.codeIn K cdwF "_law_feed" = true)
    (kwF : PySem.W.keepIn K (.ref fwF) = true)
    (awD : PySem.W.nsIn K mainGlobals "_law_draw" = some (some (.ref fwD)))
    (lwD : K.lookup fwD = some ⟨ocwD, odwD, .func (PySem.W.fnOf "_law_draw" "_law_draw" (defArgs sDraw) (defBody sDraw) (defScope sDraw) .none kVwD dcwD pmwD anwD cdwD ctwD), slwD⟩)
    (cwD : PySem.W.codeIn K cdwD "_law_draw" = true)
    (kwD : PySem.W.keepIn K (.ref fwD) = true)
    (awT : PySem.W.nsIn K mainGlobals "_law_table" = some (some (.ref fwT)))
    (lwT : K.lookup fwT = some ⟨ocwT, odwT, .func (PySem.W.fnOf "_law_table" "_law_table" (defArgs sTable) (defBody sTable) (defScope sTable) .none kVwT dcwT pmwT anwT cdwT ctwT), slwT⟩)
    (cwT : PySem.W.codeIn K cdwT "_law_table" = true)
    (kwT : PySem.W.keepIn K (.ref fwT) = true)
    (awP : PySem.W.nsIn K mainGlobals "_law_path_right" = some (some (.ref fwP)))
    (lwP : K.lookup fwP = some ⟨ocwP, odwP, .func (PySem.W.fnOf "_law_path_right" "_law_path_right" (defArgs sPathRight) (defBody sPathRight) (defScope sPathRight) .none kVwP dcwP pmwP anwP cdwP ctwP), slwP⟩)
    (cwP : PySem.W.codeIn K cdwP "_law_path_right" = true)
    (kwP : PySem.W.keepIn K (.ref fwP) = true)
    (awS : PySem.W.nsIn K mainGlobals "_law_paths_right" = some (some (.ref fwS)))
    (lwS : K.lookup fwS = some ⟨ocwS, odwS, .func (PySem.W.fnOf "_law_paths_right" "_law_paths_right" (defArgs sPathsRight) (defBody sPathsRight) (defScope sPathsRight) .none kVwS dcwS pmwS anwS cdwS ctwS), slwS⟩)
    (cwS : PySem.W.codeIn K cdwS "_law_paths_right" = true)
    (kwS : PySem.W.keepIn K (.ref fwS) = true)
    (aw2 : PySem.W.nsIn K mainGlobals "_law_two_right" = some (some (.ref fw2)))
    (lw2 : K.lookup fw2 = some ⟨ocw2, odw2, .func (PySem.W.fnOf "_law_two_right" "_law_two_right" (defArgs sTwoRight) (defBody sTwoRight) (defScope sTwoRight) .none kVw2 dcw2 pmw2 anw2 cdw2 ctw2), slw2⟩)
    (cw2 : PySem.W.codeIn K cdw2 "_law_two_right" = true)
    (kw2 : PySem.W.keepIn K (.ref fw2) = true)
    (awL : PySem.W.nsIn K mainGlobals "law" = some (some (.ref fwL)))
    (lwL : K.lookup fwL = some ⟨ocwL, odwL, .func (PySem.W.fnOf "law" "law" (defArgs sLaw) (defBody sLaw) (defScope sLaw) .none kVwL dcwL pmwL anwL cdwL ctwL), slwL⟩)
    (cwL : PySem.W.codeIn K cdwL "law" = true)
    (kwL : PySem.W.keepIn K (.ref fwL) = true)
    (amI : PySem.W.findIn K (.ref C) "__init__" = some (some (.ref fmI)))
    (imI : PySem.W.isFn K (.ref fmI) = true)
    (lmI : K.lookup fmI = some ⟨ocmI, odmI, .func (PySem.W.fnOf "__init__" "Costs.__init__" (defArgs sInit) (defBody sInit) (defScope sInit) .none kVmI dcmI pmmI anmI cdmI ctmI), slmI⟩)
    (cmI : PySem.W.codeIn K cdmI "Costs.__init__" = true)
    (kmI : PySem.W.keepIn K (.ref fmI) = true)
    (amP : PySem.W.findIn K (.ref C) "path" = some (some (.ref fmP)))
    (imP : PySem.W.isFn K (.ref fmP) = true)
    (lmP : K.lookup fmP = some ⟨ocmP, odmP, .func (PySem.W.fnOf "path" "Costs.path" (defArgs sPath) (defBody sPath) (defScope sPath) .none kVmP dcmP pmmP anmP cdmP ctmP), slmP⟩)
    (cmP : PySem.W.codeIn K cdmP "Costs.path" = true)
    (kmP : PySem.W.keepIn K (.ref fmP) = true)
    (amT : PySem.W.findIn K (.ref C) "turned" = some (some (.ref fmT)))
    (imT : PySem.W.isFn K (.ref fmT) = true)
    (lmT : K.lookup fmT = some ⟨ocmT, odmT, .func (PySem.W.fnOf "turned" "Costs.turned" (defArgs sTurned) (defBody sTurned) (defScope sTurned) .none kVmT dcmT pmmT anmT cdmT ctmT), slmT⟩)
    (cmT : PySem.W.codeIn K cdmT "Costs.turned" = true)
    (kmT : PySem.W.keepIn K (.ref fmT) = true)
    (amC : PySem.W.findIn K (.ref C) "__call__" = some (some (.ref fmC)))
    (imC : PySem.W.isFn K (.ref fmC) = true)
    (lmC : K.lookup fmC = some ⟨ocmC, odmC, .func (PySem.W.fnOf "__call__" "Costs.__call__" (defArgs sCall) (defBody sCall) (defScope sCall) .none kVmC dcmC pmmC anmC cdmC ctmC), slmC⟩)
    (cmC : PySem.W.codeIn K cdmC "Costs.__call__" = true)
    (kmC : PySem.W.keepIn K (.ref fmC) = true)
    (amR : PySem.W.findIn K (.ref C) "__iter__" = some (some (.ref fmR)))
    (imR : PySem.W.isFn K (.ref fmR) = true)
    (lmR : K.lookup fmR = some ⟨ocmR, odmR, .func (PySem.W.fnOf "__iter__" "Costs.__iter__" (defArgs sIter) (defBody sIter) (defScope sIter) .none kVmR dcmR pmmR anmR cdmR ctmR), slmR⟩)
    (cmR : PySem.W.codeIn K cdmR "Costs.__iter__" = true)
    (kmR : PySem.W.keepIn K (.ref fmR) = true)
    (amL : PySem.W.findIn K (.ref C) "__len__" = some (some (.ref fmL)))
    (imL : PySem.W.isFn K (.ref fmL) = true)
    (lmL : K.lookup fmL = some ⟨ocmL, odmL, .func (PySem.W.fnOf "__len__" "Costs.__len__" (defArgs sLen) (defBody sLen) (defScope sLen) .none kVmL dcmL pmmL anmL cdmL ctmL), slmL⟩)
    (cmL : PySem.W.codeIn K cdmL "Costs.__len__" = true)
    (kmL : PySem.W.keepIn K (.ref fmL) = true)
    (amK : PySem.W.findIn K (.ref C) "__contains__" = some (some (.ref fmK)))
    (imK : PySem.W.isFn K (.ref fmK) = true)
    (lmK : K.lookup fmK = some ⟨ocmK, odmK, .func (PySem.W.fnOf "__contains__" "Costs.__contains__" (defArgs sContains) (defBody sContains) (defScope sContains) .none kVmK dcmK pmmK anmK cdmK ctmK), slmK⟩)
    (cmK : PySem.W.codeIn K cdmK "Costs.__contains__" = true)
    (kmK : PySem.W.keepIn K (.ref fmK) = true)
    (amG : PySem.W.findIn K (.ref C) "__getitem__" = some (some (.ref fmG)))
    (imG : PySem.W.isFn K (.ref fmG) = true)
    (lmG : K.lookup fmG = some ⟨ocmG, odmG, .func (PySem.W.fnOf "__getitem__" "Costs.__getitem__" (defArgs sGetitem) (defBody sGetitem) (defScope sGetitem) .none kVmG dcmG pmmG anmG cdmG ctmG), slmG⟩)
    (cmG : PySem.W.codeIn K cdmG "Costs.__getitem__" = true)
    (kmG : PySem.W.keepIn K (.ref fmG) = true)
    (amO : PySem.W.findIn K (.ref C) "__or__" = some (some (.ref fmO)))
    (imO : PySem.W.isFn K (.ref fmO) = true)
    (lmO : K.lookup fmO = some ⟨ocmO, odmO, .func (PySem.W.fnOf "__or__" "Costs.__or__" (defArgs sOr) (defBody sOr) (defScope sOr) .none kVmO dcmO pmmO anmO cdmO ctmO), slmO⟩)
    (cmO : PySem.W.codeIn K cdmO "Costs.__or__" = true)
    (kmO : PySem.W.keepIn K (.ref fmO) = true)
    (amE : PySem.W.findIn K (.ref C) "__eq__" = some (some (.ref fmE)))
    (imE : PySem.W.isFn K (.ref fmE) = true)
    (lmE : K.lookup fmE = some ⟨ocmE, odmE, .func (PySem.W.fnOf "__eq__" "Costs.__eq__" (defArgs sEq) (defBody sEq) (defScope sEq) .none kVmE dcmE pmmE anmE cdmE ctmE), slmE⟩)
    (cmE : PySem.W.codeIn K cdmE "Costs.__eq__" = true)
    (kmE : PySem.W.keepIn K (.ref fmE) = true)
    (nG : PySem.W.fnIn K fmG = true)
    (nC : PySem.W.fnIn K fmC = true)
    (pg : PySem.W.plainGet K C Str.empty = true)
    (ic : PySem.W.isClsIn K C = true)
    (po : PySem.W.plainOver K C = true)
    (sa : PySem.W.findIn K (.ref C) "__setattr__" = some (some (.builtin "object.__setattr__")))
    (ca : PySem.W.findIn K (.ref C) "__class__" = some (some (.builtin "object.__class__")))
    (cn : PySem.W.specialIn K (.builtin "object.__class__") "__get__" = some (some (.builtin "getset_descriptor.__get__")))
    (ct : PySem.W.takesIn K (.builtin "object.__class__") = some true)
    (cm : PySem.W.mroIn K C (.type "object") = some true)
    (sat : PySem.W.findIn K (.ref C) "own_costs" = some (some (.ref pS)))
    (sge : PySem.W.specialIn K (.ref pS) "__get__" = some (some (.builtin "member_descriptor.__get__")))
    (stk : PySem.W.takesIn K (.ref pS) = some true)
    (sty : PySem.W.typeIn K (.ref pS) = some (.type "member_descriptor"))
    (six : PySem.W.slotIn K pS C = some 0)
    (mk : PySem.W.makesIn K C = true)
    (kc : PySem.W.keepIn K (.ref C) = true)
    (sf : PySem.W.selfFirst K C = true)
    (ne : PySem.W.findIn K (.ref C) "__ne__" = some (some (.builtin "object.__ne__")))
    (ob : PySem.W.subIn K (.ref C) (.type "object") = some true)
    (z_isinstance : PySem.W.nsIn K mainGlobals "isinstance" = some none)
    (z_int : PySem.W.nsIn K mainGlobals "int" = some none)
    (z_bool : PySem.W.nsIn K mainGlobals "bool" = some none)
    (z_str : PySem.W.nsIn K mainGlobals "str" = some none)
    (z_tuple : PySem.W.nsIn K mainGlobals "tuple" = some none)
    (z_list : PySem.W.nsIn K mainGlobals "list" = some none)
    (z_len : PySem.W.nsIn K mainGlobals "len" = some none)
    (z_all : PySem.W.nsIn K mainGlobals "all" = some none)
    (z_sorted : PySem.W.nsIn K mainGlobals "sorted" = some none)
    (z_range : PySem.W.nsIn K mainGlobals "range" = some none)
    (z_enumerate : PySem.W.nsIn K mainGlobals "enumerate" = some none)
    (z_iter : PySem.W.nsIn K mainGlobals "iter" = some none)
    (z_repr : PySem.W.nsIn K mainGlobals "repr" = some none)
    (z_set : PySem.W.nsIn K mainGlobals "set" = some none)
    (z_sum : PySem.W.nsIn K mainGlobals "sum" = some none)
    (z_min : PySem.W.nsIn K mainGlobals "min" = some none)
    (zL1 : PySem.W.nsIn K mainGlobals "LETTERS" = some (some (.str "abcdefghijklmnopqrstuvwxyz" tL)))
    (zL2 : PySem.W.nsIn K mainGlobals "LONGEST" = some (some (.int 8 tN)))
    : ∀ base : Heap, K.In base → base.Ns mainGlobals mg → FnG l.prog w K mg base 11 fa (spLaw K) := by
  intro base _ _
  have e := hfa.symm.trans (PySem.W.mg_of X G awL)
  cases e
  have g : Glb mg := ⟨PySem.W.mg_none_of X G z_isinstance, PySem.W.mg_none_of X G z_int, PySem.W.mg_none_of X G z_bool, PySem.W.mg_none_of X G z_str, PySem.W.mg_none_of X G z_tuple, PySem.W.mg_none_of X G z_list, PySem.W.mg_none_of X G z_len, PySem.W.mg_none_of X G z_all, PySem.W.mg_none_of X G z_sorted, PySem.W.mg_none_of X G z_range, PySem.W.mg_none_of X G z_enumerate, PySem.W.mg_none_of X G z_iter, PySem.W.mg_none_of X G z_repr, PySem.W.mg_none_of X G z_set, PySem.W.mg_none_of X G z_sum, PySem.W.mg_none_of X G z_min, ⟨tL, PySem.W.mg_of X G zL1⟩, ⟨tN, PySem.W.mg_of X G zL2⟩⟩
  have cc : CC K mg C := ⟨⟨pg, ic, po, sa⟩, ⟨ca, cn, ct, cm⟩, ⟨pS, ⟨sat, sge, stk, sty, six, by decide⟩⟩, PySem.W.mg_of X G aC⟩
  have FvI := fun_mk (st := sInteger) lvI cvI kvI
  have BvI := FvI.binds (ps := ["thing"]) fun _ _ _ _ _ _ us hl => match us, hl with | [_], _ => rfl
  have FvN := fun_mk (st := sNumber) lvN cvN kvN
  have BvN := FvN.binds (ps := ["thing"]) fun _ _ _ _ _ _ us hl => match us, hl with | [_], _ => rfl
  have FvA := fun_mk (st := sAmount) lvA cvA kvA
  have BvA := FvA.binds (ps := ["thing"]) fun _ _ _ _ _ _ us hl => match us, hl with | [_], _ => rfl
  have FvM := fun_mk (st := sName) lvM cvM kvM
  have BvM := FvM.binds (ps := ["thing"]) fun _ _ _ _ _ _ us hl => match us, hl with | [_], _ => rfl
  have FvT := fun_mk (st := sTwo) lvT cvT kvT
  have BvT := FvT.binds (ps := ["one", "other"]) fun _ _ _ _ _ _ us hl => match us, hl with | [_, _], _ => rfl
  have FvC := fun_mk (st := sCost) lvC cvC kvC
  have BvC := FvC.binds (ps := ["thing"]) fun _ _ _ _ _ _ us hl => match us, hl with | [_], _ => rfl
  have FvS := fun_mk (st := sAreCosts) lvS cvS kvS
  have BvS := FvS.binds (ps := ["thing"]) fun _ _ _ _ _ _ us hl => match us, hl with | [_], _ => rfl
  have FvL := fun_mk (st := sLeast) lvL cvL kvL
  have BvL := FvL.binds (ps := ["thing"]) fun _ _ _ _ _ _ us hl => match us, hl with | [_], _ => rfl
  have FvP := fun_mk (st := sPaths) lvP cvP kvP
  have BvP := FvP.binds (ps := ["costs", "one"]) fun _ _ _ _ _ _ us hl => match us, hl with | [_, _], _ => rfl
  have FwF := fun_mk (st := sFeed) lwF cwF kwF
  have BwF := FwF.binds (ps := ["_law_script"]) fun _ _ _ _ _ _ us hl => match us, hl with | [_], _ => rfl
  have FwD := fun_mk (st := sDraw) lwD cwD kwD
  have BwD := FwD.binds (ps := ["_law_feed_here", "_law_many"]) fun _ _ _ _ _ _ us hl => match us, hl with | [_, _], _ => rfl
  have FwT := fun_mk (st := sTable) lwT cwT kwT
  have BwT := FwT.binds (ps := ["_law_feed_here", "_law_size"]) fun _ _ _ _ _ _ us hl => match us, hl with | [_, _], _ => rfl
  have FwP := fun_mk (st := sPathRight) lwP cwP kwP
  have BwP := FwP.binds (ps := ["_law_table_here", "_law_name", "_law_late"]) fun _ _ _ _ _ _ us hl => match us, hl with | [_, _, _], _ => rfl
  have FwS := fun_mk (st := sPathsRight) lwS cwS kwS
  have BwS := FwS.binds (ps := ["_law_table_here", "_law_names"]) fun _ _ _ _ _ _ us hl => match us, hl with | [_, _], _ => rfl
  have Fw2 := fun_mk (st := sTwoRight) lw2 cw2 kw2
  have Bw2 := Fw2.binds (ps := ["_law_table_here", "_law_late", "_law_names"]) fun _ _ _ _ _ _ us hl => match us, hl with | [_, _, _], _ => rfl
  have FwL := fun_mk (st := sLaw) lwL cwL kwL
  have BwL := FwL.binds (ps := ["_law_script"]) fun _ _ _ _ _ _ us hl => match us, hl with | [_], _ => rfl
  have FmI := fun_mk (st := sInit) lmI cmI kmI
  have FmP := fun_mk (st := sPath) lmP cmP kmP
  have BmP := FmP.binds (ps := ["self", "one", "other"]) fun _ _ _ _ _ _ us hl => match us, hl with | [_, _, _], _ => rfl
  have FmT := fun_mk (st := sTurned) lmT cmT kmT
  have BmT := FmT.binds (ps := ["self"]) fun _ _ _ _ _ _ us hl => match us, hl with | [_], _ => rfl
  have FmC := fun_mk (st := sCall) lmC cmC kmC
  have BmC := FmC.binds (ps := ["self", "one", "other"]) fun _ _ _ _ _ _ us hl => match us, hl with | [_, _, _], _ => rfl
  have FmR := fun_mk (st := sIter) lmR cmR kmR
  have BmR := FmR.binds (ps := ["self"]) fun _ _ _ _ _ _ us hl => match us, hl with | [_], _ => rfl
  have FmL := fun_mk (st := sLen) lmL cmL kmL
  have BmL := FmL.binds (ps := ["self"]) fun _ _ _ _ _ _ us hl => match us, hl with | [_], _ => rfl
  have FmK := fun_mk (st := sContains) lmK cmK kmK
  have BmK := FmK.binds (ps := ["self", "thing"]) fun _ _ _ _ _ _ us hl => match us, hl with | [_, _], _ => rfl
  have FmG := fun_mk (st := sGetitem) lmG cmG kmG
  have BmG := FmG.binds (ps := ["self", "pair"]) fun _ _ _ _ _ _ us hl => match us, hl with | [_, _], _ => rfl
  have FmO := fun_mk (st := sOr) lmO cmO kmO
  have BmO := FmO.binds (ps := ["self", "other"]) fun _ _ _ _ _ _ us hl => match us, hl with | [_, _], _ => rfl
  have FmE := fun_mk (st := sEq) lmE cmE kmE
  have BmE := FmE.binds (ps := ["self", "other"]) fun _ _ _ _ _ _ us hl => match us, hl with | [_, _], _ => rfl
  have DvI : Def l.prog w K mg base "is_integer" 1 ["thing"] spInteger := ⟨_, _, PySem.W.mg_of X G avI, kvI, ok_integer FvI g, BvI⟩
  have DvN : Def l.prog w K mg base "is_number" 2 ["thing"] spNumber := ⟨_, _, PySem.W.mg_of X G avN, kvN, ok_number FvN DvI, BvN⟩
  have DvA : Def l.prog w K mg base "is_amount" 3 ["thing"] spAmount := ⟨_, _, PySem.W.mg_of X G avA, kvA, ok_amount FvA DvN, BvA⟩
  have DvM : Def l.prog w K mg base "is_name" 1 ["thing"] spName := ⟨_, _, PySem.W.mg_of X G avM, kvM, ok_name FvM g, BvM⟩
  have DvT : Def l.prog w K mg base "are_two_names" 2 ["one", "other"] spTwo := ⟨_, _, PySem.W.mg_of X G avT, kvT, ok_two FvT DvM, BvT⟩
  have DvC : Def l.prog w K mg base "is_cost" 4 ["thing"] spCost := ⟨_, _, PySem.W.mg_of X G avC, kvC, ok_cost FvC g DvT DvA, BvC⟩
  have DvS : Def l.prog w K mg base "are_costs" 5 ["thing"] spAreCosts := ⟨_, _, PySem.W.mg_of X G avS, kvS, ok_areCosts FvS g DvC, BvS⟩
  have DvL : Def l.prog w K mg base "least_costs" 6 ["thing"] spLeast := ⟨_, _, PySem.W.mg_of X G avL, kvL, ok_least FvL g DvS, BvL⟩
  have DvP : Def l.prog w K mg base "paths_from" 1 ["costs", "one"] spPaths := ⟨_, _, PySem.W.mg_of X G avP, kvP, ok_paths FvP g, BvP⟩
  have cl : Cls l.prog w K mg base C := ⟨cc, _, ⟨mk, amI, imI, kc⟩, ok_init FmI g cc DvC DvL⟩
  have kitC : PySem.W.kitOne K (.ref C) (.ref C) = some true := by unfold PySem.W.kitOne; rw [if_pos (by simp)]
  have T : Ms l.prog w K mg base C := ⟨cl, ⟨_, ⟨amP, imP, kmP⟩, FnOk.r0 (ok_pathM FmP cc DvP) BmP⟩, ⟨_, ⟨amT, imT, kmT⟩, FnOk.r0 (ok_turned FmT cl) BmT⟩, ⟨_, ⟨amC, imC, nC⟩, FnOk.r0 (ok_callM FmC cc DvP) BmC⟩, ⟨_, ⟨amR, imR⟩, ok_iter FmR BmR g cc⟩, ⟨_, ⟨amL, imL⟩, FnOk.r0 (ok_len FmL g cc) BmL⟩,
    ⟨_, amK, imK, FnOk.r0 (ok_contains FmK cc DvC) BmK⟩, ⟨_, amG, nG, imG, ok_get FmG BmG g cc⟩, ⟨sf, _, amO, imO, FnOk.r0 (ok_or FmO cl) BmO⟩, ⟨ne, ob, _, amE, imE, FnOk.r0 (ok_eq FmE g cc kitC) BmE⟩⟩
  have DwF : Def l.prog w K mg base "_law_feed" 1 ["_law_script"] (spFeed K) := ⟨_, _, PySem.W.mg_of X G awF, kwF, ok_feed FwF g, BwF⟩
  have DwD : Def l.prog w K mg base "_law_draw" 1 ["_law_feed_here", "_law_many"] spDraw := ⟨_, _, PySem.W.mg_of X G awD, kwD, ok_draw FwD g, BwD⟩
  have DwT : Def l.prog w K mg base "_law_table" 10 ["_law_feed_here", "_law_size"] (spTable C) := ⟨_, _, PySem.W.mg_of X G awT, kwT, ok_table FwT g T DwD, BwT⟩
  have GP : DefG l.prog w K mg base "_law_path_right" 3 (spPR C) := ⟨_, PySem.W.mg_of X G awP, kwP, ok_PR FwP BwP g T⟩
  have GS : DefG l.prog w K mg base "_law_paths_right" 10 (spPSR C) := ⟨_, PySem.W.mg_of X G awS, kwS, ok_PSR FwS BwS g T GP⟩
  have Dw2 : Def l.prog w K mg base "_law_two_right" 10 ["_law_table_here", "_law_late", "_law_names"] (sp2R C) := ⟨_, _, PySem.W.mg_of X G aw2, kw2, ok_2R Fw2 g T, Bw2⟩
  exact ok_law FwL BwL g T DwF DwD DwT GS Dw2
theorem walk {l : PySem.W.OpenLaw} {q : Program} {loose : List Str} {XP : (Str → Option Value) → Heap → Prop} {YP : World → Heap → Prop} {d : DefRec} {K : Params → PySem.W.Frag} (hn : l.most = some 63) (hdf : d.params.defaults = [])
    (hY : ∀ (w : World) (h : Heap), YP w h → (K w.params).In h)
    (F : ∀ (w : World) (mg : Str → Option Value) (fa : Addr) (h : Heap), (K w.params).In h → h.Ns mainGlobals mg → mg d.name = some (.ref fa) →
      ∀ base : Heap, (K w.params).In base → base.Ns mainGlobals mg → FnG l.prog w (K w.params) mg base 11 fa (spLaw (K w.params))) :
    PySem.W.WalkO q loose XP YP l.row.toRowW d [] (fun f vs => PySem.call f vs) :=
  walk_ofG (n := 63) (k := 11) (sp := fun w => spLaw (K w.params)) hn (by decide) hdf ⟨rfl, by decide, by decide⟩ hY F fun _ _ a ns hl _ hS => ⟨a, ns, rfl, hS, hl, fun _ => rfl⟩
end Ku

open PySem PySem.W PyProof.Rows in
set_option maxRecDepth 100000 in
set_option maxHeartbeats 0 in
theorem PySem.Challenge.cw_unbooked_k11_whole_tables_holds : PySem.Challenge.rw_unbooked_k11_whole_tables.Holds := by
  w_on; o_law; k_head; (case hw => w_witness2)
  k_fill
  refine Ku.walk (l := PySem.Challenge.rw_unbooked_k11_whole_tables) rfl rfl (fun w h Y => PySem.W.kIn_of Y) ?F
  case F =>
    intro w mg fa h KX G hmg
    refine' Ku.all_mk KX G hmg ?aC ?avI ?lvI ?cvI ?kvI ?avN ?lvN ?cvN ?kvN ?avA ?lvA ?cvA ?kvA ?avM ?lvM ?cvM ?kvM ?avT ?lvT ?cvT ?kvT ?avC ?lvC ?cvC ?kvC ?avS ?lvS ?cvS ?kvS ?avL ?lvL ?cvL ?kvL ?avP ?lvP ?cvP ?kvP ?awF ?lwF ?cwF ?kwF ?awD ?lwD ?cwD ?kwD ?awT ?lwT ?cwT ?kwT ?awP ?lwP ?cwP ?kwP ?awS ?lwS ?cwS ?kwS ?aw2 ?lw2 ?cw2 ?kw2 ?awL ?lwL ?cwL ?kwL ?amI ?imI ?lmI ?cmI ?kmI ?amP ?imP ?lmP ?cmP ?kmP ?amT ?imT ?lmT ?cmT ?kmT ?amC ?imC ?lmC ?cmC ?kmC ?amR ?imR ?lmR ?cmR ?kmR ?amL ?imL ?lmL ?cmL ?kmL ?amK ?imK ?lmK ?cmK ?kmK ?amG ?imG ?lmG ?cmG ?kmG ?amO ?imO ?lmO ?cmO ?kmO ?amE ?imE ?lmE ?cmE ?kmE ?nG ?nC ?pg ?ic ?po ?sa ?ca ?cn ?ct ?cm ?sat ?sge ?stk ?sty ?six ?mk ?kc ?sf ?ne ?ob ?z_isinstance ?z_int ?z_bool ?z_str ?z_tuple ?z_list ?z_len ?z_all ?z_sorted ?z_range ?z_enumerate ?z_iter ?z_repr ?z_set ?z_sum ?z_min ?zL1 ?zL2
    (case aC => k_is)
    (case avI => k_is)
    (case lvI => k_is)
    (case cvI => k_is)
    (case kvI => k_is)
    (case avN => k_is)
    (case lvN => k_is)
    (case cvN => k_is)
    (case kvN => k_is)
    (case avA => k_is)
    (case lvA => k_is)
    (case cvA => k_is)
    (case kvA => k_is)
    (case avM => k_is)
    (case lvM => k_is)
    (case cvM => k_is)
    (case kvM => k_is)
    (case avT => k_is)
    (case lvT => k_is)
    (case cvT => k_is)
    (case kvT => k_is)
    (case avC => k_is)
    (case lvC => k_is)
    (case cvC => k_is)
    (case kvC => k_is)
    (case avS => k_is)
    (case lvS => k_is)
    (case cvS => k_is)
    (case kvS => k_is)
    (case avL => k_is)
    (case lvL => k_is)
    (case cvL => k_is)
    (case kvL => k_is)
    (case avP => k_is)
    (case lvP => k_is)
    (case cvP => k_is)
    (case kvP => k_is)
    (case awF => k_is)
    (case lwF => k_is)
    (case cwF => k_is)
    (case kwF => k_is)
    (case awD => k_is)
    (case lwD => k_is)
    (case cwD => k_is)
    (case kwD => k_is)
    (case awT => k_is)
    (case lwT => k_is)
    (case cwT => k_is)
    (case kwT => k_is)
    (case awP => k_is)
    (case lwP => k_is)
    (case cwP => k_is)
    (case kwP => k_is)
    (case awS => k_is)
    (case lwS => k_is)
    (case cwS => k_is)
    (case kwS => k_is)
    (case aw2 => k_is)
    (case lw2 => k_is)
    (case cw2 => k_is)
    (case kw2 => k_is)
    (case awL => k_is)
    (case lwL => k_is)
    (case cwL => k_is)
    (case kwL => k_is)
    (case amI => k_is)
    (case imI => k_is)
    (case lmI => k_is)
    (case cmI => k_is)
    (case kmI => k_is)
    (case amP => k_is)
    (case imP => k_is)
    (case lmP => k_is)
    (case cmP => k_is)
    (case kmP => k_is)
    (case amT => k_is)
    (case imT => k_is)
    (case lmT => k_is)
    (case cmT => k_is)
    (case kmT => k_is)
    (case amC => k_is)
    (case imC => k_is)
    (case lmC => k_is)
    (case cmC => k_is)
    (case kmC => k_is)
    (case amR => k_is)
    (case imR => k_is)
    (case lmR => k_is)
    (case cmR => k_is)
    (case kmR => k_is)
    (case amL => k_is)
    (case imL => k_is)
    (case lmL => k_is)
    (case cmL => k_is)
    (case kmL => k_is)
    (case amK => k_is)
    (case imK => k_is)
    (case lmK => k_is)
    (case cmK => k_is)
    (case kmK => k_is)
    (case amG => k_is)
    (case imG => k_is)
    (case lmG => k_is)
    (case cmG => k_is)
    (case kmG => k_is)
    (case amO => k_is)
    (case imO => k_is)
    (case lmO => k_is)
    (case cmO => k_is)
    (case kmO => k_is)
    (case amE => k_is)
    (case imE => k_is)
    (case lmE => k_is)
    (case cmE => k_is)
    (case kmE => k_is)
    (case nG => k_is)
    (case nC => k_is)
    (case pg => k_is)
    (case ic => k_is)
    (case po => k_is)
    (case sa => k_is)
    (case ca => k_is)
    (case cn => k_is)
    (case ct => k_is)
    (case cm => k_is)
    (case sat => k_is)
    (case sge => k_is)
    (case stk => k_is)
    (case sty => k_is)
    (case six => k_is)
    (case mk => k_is)
    (case kc => k_is)
    (case sf => k_is)
    (case ne => k_is)
    (case ob => k_is)
    (case z_isinstance => k_is)
    (case z_int => k_is)
    (case z_bool => k_is)
    (case z_str => k_is)
    (case z_tuple => k_is)
    (case z_list => k_is)
    (case z_len => k_is)
    (case z_all => k_is)
    (case z_sorted => k_is)
    (case z_range => k_is)
    (case z_enumerate => k_is)
    (case z_iter => k_is)
    (case z_repr => k_is)
    (case z_set => k_is)
    (case z_sum => k_is)
    (case z_min => k_is)
    (case zL1 => k_is)
    (case zL2 => k_is)
